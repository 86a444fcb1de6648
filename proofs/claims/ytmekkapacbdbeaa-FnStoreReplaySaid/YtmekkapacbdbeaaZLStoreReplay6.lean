/- Part 6 of the proof of FnStoreReplay: words, contracts of callees, plain lemmas. -/
import Derived.Test.YtmekkapacbdbeaaZLStoreReplay5
set_option maxHeartbeats 8000000
set_option maxRecDepth 100000
set_option linter.unusedVariables false
set_option linter.unusedSimpArgs false
namespace Go.Proofs.Ytmekkapacbdbeaa.P
open Go.RowKit Go.Proofs.YtmekkapacbdbeaaW.PrintWords Go.Proofs.YtmekkapacbdbeaaW.PrintLast Go.Proofs.YtmekkapacbdbeaaW.PrintMore
theorem l5Some_c {w0 w:World} {g m:Nat} (hB:Below w0.heap.size w0 w) (hR:Rd w0 w g (m + 352)) :
  Calls Try.prog 47 #[.pointer (some ⟨g,0,none⟩)] w fun e w'=>∃ u t,e = .returned u∧StI w' w.heap.size w'.heap.size u t∧Small t∧Sized t∧Rd w0 w' g m∧Below w0.heap.size w0 w'∧Kept w w' (fun k=>g≤k∧k<g + 1):=by
 have HB0:=Ak hB
 have HG:=Ak hR.lt
 have HG0:=Ak hR.ge
 have HRD:=Ak hR
 have KP0:=Ak (Kept.refl w (fun k=>g≤k∧k<g + 1))
 have HT0:=Ak (Nat.le_refl w.heap.size)
 clear hB hR
 have hu26:=Try.underlying26
 go_enter Try.func47,Try.ntmps47
 have Z1:=Ak (And.intro HB0.out.size (And.intro HG.out HG0.out))
 go_wp2_with (first|((with_reducible refine gate_dst (N:=2) rfl ?_);refine ev_box ?hg (N:=2) ?hd (cs:=#[.slice none 0 0,.slice none 0 0,.slice none 0 0,.slice none 0 0,.slice none 0 0]) (t:=26) ?hr ?_;(case hd=>rfl);(case hg=>rfl);(case hr=>first|(go_simp;done)|(go_simp;rfl));intro g2 W2 HG5 BK3 HB4))
 obtain ⟨t8,ht_⟩:∃ x_,stNew=x_:=⟨_,rfl⟩
 have HT9:=Ak ht_
 clear ht_
 refine (spec_StoreNew_c HT9.out).mono ?_
 rintro e W11 ⟨u6,rfl,hr7,hb12⟩
 have HB13:=Ak hb12
 clear hb12
 have HRs10:=Ak hr7
 obtain ⟨as10_0,ds10_0,as10_1,ds10_1,as10_2,ds10_2,as10_3,ds10_3,as10_4,ds10_4,rfl,_⟩:=hr7.toC
 clear hr7
 go_wp2_with (first|((with_reducible refine gate_dst (N:=3) rfl ?_);refine ev_box ?hg (N:=3) ?hd (cs:=#[.slice none 0 0,.slice none 0 0,.slice none 0 0,.slice none 0 0,.slice none 0 0]) (t:=26) ?hr ?_;(case hd=>rfl);(case hg=>rfl);(case hr=>first|(go_simp;done)|(go_simp;rfl));intro g3 W14 HG17 BK15 HB16)|((with_reducible refine gate_store (t:=26) (p:=3) rfl ?_);refine ev_put (by rfl) rfl rfl (g:=g3) rfl (cs:=#[.slice as10_0 t8.now.length ds10_0,.slice as10_1 t8.sure.length ds10_1,.slice as10_2 t8.last.length ds10_2,.slice as10_3 t8.slast.length ds10_3,.slice as10_4 t8.floors.length ds10_4]) rfl BK15.out (by kernel_rfl) rfl rfl ?_;intro W18 BK19 HB20 HK21;have z0_:=Z1.out;have z1_:=HT0.out;have z2_:=HB4.out.size;have z3_:=HG5.out;have z4_:=BK3.out.lt;have z5_:=HB13.out.size;have z6_:=HB16.out.size;have z7_:=HG17.out;have z8_:=BK15.out.lt;have C22:=Ak (show w.heap.size≤g2∧g2≤g2 + 1 from (by omega));have C23:=Ak (show g2 + 1≤W2.heap.size∧W2.heap.size≤W11.heap.size from (by omega));have C24:=Ak (show W11.heap.size≤g3∧g3≤g3 + 1 from (by omega));have T25:=Ak (show g3 + 1≤W14.heap.size from (by omega));have HB26:=Ak (below_at (below_step HB0.out (below_step (below_step HB4.out HB13.out) HB16.out)) HB20.out (by show w0.heap.size≤g3;omega));have HK27:=Ak (HK21.out);have KP29:=Ak (kept_new (Kept.below KP0.out (below_step (below_step HB4.out HB13.out) HB16.out)) HK27.out (by show w.heap.size≤g3;omega));have T28:=Ak (Nat.le_trans T25.out HK27.out.1);have F30:=Ak (Bk.kept (Bk.below BK3.out (below_step HB13.out HB16.out)) HK27.out (fun h_=>(by obtain ⟨h1_,h2_⟩:=h_;omega)));have F31:=Ak (StR.kept (StR.below HRs10.out HB16.out) HK27.out (fun k_ h_=>(by obtain ⟨h1_,h2_⟩:=h_;omega)));have F32:=Ak (BK19.out);have F33:=Ak (Rd.kept (Rd.below HRD.out (below_step (below_step HB4.out HB13.out) HB16.out)) HK27.out (fun h_=>(by obtain ⟨h1_,h2_⟩:=h_;omega)));clear z0_ z1_ z2_ z3_ z4_ z5_ z6_ z7_ z8_;have Z34:=Ak (And.intro Z1.out (And.intro C22.out (And.intro C23.out C24.out))))|((with_reducible refine gate_dst (N:=7) rfl ?_);refine ev_lit (Kd.int .i64) 3 ?hg (N:=7) ?hd (xs:=([5,9,3,0,14]:List Int)) (inner:=[.int .i64 5,.int .i64 9,.int .i64 3,.int .i64 0,.int .i64 14]) ?hr (reps_int ([5,9,3,0,14]:List Int)) (by simp) ?_;(case hd=>rfl);(case hg=>rfl);(case hr=>first|(go_simp;done)|(go_simp;rfl));intro A35 c36 W38 HL37 HB39))
 refine (num_c (m:=m + 351) (Rd.below F33.out HB39.out) (below_step HB26.out HB39.out) HL37.out.1 HL37.out.2.1 (fun ad_ e_ h_=>(by have q_:=HL37.out.2.2 ad_ e_ h_;show ad_.block ≠ g;have z0_:=Z34.out;have z1_:=T28.out;have z2_:=HB39.out.size;omega)) (by decide)).mono ?_
 rintro e W45 ⟨r40,rfl,hm41,hR42,hb46,hk43⟩
 have z0_:=Z34.out
 have z1_:=T28.out
 have z2_:=HB39.out.size
 have T48:=Ak (show g3 + 1≤W38.heap.size from (by omega))
 have N49:=Ak (show ¬ (g≤g2∧g2<g + 1) from (by omega))
 have N50:=Ak (show ∀ k_,(g≤k_∧k_<g + 1)→k_<W2.heap.size∨W11.heap.size≤k_ from (by intro k_ h_;omega))
 have N51:=Ak (show ¬ (g≤g3∧g3<g + 1) from (by omega))
 have HB52:=Ak (hb46)
 have HK53:=Ak (hk43)
 have KP55:=Ak (Kept.then_ (Kept.below KP29.out HB39.out) HK53.out (fun _ h_=>Or.inl h_))
 have T54:=Ak (Nat.le_trans T48.out HK53.out.1)
 have F56:=Ak (Bk.kept (Bk.below F30.out HB39.out) HK53.out N49.out)
 have F57:=Ak (StR.kept (StR.below F31.out HB39.out) HK53.out N50.out)
 have F58:=Ak (Bk.kept (Bk.below F32.out HB39.out) HK53.out N51.out)
 have F59:=Ak (hR42)
 clear z0_ z1_ z2_ hb46 hk43 hR42
 have HM44:=Ak hm41
 clear hm41
 try go_wp2
 have HI0:=Ak (show 0≤(r40:Int)∧r40≤14 from (by have h_:=HM44.out;simp only [List.mem_cons,List.not_mem_nil,or_false] at h_;omega))
 go_loopg [4] ((r40).toNat) (fun k_ v4_ W60=>∃ (b0_:Option Addr) (n0_:Nat) (e0_:Nat) (b1_:Option Addr) (n1_:Nat) (e1_:Nat) (b2_:Option Addr) (n2_:Nat) (e2_:Nat) (b3_:Option Addr) (n3_:Nat) (e3_:Nat) (b4_:Option Addr) (n4_:Nat) (e4_:Nat) (t_:St) (lo_:Nat) (hi_:Nat) (i_:Int),v4_ = .int .i64 i_∧Aside0 (Bk W60 g2 #[.slice none 0 0,.slice none 0 0,.slice none 0 0,.slice none 0 0,.slice none 0 0] 26)∧Aside0 (Bk W60 g3 #[.slice b0_ n0_ e0_,.slice b1_ n1_ e1_,.slice b2_ n2_ e2_,.slice b3_ n3_ e3_,.slice b4_ n4_ e4_] 26)∧Aside0 (StI W60 lo_ hi_ (.agg #[.slice b0_ n0_ e0_,.slice b1_ n1_ e1_,.slice b2_ n2_ e2_,.slice b3_ n3_ e3_,.slice b4_ n4_ e4_]) (t_))∧Aside0 (Rd w0 W60 g (m + 25 * i_.toNat))∧Aside0 (Below w0.heap.size w0 W60)∧Aside0 (Kept w W60 (fun k=>g≤k∧k<g + 1))∧Aside0 (g3 + 1≤W60.heap.size)∧Aside0 (0≤i_∧i_≤14∧i_.toNat≤k_)∧Aside0 (w.heap.size≤lo_∧lo_≤hi_∧hi_≤W60.heap.size∧(g3<lo_∨hi_≤g3)∧(g2<lo_∨hi_≤g2))∧Aside0 (Small t_)∧Aside0 (Sized t_))
 case atStart=>exact ⟨_,_,_,_,_,_,_,_,_,_,_,_,_,_,_,t8,W2.heap.size,W11.heap.size,r40,rfl,⟨F56.out⟩,⟨F58.out⟩,⟨StR.toI F57.out⟩,⟨Rd.less F59.out (by have h0_:=HI0.out;omega)⟩,⟨HB52.out⟩,⟨KP55.out⟩,⟨(by show g3 + 1≤W45.heap.size;have z0_:=Z34.out;have z1_:=T54.out;omega)⟩,⟨⟨HI0.out.1,HI0.out.2,Nat.le_refl _⟩⟩,⟨(by show w.heap.size≤W2.heap.size∧W2.heap.size≤W11.heap.size∧W11.heap.size≤W45.heap.size∧(g3<W2.heap.size∨W11.heap.size≤g3)∧(g2<W2.heap.size∨W11.heap.size≤g2);have z0_:=Z34.out;have z1_:=T54.out;omega)⟩,⟨(small_new HT9.out)⟩,⟨(sized_new_e HT9.out)⟩⟩
 case round =>
  obtain ⟨W60,hW_⟩:∃ x_,x_=wr:=⟨_,rfl⟩
  subst hW_
  obtain ⟨b0_,n0_,e0_,b1_,n1_,e1_,b2_,n2_,e2_,b3_,n3_,e3_,b4_,n4_,e4_,t_,lo_,hi_,i_,rfl,BK61,BK62,HR63,RD64,HB65,KP66,HZ67,HX68,HX69,HX70,HX71⟩:=hrel
  have TW:=Ak (Nat.le_refl W60.heap.size)
  have Z72:=Ak (And.intro Z34.out (And.intro HX69.out HZ67.out))
  have HSt:=HX70
  have HZt:=HX71
  have HIk:=HX68
  obtain ⟨mq,hmq⟩:∃ mq_,mq_=m + 25 * (i_ - 1).toNat:=⟨_,rfl⟩
  have HQ:=Ak hmq
  clear hmq
  go_upto_if 10 with (fail)
  by_cases c73:i_ > 0
  ·have d74:decide (i_ > 0)=true:=decide_eq_true c73
   (first|rw [d74]|(simp only [i64_w,i32_w];rw [d74])|skip)
   have K75:=Ak c73
   clear c73
   have HPOS:=K75
   have RDq:=Ak (Rd.less RD64.out (show mq + 25≤m + 25 * i_.toNat from (by have h_:=HQ.out;have h1_:=HPOS.out;omega)))
   go_wp2_with (fail)
   refine (pick_c (m:=mq + 24) RDq.out HB65.out (by omega)).mono ?_
   rintro e W82 ⟨r76,rfl,h77,h78,hR79,hb83,hk80⟩
   have z0_:=Z72.out
   have z1_:=TW.out
   have T85:=Ak (show W60.heap.size≤W60.heap.size from (by omega))
   have N86:=Ak (show ∀ k_,(g≤k_∧k_<g + 1)→k_<lo_∨hi_≤k_ from (by intro k_ h_;omega))
   have HB87:=Ak (hb83)
   have HK88:=Ak (hk80)
   have KP90:=Ak (Kept.then_ KP66.out HK88.out (fun _ h_=>Or.inl h_))
   have T89:=Ak (Nat.le_trans T85.out HK88.out.1)
   have F91:=Ak (Bk.kept BK61.out HK88.out N49.out)
   have F92:=Ak (Bk.kept BK62.out HK88.out N51.out)
   have F93:=Ak (StI.kept HR63.out HK88.out N86.out)
   have F94:=Ak (hR79)
   clear z0_ z1_ hb83 hk80 hR79
   have HP81:=Ak (And.intro h77 h78)
   clear h77 h78
   go_upto_if 23 with (fail)
   by_cases c95:r76=0
   ·have d96:(r76 == 0)=true:=beq_iff_eq.mpr c95
    (first|rw [d96]|(simp only [i64_w,i32_w];rw [d96])|skip)
    have K97:=Ak c95
    clear c95
    go_wp2_with (first|((with_reducible refine gate_dst (N:=25) rfl ?_);refine ev_load rfl (N:=25) rfl rfl (g:=g3) rfl (cs:=#[.slice b0_ n0_ e0_,.slice b1_ n1_ e1_,.slice b2_ n2_ e2_,.slice b3_ n3_ e3_,.slice b4_ n4_ e4_]) F92.out hu26 rfl (by kernel_rfl) ?_))
    obtain ⟨t100,ht_⟩:∃ x_,syncSt t_=x_:=⟨_,rfl⟩
    have HT101:=Ak ht_
    clear ht_
    refine (spec_StoreSync_c (StI.toC F93.out) HZt.out HSt.out HT101.out).mono ?_
    rintro e W103 ⟨u98,rfl,hr99,hb104⟩
    have HB105:=Ak hb104
    clear hb104
    have HRs102:=Ak hr99
    obtain ⟨as102_0,ds102_0,as102_1,ds102_1,as102_2,ds102_2,as102_3,ds102_3,as102_4,ds102_4,rfl,_⟩:=hr99.toC
    clear hr99
    try go_wp2_with (first|((with_reducible refine gate_store (t:=26) (p:=3) rfl ?_);refine ev_put (by rfl) rfl rfl (g:=g3) rfl (cs:=#[.slice as102_0 t100.now.length ds102_0,.slice as102_1 t100.sure.length ds102_1,.slice as102_2 t100.last.length ds102_2,.slice as102_3 t100.slast.length ds102_3,.slice as102_4 t100.floors.length ds102_4]) rfl (Bk.below F92.out HB105.out) (by kernel_rfl) rfl rfl ?_;intro W106 BK107 HB108 HK109;have z0_:=Z72.out;have z1_:=T89.out;have z2_:=HB105.out.size;have C110:=Ak (show W60.heap.size≤W82.heap.size∧W82.heap.size≤W103.heap.size from (by omega));have T111:=Ak (show W103.heap.size≤W103.heap.size from (by omega));have HB112:=Ak (below_at (below_step HB87.out HB105.out) HB108.out (by show w0.heap.size≤g3;omega));have HK113:=Ak (HK109.out);have KP115:=Ak (kept_new (Kept.below KP90.out HB105.out) HK113.out (by show w.heap.size≤g3;omega));have T114:=Ak (Nat.le_trans T111.out HK113.out.1);have F116:=Ak (Bk.kept (Bk.below F91.out HB105.out) HK113.out (fun h_=>(by obtain ⟨h1_,h2_⟩:=h_;omega)));have F117:=Ak (BK107.out);have F118:=Ak (StI.kept (StI.below F93.out HB105.out) HK113.out (fun k_ h_=>(by obtain ⟨h1_,h2_⟩:=h_;omega)));have F119:=Ak (StR.kept HRs102.out HK113.out (fun k_ h_=>(by obtain ⟨h1_,h2_⟩:=h_;omega)));have F120:=Ak (Rd.kept (Rd.below F94.out HB105.out) HK113.out (fun h_=>(by obtain ⟨h1_,h2_⟩:=h_;omega)));clear z0_ z1_ z2_;have Z121:=Ak (And.intro Z72.out C110.out)))
    go_roundg ((i_ - 1).toNat)
    case measure=>have h_:=HIk.out;have h1_:=K75.out;omega
    case rel=>exact ⟨_,_,_,_,_,_,_,_,_,_,_,_,_,_,_,t100,W82.heap.size,W103.heap.size,i_ - 1,(by rw [w64 (by have h_:=HIk.out;have h1_:=HPOS.out;omega) (by have h_:=HIk.out;have h1_:=HPOS.out;omega)]),⟨F116.out⟩,⟨F117.out⟩,⟨StR.toI F119.out⟩,⟨Rd.less F120.out (by have h_:=HQ.out;omega)⟩,⟨HB112.out⟩,⟨KP115.out⟩,⟨(by show g3 + 1≤W106.heap.size;have z0_:=Z121.out;have z1_:=T114.out;omega)⟩,⟨(by have h_:=HIk.out;have h1_:=K75.out;exact ⟨by omega,by omega,by omega⟩)⟩,⟨(by show w.heap.size≤W82.heap.size∧W82.heap.size≤W103.heap.size∧W103.heap.size≤W106.heap.size∧(g3<W82.heap.size∨W103.heap.size≤g3)∧(g2<W82.heap.size∨W103.heap.size≤g2);have z0_:=Z121.out;have z1_:=T114.out;omega)⟩,⟨(syncSt_small HT101.out HSt.out)⟩,⟨(sized_sync_e HT101.out HZt.out)⟩⟩
   ·have d96:(r76 == 0)=false:=beq_eq_false_iff_ne.mpr c95
    (first|rw [d96]|(simp only [i64_w,i32_w];rw [d96])|skip)
    have K97:=Ak c95
    clear c95
    go_upto_if 27 with (fail)
    by_cases c122:r76=1
    ·have d123:(r76 == 1)=true:=beq_iff_eq.mpr c122
     (first|rw [d123]|(simp only [i64_w,i32_w];rw [d123])|skip)
     have K124:=Ak c122
     clear c122
     go_wp2_with (first|((with_reducible refine gate_dst (N:=29) rfl ?_);refine ev_load rfl (N:=29) rfl rfl (g:=g3) rfl (cs:=#[.slice b0_ n0_ e0_,.slice b1_ n1_ e1_,.slice b2_ n2_ e2_,.slice b3_ n3_ e3_,.slice b4_ n4_ e4_]) F92.out hu26 rfl (by kernel_rfl) ?_))
     obtain ⟨t127,ht_⟩:∃ x_,fallSt t_=x_:=⟨_,rfl⟩
     have HT128:=Ak ht_
     clear ht_
     refine (spec_StoreFall_c (StI.toC F93.out) HZt.out HSt.out HT128.out).mono ?_
     rintro e W130 ⟨u125,rfl,hr126,hb131⟩
     have HB132:=Ak hb131
     clear hb131
     have HRs129:=Ak hr126
     obtain ⟨as129_0,ds129_0,as129_1,ds129_1,as129_2,ds129_2,as129_3,ds129_3,as129_4,ds129_4,rfl,_⟩:=hr126.toC
     clear hr126
     try go_wp2_with (first|((with_reducible refine gate_store (t:=26) (p:=3) rfl ?_);refine ev_put (by rfl) rfl rfl (g:=g3) rfl (cs:=#[.slice as129_0 t127.now.length ds129_0,.slice as129_1 t127.sure.length ds129_1,.slice as129_2 t127.last.length ds129_2,.slice as129_3 t127.slast.length ds129_3,.slice as129_4 t127.floors.length ds129_4]) rfl (Bk.below F92.out HB132.out) (by kernel_rfl) rfl rfl ?_;intro W133 BK134 HB135 HK136;have z0_:=Z72.out;have z1_:=T89.out;have z2_:=HB132.out.size;have C137:=Ak (show W60.heap.size≤W82.heap.size∧W82.heap.size≤W130.heap.size from (by omega));have T138:=Ak (show W130.heap.size≤W130.heap.size from (by omega));have HB139:=Ak (below_at (below_step HB87.out HB132.out) HB135.out (by show w0.heap.size≤g3;omega));have HK140:=Ak (HK136.out);have KP142:=Ak (kept_new (Kept.below KP90.out HB132.out) HK140.out (by show w.heap.size≤g3;omega));have T141:=Ak (Nat.le_trans T138.out HK140.out.1);have F143:=Ak (Bk.kept (Bk.below F91.out HB132.out) HK140.out (fun h_=>(by obtain ⟨h1_,h2_⟩:=h_;omega)));have F144:=Ak (BK134.out);have F145:=Ak (StI.kept (StI.below F93.out HB132.out) HK140.out (fun k_ h_=>(by obtain ⟨h1_,h2_⟩:=h_;omega)));have F146:=Ak (StR.kept HRs129.out HK140.out (fun k_ h_=>(by obtain ⟨h1_,h2_⟩:=h_;omega)));have F147:=Ak (Rd.kept (Rd.below F94.out HB132.out) HK140.out (fun h_=>(by obtain ⟨h1_,h2_⟩:=h_;omega)));clear z0_ z1_ z2_;have Z148:=Ak (And.intro Z72.out C137.out)))
     go_roundg ((i_ - 1).toNat)
     case measure=>have h_:=HIk.out;have h1_:=K75.out;omega
     case rel=>exact ⟨_,_,_,_,_,_,_,_,_,_,_,_,_,_,_,t127,W82.heap.size,W130.heap.size,i_ - 1,(by rw [w64 (by have h_:=HIk.out;have h1_:=HPOS.out;omega) (by have h_:=HIk.out;have h1_:=HPOS.out;omega)]),⟨F143.out⟩,⟨F144.out⟩,⟨StR.toI F146.out⟩,⟨Rd.less F147.out (by have h_:=HQ.out;omega)⟩,⟨HB139.out⟩,⟨KP142.out⟩,⟨(by show g3 + 1≤W133.heap.size;have z0_:=Z148.out;have z1_:=T141.out;omega)⟩,⟨(by have h_:=HIk.out;have h1_:=K75.out;exact ⟨by omega,by omega,by omega⟩)⟩,⟨(by show w.heap.size≤W82.heap.size∧W82.heap.size≤W130.heap.size∧W130.heap.size≤W133.heap.size∧(g3<W82.heap.size∨W130.heap.size≤g3)∧(g2<W82.heap.size∨W130.heap.size≤g2);have z0_:=Z148.out;have z1_:=T141.out;omega)⟩,⟨(fallSt_small HT128.out HSt.out)⟩,⟨(sized_fall_e HT128.out HZt.out)⟩⟩
    ·have d123:(r76 == 1)=false:=beq_eq_false_iff_ne.mpr c122
     (first|rw [d123]|(simp only [i64_w,i32_w];rw [d123])|skip)
     have K124:=Ak c122
     clear c122
     go_upto_if 31 with (fail)
     by_cases c149:r76=2
     ·have d150:(r76 == 2)=true:=beq_iff_eq.mpr c149
      (first|rw [d150]|(simp only [i64_w,i32_w];rw [d150])|skip)
      have K151:=Ak c149
      clear c149
      go_wp2_with (fail)
      refine start_ (n:=10) (S:=fun w'=>Bk w' g3 #[.slice b0_ n0_ e0_,.slice b1_ n1_ e1_,.slice b2_ n2_ e2_,.slice b3_ n3_ e3_,.slice b4_ n4_ e4_] 26) (ds:=[9]) #[false,false,false,false,false,false,false,false,false,false] (by kernel_rfl) rfl rfl (show Bk W82 g3 #[.slice b0_ n0_ e0_,.slice b1_ n1_ e1_,.slice b2_ n2_ e2_,.slice b3_ n3_ e3_,.slice b4_ n4_ e4_] 26 from F92.out) (fun hHeld=>?_)
      clear hHeld
      refine world_at (w:=W82) (below_drew0 _) (fun W152 HB153=>?_)
      refine take_ (i:=0) (N:=some 34) (v:=.agg #[.slice b0_ n0_ e0_,.slice b1_ n1_ e1_,.slice b2_ n2_ e2_,.slice b3_ n3_ e3_,.slice b4_ n4_ e4_]) (a':=?_) #[T0,F0,F0,F0,F0,F0,F0,F0,F0,F0] rfl rfl (by kernel_rfl) (fun _ _ _ h=>h) (Or.inl ⟨by rfl,?_⟩) (Bk.below F92.out HB153.out) ?_ ?_
      ·rintro w' s0_
       exact run_load_ev rfl rfl s0_ hu26 rfl (by kernel_rfl)
      rotate_left
      ·simp only [Act.put,zzA,zzB,zzC,i64_w,i32_w]
       rfl
      refine pure_ (i:=1) (N:=some 35) (v:=?_) (a':=?_) #[T0,T0,F0,F0,F0,F0,F0,F0,F0,F0] rfl rfl (by kernel_rfl) (fun _ _ _ h=>h) (Or.inl ⟨by rfl,?_⟩) ?_ ?_
      rotate_left
      ·intro w'
       go_simp
       with_reducible rfl
      rotate_left
      ·simp only [Act.put,zzA,zzB,zzC,i64_w,i32_w]
       rfl
      refine pure_ (i:=3) (N:=some 37) (v:=?_) (a':=?_) #[T0,T0,F0,T0,F0,F0,F0,F0,F0,F0] rfl rfl (by kernel_rfl) (fun _ _ _ h=>h) (Or.inl ⟨by rfl,?_⟩) ?_ ?_
      rotate_left
      ·intro w'
       go_simp
       with_reducible rfl
      rotate_left
      ·simp only [Act.put,zzA,zzB,zzC,i64_w,i32_w]
       rfl
      refine one_ (i:=2) (N:=some 36) #[T0,T0,T0,T0,F0,F0,F0,F0,F0,F0] rfl rfl (by kernel_rfl) (by decide) (fun K hK=>?_)
      refine goes_ Try.func60 (by kernel_rfl) rfl #[.pointer (some ⟨g,0,none⟩),.int .i64 3] (by rfl) rfl rfl (by (try simp only [List.map_toArray,List.map_cons,List.map_nil]);first|done|rfl) ?_
      refine (pick_c (m:=mq + 23) (Rd.below F94.out HB153.out) (below_step HB87.out HB153.out) (by omega)).mono ?_
      rintro e W160 ⟨r154,rfl,h155,h156,hR157,hb161,hk158⟩
      have z0_:=Z72.out
      have z1_:=T89.out
      have z2_:=HB153.out.size
      have T163:=Ak (show W60.heap.size≤W152.heap.size from (by omega))
      have HB164:=Ak (hb161)
      have HK165:=Ak (hk158)
      have KP167:=Ak (Kept.then_ (Kept.below KP90.out HB153.out) HK165.out (fun _ h_=>Or.inl h_))
      have T166:=Ak (Nat.le_trans T163.out HK165.out.1)
      have F168:=Ak (Bk.kept (Bk.below F91.out HB153.out) HK165.out N49.out)
      have F169:=Ak (Bk.kept (Bk.below F92.out HB153.out) HK165.out N51.out)
      have F170:=Ak (StI.kept (StI.below F93.out HB153.out) HK165.out N86.out)
      have F171:=Ak (hR157)
      clear z0_ z1_ z2_ hb161 hk158 hR157
      have HP159:=Ak (And.intro h155 h156)
      clear h155 h156
      refine ⟨_,rfl,?_⟩
      refine hK.out _ _ F169.out (fun hHeld=>?_)
      clear hHeld hK K
      refine norm_ (a':=?_) ?_ ?_
      rotate_left
      ·show Act.put _ (some 36) _=_
       simp only [Act.put,zzA,zzB,zzC,i64_w,i32_w]
       rfl
      refine one_ (i:=4) (N:=some 38) #[T0,T0,T0,T0,T0,F0,F0,F0,F0,F0] rfl rfl (by kernel_rfl) (by decide) (fun K hK=>?_)
      refine goes_ Try.func60 (by kernel_rfl) rfl #[.pointer (some ⟨g,0,none⟩),.int .i64 4] (by rfl) rfl rfl (by (try simp only [List.map_toArray,List.map_cons,List.map_nil]);first|done|rfl) ?_
      refine (pick_c (m:=mq + 22) F171.out HB164.out (by omega)).mono ?_
      rintro e W178 ⟨r172,rfl,h173,h174,hR175,hb179,hk176⟩
      have HB181:=Ak (hb179)
      have HK182:=Ak (hk176)
      have KP184:=Ak (Kept.then_ KP167.out HK182.out (fun _ h_=>Or.inl h_))
      have T183:=Ak (Nat.le_trans T166.out HK182.out.1)
      have F185:=Ak (Bk.kept F168.out HK182.out N49.out)
      have F186:=Ak (Bk.kept F169.out HK182.out N51.out)
      have F187:=Ak (StI.kept F170.out HK182.out N86.out)
      have F188:=Ak (hR175)
      clear hb179 hk176 hR175
      have HP177:=Ak (And.intro h173 h174)
      clear h173 h174
      refine ⟨_,rfl,?_⟩
      refine hK.out _ _ F186.out (fun hHeld=>?_)
      clear hHeld hK K
      refine norm_ (a':=?_) ?_ ?_
      rotate_left
      ·show Act.put _ (some 38) _=_
       simp only [Act.put,zzA,zzB,zzC,i64_w,i32_w]
       rfl
      refine one_ (i:=5) (N:=some 39) #[T0,T0,T0,T0,T0,T0,F0,F0,F0,F0] rfl rfl (by kernel_rfl) (by decide) (fun K hK=>?_)
      refine goes_ Try.func43 (by kernel_rfl) rfl #[.agg #[.slice b0_ n0_ e0_,.slice b1_ n1_ e1_,.slice b2_ n2_ e2_,.slice b3_ n3_ e3_,.slice b4_ n4_ e4_],.int .i64 r154,.int .i64 r172] (by rfl) rfl rfl (by (try simp only [List.map_toArray,List.map_cons,List.map_nil]);first|done|rfl) ?_
      obtain ⟨⟨t191,q193⟩,ht_⟩:∃ x_,fenceSt t_ r154 r172=x_:=⟨_,rfl⟩
      have HT192:=Ak ht_
      clear ht_
      refine (spec_StoreFence_c (StI.toC F187.out) HZt.out HSt.out HT192.out).mono ?_
      rintro e W195 ⟨u189,rfl,hr190,hb196⟩
      have HB197:=Ak hb196
      clear hb196
      have HRs194:=Ak hr190
      obtain ⟨as194_0,ds194_0,as194_1,ds194_1,as194_2,ds194_2,as194_3,ds194_3,as194_4,ds194_4,rfl,_⟩:=hr190.toC
      clear hr190
      refine ⟨_,rfl,?_⟩
      refine hK.out _ _ (Bk.below F186.out HB197.out) (fun hHeld=>?_)
      clear hHeld hK K
      refine norm_ (a':=?_) ?_ ?_
      rotate_left
      ·show Act.put _ (some 39) _=_
       simp only [Act.put,zzA,zzB,zzC,i64_w,i32_w]
       rfl
      refine pure_ (i:=6) (N:=some 33) (v:=?_) (a':=?_) #[T0,T0,T0,T0,T0,T0,T0,F0,F0,F0] rfl rfl (by kernel_rfl) (fun _ _ _ h=>h) (Or.inl ⟨by rfl,?_⟩) ?_ ?_
      rotate_left
      ·intro w'
       go_simp
       with_reducible rfl
      rotate_left
      ·simp only [Act.put,zzA,zzB,zzC,i64_w,i32_w]
       rfl
      refine pure_ (i:=7) (N:=some 40) (v:=?_) (a':=?_) #[T0,T0,T0,T0,T0,T0,T0,T0,F0,F0] rfl rfl (by kernel_rfl) (fun _ _ _ h=>h) (Or.inl ⟨by rfl,?_⟩) ?_ ?_
      rotate_left
      ·intro w'
       go_simp
       with_reducible rfl
      rotate_left
      ·simp only [Act.put,zzA,zzB,zzC,i64_w,i32_w]
       rfl
      refine pure_ (i:=8) (N:=some 41) (v:=?_) (a':=?_) #[T0,T0,T0,T0,T0,T0,T0,T0,T0,F0] rfl rfl (by kernel_rfl) (fun _ _ _ h=>h) (Or.inl ⟨by rfl,?_⟩) ?_ ?_
      rotate_left
      ·intro w'
       go_simp
       with_reducible rfl
      rotate_left
      ·simp only [Act.put,zzA,zzB,zzC,i64_w,i32_w]
       rfl
      refine last_ (i:=9) (N:=none) #[T0,T0,T0,T0,T0,T0,T0,T0,T0,T0] rfl rfl (by kernel_rfl) (by decide) (fun K hK=>?_)
      refine wp_storeRow_step (by rfl) rfl rfl (g:=g3) (cs:=#[.slice as194_0 t191.now.length ds194_0,.slice as194_1 t191.sure.length ds194_1,.slice as194_2 t191.last.length ds194_2,.slice as194_3 t191.slast.length ds194_3,.slice as194_4 t191.floors.length ds194_4]) rfl rfl (Bk.below F186.out HB197.out) (by kernel_rfl) rfl rfl ?_
      intro W198 hbk199 hg200
      have z0_:=Z72.out
      have z1_:=T183.out
      have z2_:=HB197.out.size
      have C201:=Ak (show W60.heap.size≤W178.heap.size∧W178.heap.size≤W195.heap.size from (by omega))
      have T202:=Ak (show W195.heap.size≤W195.heap.size from (by omega))
      have HB203:=Ak (below_at (below_step HB181.out HB197.out) hg200.1 (by show w0.heap.size≤g3;omega))
      have HK204:=Ak (kept_row hg200)
      have KP206:=Ak (kept_new (Kept.below KP184.out HB197.out) HK204.out (by show w.heap.size≤g3;omega))
      have T205:=Ak (Nat.le_trans T202.out HK204.out.1)
      have F207:=Ak (Bk.kept (Bk.below F185.out HB197.out) HK204.out (fun h_=>(by obtain ⟨h1_,h2_⟩:=h_;omega)))
      have F208:=Ak (hbk199)
      have F209:=Ak (StI.kept (StI.below F187.out HB197.out) HK204.out (fun k_ h_=>(by obtain ⟨h1_,h2_⟩:=h_;omega)))
      have F210:=Ak (StR.kept HRs194.out HK204.out (fun k_ h_=>(by obtain ⟨h1_,h2_⟩:=h_;omega)))
      have F211:=Ak (Rd.kept (Rd.below F188.out HB197.out) HK204.out (fun h_=>(by obtain ⟨h1_,h2_⟩:=h_;omega)))
      clear z0_ z1_ z2_ hbk199 hg200
      have Z212:=Ak (And.intro Z72.out C201.out)
      refine hK.out _ _ ?_
      clear hK K
      refine done_ (by kernel_rfl) ?_
      try go_wp2
      go_roundg ((i_ - 1).toNat)
      case measure=>have h_:=HIk.out;have h1_:=K75.out;omega
      case rel=>exact ⟨_,_,_,_,_,_,_,_,_,_,_,_,_,_,_,t191,W178.heap.size,W195.heap.size,i_ - 1,(by rw [w64 (by have h_:=HIk.out;have h1_:=HPOS.out;omega) (by have h_:=HIk.out;have h1_:=HPOS.out;omega)]),⟨F207.out⟩,⟨F208.out⟩,⟨StR.toI F210.out⟩,⟨Rd.less F211.out (by have h_:=HQ.out;omega)⟩,⟨HB203.out⟩,⟨KP206.out⟩,⟨(by show g3 + 1≤W198.heap.size;have z0_:=Z212.out;have z1_:=T205.out;omega)⟩,⟨(by have h_:=HIk.out;have h1_:=K75.out;exact ⟨by omega,by omega,by omega⟩)⟩,⟨(by show w.heap.size≤W178.heap.size∧W178.heap.size≤W195.heap.size∧W195.heap.size≤W198.heap.size∧(g3<W178.heap.size∨W195.heap.size≤g3)∧(g2<W178.heap.size∨W195.heap.size≤g2);have z0_:=Z212.out;have z1_:=T205.out;omega)⟩,⟨(fenceSt_small HT192.out HSt.out)⟩,⟨(sized_fence_e HT192.out HZt.out)⟩⟩
     ·have d150:(r76 == 2)=false:=beq_eq_false_iff_ne.mpr c149
      (first|rw [d150]|(simp only [i64_w,i32_w];rw [d150])|skip)
      have K151:=Ak c149
      clear c149
      go_wp2_with (fail)
      refine start_ (n:=9) (S:=fun w'=>Bk w' g3 #[.slice b0_ n0_ e0_,.slice b1_ n1_ e1_,.slice b2_ n2_ e2_,.slice b3_ n3_ e3_,.slice b4_ n4_ e4_] 26) (ds:=[8]) #[false,false,false,false,false,false,false,false,false] (by kernel_rfl) rfl rfl (show Bk W82 g3 #[.slice b0_ n0_ e0_,.slice b1_ n1_ e1_,.slice b2_ n2_ e2_,.slice b3_ n3_ e3_,.slice b4_ n4_ e4_] 26 from F92.out) (fun hHeld=>?_)
      clear hHeld
      refine world_at (w:=W82) (below_drew0 _) (fun W213 HB214=>?_)
      refine take_ (i:=0) (N:=some 16) (v:=.agg #[.slice b0_ n0_ e0_,.slice b1_ n1_ e1_,.slice b2_ n2_ e2_,.slice b3_ n3_ e3_,.slice b4_ n4_ e4_]) (a':=?_) #[T0,F0,F0,F0,F0,F0,F0,F0,F0] rfl rfl (by kernel_rfl) (fun _ _ _ h=>h) (Or.inl ⟨by rfl,?_⟩) (Bk.below F92.out HB214.out) ?_ ?_
      ·rintro w' s0_
       exact run_load_ev rfl rfl s0_ hu26 rfl (by kernel_rfl)
      rotate_left
      ·simp only [Act.put,zzA,zzB,zzC,i64_w,i32_w]
       rfl
      refine pure_ (i:=1) (N:=some 17) (v:=?_) (a':=?_) #[T0,T0,F0,F0,F0,F0,F0,F0,F0] rfl rfl (by kernel_rfl) (fun _ _ _ h=>h) (Or.inl ⟨by rfl,?_⟩) ?_ ?_
      rotate_left
      ·intro w'
       go_simp
       with_reducible rfl
      rotate_left
      ·simp only [Act.put,zzA,zzB,zzC,i64_w,i32_w]
       rfl
      refine take_ (i:=2) (N:=some 18) (v:=.agg #[.slice b0_ n0_ e0_,.slice b1_ n1_ e1_,.slice b2_ n2_ e2_,.slice b3_ n3_ e3_,.slice b4_ n4_ e4_]) (a':=?_) #[T0,T0,T0,F0,F0,F0,F0,F0,F0] rfl rfl (by kernel_rfl) (fun _ _ _ h=>h) (Or.inl ⟨by rfl,?_⟩) (Bk.below F92.out HB214.out) ?_ ?_
      ·rintro w' s0_
       exact run_load_ev rfl rfl s0_ hu26 rfl (by kernel_rfl)
      rotate_left
      ·simp only [Act.put,zzA,zzB,zzC,i64_w,i32_w]
       rfl
      refine one_ (i:=3) (N:=some 19) #[T0,T0,T0,T0,F0,F0,F0,F0,F0] rfl rfl (by kernel_rfl) (by decide) (fun K hK=>?_)
      refine goes_ Try.func61 (by kernel_rfl) rfl #[.pointer (some ⟨g,0,none⟩),.agg #[.slice b0_ n0_ e0_,.slice b1_ n1_ e1_,.slice b2_ n2_ e2_,.slice b3_ n3_ e3_,.slice b4_ n4_ e4_]] (by rfl) rfl rfl (by (try simp only [List.map_toArray,List.map_cons,List.map_nil]);first|done|rfl) ?_
      refine (l5Ask_c (m:=mq + 4) (below_step HB87.out HB214.out) (Rd.below F94.out HB214.out) (StI.below F93.out HB214.out) (by show g<lo_∨hi_≤g;have z0_:=Z72.out;have z1_:=T89.out;have z2_:=HB214.out.size;omega) (by show hi_≤W213.heap.size;have z0_:=Z72.out;have z1_:=T89.out;have z2_:=HB214.out.size;omega)).mono ?_
      rintro e W225 ⟨who215,ep216,num217,obj218,at219,data220,rfl,hd221,hR222,hb226,hk223⟩
      have z0_:=Z72.out
      have z1_:=T89.out
      have z2_:=HB214.out.size
      have T228:=Ak (show W60.heap.size≤W213.heap.size from (by omega))
      have HB229:=Ak (hb226)
      have HK230:=Ak (hk223)
      have KP232:=Ak (Kept.then_ (Kept.below KP90.out HB214.out) HK230.out (fun _ h_=>Or.inl h_))
      have T231:=Ak (Nat.le_trans T228.out HK230.out.1)
      have F233:=Ak (Bk.kept (Bk.below F91.out HB214.out) HK230.out N49.out)
      have F234:=Ak (Bk.kept (Bk.below F92.out HB214.out) HK230.out N51.out)
      have F235:=Ak (StI.kept (StI.below F93.out HB214.out) HK230.out N86.out)
      have F236:=Ak (hR222)
      clear z0_ z1_ z2_ hb226 hk223 hR222
      have HD224:=Ak hd221
      clear hd221
      refine ⟨_,rfl,?_⟩
      refine hK.out _ _ F234.out (fun hHeld=>?_)
      clear hHeld hK K
      refine norm_ (a':=?_) ?_ ?_
      rotate_left
      ·show Act.put _ (some 19) _=_
       simp only [Act.put,zzA,zzB,zzC,i64_w,i32_w]
       rfl
      refine one_ (i:=4) (N:=some 20) #[T0,T0,T0,T0,T0,F0,F0,F0,F0] rfl rfl (by kernel_rfl) (by decide) (fun K hK=>?_)
      refine goes_ Try.func39 (by kernel_rfl) rfl #[.agg #[.slice b0_ n0_ e0_,.slice b1_ n1_ e1_,.slice b2_ n2_ e2_,.slice b3_ n3_ e3_,.slice b4_ n4_ e4_],.agg #[.int .i64 who215,.int .i64 ep216,.int .i64 num217,.int .i64 obj218,.int .i64 at219,.string data220]] (by rfl) rfl rfl (by (try simp only [List.map_toArray,List.map_cons,List.map_nil]);first|done|rfl) ?_
      obtain ⟨⟨t239,q241⟩,ht_⟩:∃ x_,storeDo t_ ⟨who215,ep216,num217,obj218,at219,data220⟩=x_:=⟨_,rfl⟩
      have HT240:=Ak ht_
      clear ht_
      refine (spec_StoreDo_c (StI.toC F235.out) HZt.out HSt.out HD224.out HT240.out).mono ?_
      rintro e W243 ⟨u237,rfl,hr238,hb244⟩
      have HB245:=Ak hb244
      clear hb244
      have HRs242:=Ak hr238
      obtain ⟨as242_0,ds242_0,as242_1,ds242_1,as242_2,ds242_2,as242_3,ds242_3,as242_4,ds242_4,rfl,_⟩:=hr238.toC
      clear hr238
      refine ⟨_,rfl,?_⟩
      refine hK.out _ _ (Bk.below F234.out HB245.out) (fun hHeld=>?_)
      clear hHeld hK K
      refine norm_ (a':=?_) ?_ ?_
      rotate_left
      ·show Act.put _ (some 20) _=_
       simp only [Act.put,zzA,zzB,zzC,i64_w,i32_w]
       rfl
      refine pure_ (i:=5) (N:=some 15) (v:=?_) (a':=?_) #[T0,T0,T0,T0,T0,T0,F0,F0,F0] rfl rfl (by kernel_rfl) (fun _ _ _ h=>h) (Or.inl ⟨by rfl,?_⟩) ?_ ?_
      rotate_left
      ·intro w'
       go_simp
       with_reducible rfl
      rotate_left
      ·simp only [Act.put,zzA,zzB,zzC,i64_w,i32_w]
       rfl
      refine pure_ (i:=6) (N:=some 21) (v:=?_) (a':=?_) #[T0,T0,T0,T0,T0,T0,T0,F0,F0] rfl rfl (by kernel_rfl) (fun _ _ _ h=>h) (Or.inl ⟨by rfl,?_⟩) ?_ ?_
      rotate_left
      ·intro w'
       go_simp
       with_reducible rfl
      rotate_left
      ·simp only [Act.put,zzA,zzB,zzC,i64_w,i32_w]
       rfl
      refine pure_ (i:=7) (N:=some 22) (v:=?_) (a':=?_) #[T0,T0,T0,T0,T0,T0,T0,T0,F0] rfl rfl (by kernel_rfl) (fun _ _ _ h=>h) (Or.inl ⟨by rfl,?_⟩) ?_ ?_
      rotate_left
      ·intro w'
       go_simp
       with_reducible rfl
      rotate_left
      ·simp only [Act.put,zzA,zzB,zzC,i64_w,i32_w]
       rfl
      refine last_ (i:=8) (N:=none) #[T0,T0,T0,T0,T0,T0,T0,T0,T0] rfl rfl (by kernel_rfl) (by decide) (fun K hK=>?_)
      refine wp_storeRow_step (by rfl) rfl rfl (g:=g3) (cs:=#[.slice as242_0 t239.now.length ds242_0,.slice as242_1 t239.sure.length ds242_1,.slice as242_2 t239.last.length ds242_2,.slice as242_3 t239.slast.length ds242_3,.slice as242_4 t239.floors.length ds242_4]) rfl rfl (Bk.below F234.out HB245.out) (by kernel_rfl) rfl rfl ?_
      intro W246 hbk247 hg248
      have z0_:=Z72.out
      have z1_:=T231.out
      have z2_:=HB245.out.size
      have C249:=Ak (show W60.heap.size≤W225.heap.size∧W225.heap.size≤W243.heap.size from (by omega))
      have T250:=Ak (show W243.heap.size≤W243.heap.size from (by omega))
      have HB251:=Ak (below_at (below_step HB229.out HB245.out) hg248.1 (by show w0.heap.size≤g3;omega))
      have HK252:=Ak (kept_row hg248)
      have KP254:=Ak (kept_new (Kept.below KP232.out HB245.out) HK252.out (by show w.heap.size≤g3;omega))
      have T253:=Ak (Nat.le_trans T250.out HK252.out.1)
      have F255:=Ak (Bk.kept (Bk.below F233.out HB245.out) HK252.out (fun h_=>(by obtain ⟨h1_,h2_⟩:=h_;omega)))
      have F256:=Ak (hbk247)
      have F257:=Ak (StI.kept (StI.below F235.out HB245.out) HK252.out (fun k_ h_=>(by obtain ⟨h1_,h2_⟩:=h_;omega)))
      have F258:=Ak (StR.kept HRs242.out HK252.out (fun k_ h_=>(by obtain ⟨h1_,h2_⟩:=h_;omega)))
      have F259:=Ak (Rd.kept (Rd.below F236.out HB245.out) HK252.out (fun h_=>(by obtain ⟨h1_,h2_⟩:=h_;omega)))
      clear z0_ z1_ z2_ hbk247 hg248
      have Z260:=Ak (And.intro Z72.out C249.out)
      refine hK.out _ _ ?_
      clear hK K
      refine done_ (by kernel_rfl) ?_
      try go_wp2
      go_roundg ((i_ - 1).toNat)
      case measure=>have h_:=HIk.out;have h1_:=K75.out;omega
      case rel=>exact ⟨_,_,_,_,_,_,_,_,_,_,_,_,_,_,_,t239,W225.heap.size,W243.heap.size,i_ - 1,(by rw [w64 (by have h_:=HIk.out;have h1_:=HPOS.out;omega) (by have h_:=HIk.out;have h1_:=HPOS.out;omega)]),⟨F255.out⟩,⟨F256.out⟩,⟨StR.toI F258.out⟩,⟨Rd.less F259.out (by have h_:=HQ.out;omega)⟩,⟨HB251.out⟩,⟨KP254.out⟩,⟨(by show g3 + 1≤W246.heap.size;have z0_:=Z260.out;have z1_:=T253.out;omega)⟩,⟨(by have h_:=HIk.out;have h1_:=K75.out;exact ⟨by omega,by omega,by omega⟩)⟩,⟨(by show w.heap.size≤W225.heap.size∧W225.heap.size≤W243.heap.size∧W243.heap.size≤W246.heap.size∧(g3<W225.heap.size∨W243.heap.size≤g3)∧(g2<W225.heap.size∨W243.heap.size≤g2);have z0_:=Z260.out;have z1_:=T253.out;omega)⟩,⟨(storeDo_small HT240.out HSt.out)⟩,⟨(sized_do_e HT240.out HZt.out)⟩⟩
  ·have d74:decide (i_ > 0)=false:=decide_eq_false c73
   (first|rw [d74]|(simp only [i64_w,i32_w];rw [d74])|skip)
   have K75:=Ak c73
   clear c73
   go_wp2_with (first|((with_reducible refine gate_dst (N:=42) rfl ?_);refine ev_load rfl (N:=42) rfl rfl (g:=g3) rfl (cs:=#[.slice b0_ n0_ e0_,.slice b1_ n1_ e1_,.slice b2_ n2_ e2_,.slice b3_ n3_ e3_,.slice b4_ n4_ e4_]) BK62.out hu26 rfl (by kernel_rfl) ?_)|((with_reducible refine gate_store (t:=26) (p:=2) rfl ?_);refine ev_put (by rfl) rfl rfl (g:=g2) rfl (cs:=#[.slice b0_ n0_ e0_,.slice b1_ n1_ e1_,.slice b2_ n2_ e2_,.slice b3_ n3_ e3_,.slice b4_ n4_ e4_]) rfl BK61.out (by kernel_rfl) rfl rfl ?_;intro W261 BK262 HB263 HK264;have z0_:=Z72.out;have z1_:=TW.out;have T265:=Ak (show W60.heap.size≤W60.heap.size from (by omega));have HB266:=Ak (below_at HB65.out HB263.out (by show w0.heap.size≤g2;omega));have HK267:=Ak (HK264.out);have KP269:=Ak (kept_new KP66.out HK267.out (by show w.heap.size≤g2;omega));have T268:=Ak (Nat.le_trans T265.out HK267.out.1);have F270:=Ak (BK262.out);have F271:=Ak (Bk.kept BK62.out HK267.out (fun h_=>(by obtain ⟨h1_,h2_⟩:=h_;omega)));have F272:=Ak (StI.kept HR63.out HK267.out (fun k_ h_=>(by obtain ⟨h1_,h2_⟩:=h_;omega)));have F273:=Ak (Rd.kept RD64.out HK267.out (fun h_=>(by obtain ⟨h1_,h2_⟩:=h_;omega)));clear z0_ z1_))
   try go_wp2
   refine bodyPost_ret (results_cell_row rfl _ _ g2 26 #[.slice b0_ n0_ e0_,.slice b1_ n1_ e1_,.slice b2_ n2_ e2_,.slice b3_ n3_ e3_,.slice b4_ n4_ e4_] (0,0) _ rfl F270.out hu26 rfl (by kernel_rfl)) rfl ?_
   have HWI:=StI.widen F272.out (lo':=w.heap.size) (hi':=W261.heap.size) (by have z0_:=Z72.out;have z1_:=T268.out;omega) (by have z0_:=Z72.out;have z1_:=T268.out;omega);have HRL:=Rd.less F273.out (show m≤_ by omega);first|exact ⟨_,_,rfl,HWI,HSt.out,HZt.out,HRL,HB266.out,KP269.out⟩|exact ⟨_,rfl,_,HWI,HSt.out,HZt.out,HRL,HB266.out,KP269.out⟩
theorem l5List_c {w0 w:World} {g m:Nat} (hB:Below w0.heap.size w0 w) (hR:Rd w0 w g (m + 201)) {v:Value} {s:St} {lo hi:Nat} (hv:StI w lo hi v s) (hf:g<lo∨hi≤g) (hhi:hi≤w.heap.size) (hs:Small s) (hz:Sized s) :
  Calls Try.prog 48 #[.pointer (some ⟨g,0,none⟩),v] w fun e w'=>(∃ v' l' xs b',e = .returned v'∧RowB w' l' b' v' xs∧w.heap.size≤l'∧b'<w'.heap.size∧xs.length≤8∧(∀ x ∈ xs,x.f5.size≤9223372036854775807))∧Rd w0 w' g m∧Below w0.heap.size w0 w'∧Kept w w' (fun k=>g≤k∧k<g + 1):=by
 have HB0:=Ak hB
 have HG:=Ak hR.lt
 have HG0:=Ak hR.ge
 have HRD:=Ak hR
 have KP0:=Ak (Kept.refl w (fun k=>g≤k∧k<g + 1))
 have HT0:=Ak (Nat.le_refl w.heap.size)
 clear hB hR
 have HV0:=Ak hv
 have HF:=Ak hf
 have HHI:=Ak hhi
 obtain ⟨A0_0,c0_0,A0_1,c0_1,A0_2,c0_2,A0_3,c0_3,A0_4,c0_4,rfl,_⟩:=hv.toC
 clear hv hf hhi
 have HS0:=Ak hs
 have HZ0:=Ak hz
 clear hs hz
 have hu26:=Try.underlying26
 have hu52:=Try.underlying52
 go_enter Try.func48,Try.ntmps48
 have Z1:=Ak (And.intro HB0.out.size (And.intro HG.out HG0.out))
 have Z2:=Ak (And.intro Z1.out (And.intro HF.out HHI.out))
 go_wp2_with (first|((with_reducible refine gate_dst (N:=3) rfl ?_);refine ev_box ?hg (N:=3) ?hd (cs:=#[.slice A0_0 s.now.length c0_0,.slice A0_1 s.sure.length c0_1,.slice A0_2 s.last.length c0_2,.slice A0_3 s.slast.length c0_3,.slice A0_4 s.floors.length c0_4]) (t:=26) ?hr ?_;(case hd=>rfl);(case hg=>rfl);(case hr=>first|(go_simp;done)|(go_simp;rfl));intro g3 W3 HG6 BK4 HB5)|((with_reducible refine gate_dst (N:=8) rfl ?_);refine ev_none ?hg (N:=8) ?hd ?hr ?_;(case hd=>rfl);(case hg=>rfl);(case hr=>first|(go_simp;done)|(go_simp;rfl));intro b7 A8 c9 W10 HR11 HB12)|((with_reducible refine gate_dst (N:=10) rfl ?_);refine ev_lit (Kd.int .i64) 3 ?hg (N:=10) ?hd (xs:=([3,5,8,1,0]:List Int)) (inner:=[.int .i64 3,.int .i64 5,.int .i64 8,.int .i64 1,.int .i64 0]) ?hr (reps_int ([3,5,8,1,0]:List Int)) (by simp) ?_;(case hd=>rfl);(case hg=>rfl);(case hr=>first|(go_simp;done)|(go_simp;rfl));intro A13 c14 W16 HL15 HB17))
 refine (num_c (m:=m + 200) (Rd.below HRD.out (below_step (below_step HB5.out HB12.out) HB17.out)) (below_step HB0.out (below_step (below_step HB5.out HB12.out) HB17.out)) HL15.out.1 HL15.out.2.1 (fun ad_ e_ h_=>(by have q_:=HL15.out.2.2 ad_ e_ h_;show ad_.block ≠ g;have z0_:=Z2.out;have z1_:=HT0.out;have z2_:=HB5.out.size;have z3_:=HG6.out;have z4_:=BK4.out.lt;have z5_:=HB12.out.size;have z6_:=HR11.out.ge;have z7_:=HR11.out.lt;have z8_:=HB17.out.size;omega)) (by decide)).mono ?_
 rintro e W23 ⟨r18,rfl,hm19,hR20,hb24,hk21⟩
 have z0_:=Z2.out
 have z1_:=HT0.out
 have z2_:=HB5.out.size
 have z3_:=HG6.out
 have z4_:=BK4.out.lt
 have z5_:=HB12.out.size
 have z6_:=HR11.out.ge
 have z7_:=HR11.out.lt
 have z8_:=HB17.out.size
 have C26:=Ak (show w.heap.size≤g3∧g3≤g3 + 1 from (by omega))
 have C27:=Ak (show g3 + 1≤W3.heap.size∧W3.heap.size≤W3.heap.size from (by omega))
 have C28:=Ak (show W3.heap.size≤b7∧b7≤b7 + 1 from (by omega))
 have T29:=Ak (show b7 + 1≤W16.heap.size from (by omega))
 have N30:=Ak (show ∀ k_,(g≤k_∧k_<g + 1)→k_<lo∨hi≤k_ from (by intro k_ h_;omega))
 have N31:=Ak (show ¬ (g≤g3∧g3<g + 1) from (by omega))
 have N32:=Ak (show ¬ (g≤b7∧b7<g + 1) from (by omega))
 have HB33:=Ak (hb24)
 have HK34:=Ak (hk21)
 have KP36:=Ak (Kept.then_ (Kept.below KP0.out (below_step (below_step HB5.out HB12.out) HB17.out)) HK34.out (fun _ h_=>Or.inl h_))
 have T35:=Ak (Nat.le_trans T29.out HK34.out.1)
 have F37:=Ak (StI.kept (StI.below HV0.out (below_step (below_step HB5.out HB12.out) HB17.out)) HK34.out N30.out)
 have F38:=Ak (Bk.kept (Bk.below BK4.out (below_step HB12.out HB17.out)) HK34.out N31.out)
 have F39:=Ak (RowB.kept (RowB.below HR11.out HB17.out) HK34.out N32.out)
 have F40:=Ak (hR20)
 clear z0_ z1_ z2_ z3_ z4_ z5_ z6_ z7_ z8_ hb24 hk21 hR20
 have Z41:=Ak (And.intro Z2.out (And.intro C26.out (And.intro C27.out C28.out)))
 have HM22:=Ak hm19
 clear hm19
 try go_wp2
 have HI0:=Ak (show 0≤(r18:Int)∧r18≤8 from (by have h_:=HM22.out;simp only [List.mem_cons,List.not_mem_nil,or_false] at h_;omega))
 go_loopg [5,6] ((r18).toNat) (fun k_ v5_ v6_ W42=>∃ (b0_:Option Addr) (n0_:Nat) (e0_:Nat) (b1_:Option Addr) (n1_:Nat) (e1_:Nat) (b2_:Option Addr) (n2_:Nat) (e2_:Nat) (b3_:Option Addr) (n3_:Nat) (e3_:Nat) (b4_:Option Addr) (n4_:Nat) (e4_:Nat) (t_:St) (lo_:Nat) (hi_:Nat) (RA_:Option Addr) (rc_:Nat) (xs_:List S52) (b_:Nat) (i_:Int),v5_ = .slice RA_ xs_.length rc_∧v6_ = .int .i64 i_∧Aside0 (Bk W42 g3 #[.slice b0_ n0_ e0_,.slice b1_ n1_ e1_,.slice b2_ n2_ e2_,.slice b3_ n3_ e3_,.slice b4_ n4_ e4_] 26)∧Aside0 (RowB W42 W3.heap.size b_ (.slice RA_ xs_.length rc_) (xs_))∧Aside0 (StI W42 lo_ hi_ (.agg #[.slice b0_ n0_ e0_,.slice b1_ n1_ e1_,.slice b2_ n2_ e2_,.slice b3_ n3_ e3_,.slice b4_ n4_ e4_]) (t_))∧Aside0 (Rd w0 W42 g (m + 25 * i_.toNat))∧Aside0 (Below w0.heap.size w0 W42)∧Aside0 (Kept w W42 (fun k=>g≤k∧k<g + 1))∧Aside0 (b7 + 1≤W42.heap.size)∧Aside0 (0≤i_∧i_≤8∧i_.toNat≤k_)∧Aside0 (hi_≤W42.heap.size∧(g<lo_∨hi_≤g)∧(g3<lo_∨hi_≤g3))∧Aside0 (W3.heap.size≤b_∧w.heap.size≤b_∧b_<W42.heap.size∧(b_<lo_∨hi_≤b_)∧b_ ≠ g3)∧Aside0 (Small t_)∧Aside0 (Sized t_)∧Aside0 (xs_.length + i_.toNat≤8)∧Aside0 (∀ x_ ∈ xs_,x_.f5.size≤9223372036854775807))
 case atStart=>exact ⟨_,_,_,_,_,_,_,_,_,_,_,_,_,_,_,s,lo,hi,_,_,([]:List S52),b7,r18,rfl,rfl,⟨F38.out⟩,⟨F39.out⟩,⟨F37.out⟩,⟨Rd.less F40.out (by have h0_:=HI0.out;omega)⟩,⟨HB33.out⟩,⟨KP36.out⟩,⟨(by show b7 + 1≤W23.heap.size;have z0_:=Z41.out;have z1_:=T35.out;omega)⟩,⟨⟨HI0.out.1,HI0.out.2,Nat.le_refl _⟩⟩,⟨(by show hi≤W23.heap.size∧(g<lo∨hi≤g)∧(g3<lo∨hi≤g3);have z0_:=Z41.out;have z1_:=T35.out;omega)⟩,⟨(by show W3.heap.size≤b7∧w.heap.size≤b7∧b7<W23.heap.size∧(b7<lo∨hi≤b7)∧b7 ≠ g3;have z0_:=Z41.out;have z1_:=T35.out;omega)⟩,⟨HS0.out⟩,⟨HZ0.out⟩,⟨(by have h_:=HI0.out;simp only [List.length_nil];omega)⟩,⟨(fun x_ h_=>by cases h_)⟩⟩
 case round =>
  obtain ⟨W42,hW_⟩:∃ x_,x_=wr:=⟨_,rfl⟩
  subst hW_
  obtain ⟨b0_,n0_,e0_,b1_,n1_,e1_,b2_,n2_,e2_,b3_,n3_,e3_,b4_,n4_,e4_,t_,lo_,hi_,RA_,rc_,xs_,b_,i_,rfl,rfl,BK43,HR44,HR45,RD46,HB47,KP48,HZ49,HX50,HX51,HX52,HX53,HX54,HX55,HX56⟩:=hrel
  have TW:=Ak (Nat.le_refl W42.heap.size)
  have Z57:=Ak (And.intro Z41.out (And.intro HX51.out (And.intro HX52.out HZ49.out)))
  have HSt:=HX53
  have HZt:=HX54
  have HXL:=HX55
  have HXS:=HX56
  have HIk:=HX50
  obtain ⟨mq,hmq⟩:∃ mq_,mq_=m + 25 * (i_ - 1).toNat:=⟨_,rfl⟩
  have HQ:=Ak hmq
  clear hmq
  go_upto_if 13 with (fail)
  by_cases c58:i_ > 0
  ·have d59:decide (i_ > 0)=true:=decide_eq_true c58
   (first|rw [d59]|(simp only [i64_w,i32_w];rw [d59])|skip)
   have K60:=Ak c58
   clear c58
   have HPOS:=K60
   have RDq:=Ak (Rd.less RD46.out (show mq + 25≤m + 25 * i_.toNat from (by have h_:=HQ.out;have h1_:=HPOS.out;omega)))
   go_wp2_with (first|((with_reducible refine gate_dst (N:=17) rfl ?_);refine ev_load rfl (N:=17) rfl rfl (g:=g3) rfl (cs:=#[.slice b0_ n0_ e0_,.slice b1_ n1_ e1_,.slice b2_ n2_ e2_,.slice b3_ n3_ e3_,.slice b4_ n4_ e4_]) BK43.out hu26 rfl (by kernel_rfl) ?_))
   refine (l5Ask_c (m:=mq + 5) HB47.out RDq.out HR45.out (by show g<lo_∨hi_≤g;have z0_:=Z57.out;have z1_:=TW.out;omega) (by show hi_≤W42.heap.size;have z0_:=Z57.out;have z1_:=TW.out;omega)).mono ?_
   rintro e W71 ⟨who61,ep62,num63,obj64,at65,data66,rfl,hd67,hR68,hb72,hk69⟩
   have z0_:=Z57.out
   have z1_:=TW.out
   have T74:=Ak (show W42.heap.size≤W42.heap.size from (by omega))
   have N75:=Ak (show ∀ k_,(g≤k_∧k_<g + 1)→k_<lo_∨hi_≤k_ from (by intro k_ h_;omega))
   have N76:=Ak (show ¬ (g≤b_∧b_<g + 1) from (by omega))
   have HB77:=Ak (hb72)
   have HK78:=Ak (hk69)
   have KP80:=Ak (Kept.then_ KP48.out HK78.out (fun _ h_=>Or.inl h_))
   have T79:=Ak (Nat.le_trans T74.out HK78.out.1)
   have F81:=Ak (Bk.kept BK43.out HK78.out N31.out)
   have F82:=Ak (StI.kept HR45.out HK78.out N75.out)
   have F83:=Ak (RowB.kept HR44.out HK78.out N76.out)
   have F84:=Ak (hR68)
   clear z0_ z1_ hb72 hk69 hR68
   have HD70:=Ak hd67
   clear hd67
   go_upto_region 6 with (first|((with_reducible refine gate_dst (N:=7) rfl ?_);refine ev_box ?hg (N:=7) ?hd (cs:=#[.int .i64 0,.int .i64 0,.int .i64 0,.int .i64 0,.int .i64 0,.string ⟨#[]⟩]) (t:=52) ?hr ?_;(case hd=>rfl);(case hg=>rfl);(case hr=>first|(go_simp;done)|(go_simp;rfl));intro g7 W85 HG88 BK86 HB87)|((with_reducible refine gate_store (t:=52) (p:=7) rfl ?_);refine ev_put (by rfl) rfl rfl (g:=g7) rfl (cs:=#[.int .i64 who61,.int .i64 ep62,.int .i64 num63,.int .i64 obj64,.int .i64 at65,.string data66]) rfl BK86.out (by kernel_rfl) rfl rfl ?_;intro W89 BK90 HB91 HK92;have z0_:=Z57.out;have z1_:=T79.out;have z2_:=HB87.out.size;have z3_:=HG88.out;have z4_:=BK86.out.lt;have C93:=Ak (show W42.heap.size≤g7∧g7≤g7 + 1 from (by omega));have T94:=Ak (show g7 + 1≤W85.heap.size from (by omega));have HB95:=Ak (below_at (below_step HB77.out HB87.out) HB91.out (by show w0.heap.size≤g7;omega));have HK96:=Ak (HK92.out);have KP98:=Ak (kept_new (Kept.below KP80.out HB87.out) HK96.out (by show w.heap.size≤g7;omega));have T97:=Ak (Nat.le_trans T94.out HK96.out.1);have F99:=Ak (Bk.kept (Bk.below F81.out HB87.out) HK96.out (fun h_=>(by obtain ⟨h1_,h2_⟩:=h_;omega)));have F100:=Ak (StI.kept (StI.below F82.out HB87.out) HK96.out (fun k_ h_=>(by obtain ⟨h1_,h2_⟩:=h_;omega)));have F101:=Ak (RowB.kept (RowB.below F83.out HB87.out) HK96.out (fun h_=>(by obtain ⟨h1_,h2_⟩:=h_;omega)));have F102:=Ak (BK90.out);have F103:=Ak (Rd.kept (Rd.below F84.out HB87.out) HK96.out (fun h_=>(by obtain ⟨h1_,h2_⟩:=h_;omega)));clear z0_ z1_ z2_ z3_ z4_;have Z104:=Ak (And.intro Z57.out C93.out)))
   by_cases c105:(xs_.length:Int) > 0
   ·have d106:decide (0<xs_.length)=true:=decide_eq_true (by omega)
    (first|rw [d106]|(simp only [i64_w,i32_w];rw [d106])|skip)
    have K107:=Ak c105
    clear c105
    go_wp2_with (fail)
    refine (pick_c (m:=mq + 4) F103.out HB95.out (by omega)).mono ?_
    rintro e W114 ⟨r108,rfl,h109,h110,hR111,hb115,hk112⟩
    have z0_:=Z104.out
    have z1_:=T97.out
    have T117:=Ak (show g7 + 1≤W89.heap.size from (by omega))
    have N118:=Ak (show ¬ (g≤g7∧g7<g + 1) from (by omega))
    have HB119:=Ak (hb115)
    have HK120:=Ak (hk112)
    have KP122:=Ak (Kept.then_ KP98.out HK120.out (fun _ h_=>Or.inl h_))
    have T121:=Ak (Nat.le_trans T117.out HK120.out.1)
    have F123:=Ak (Bk.kept F99.out HK120.out N31.out)
    have F124:=Ak (StI.kept F100.out HK120.out N75.out)
    have F125:=Ak (RowB.kept F101.out HK120.out N76.out)
    have F126:=Ak (Bk.kept F102.out HK120.out N118.out)
    have F127:=Ak (hR111)
    clear z0_ z1_ hb115 hk112 hR111
    have HP113:=Ak (And.intro h109 h110)
    clear h109 h110
    go_upto_if 26 with (fail)
    go_cut [] (fun W128=>∃ (qa_:Int) (qb_:Int) (qc_:Int) (qd_:Int) (qe_:Int) (qf_:ByteArray),Aside0 (Bk W128 g3 #[.slice b0_ n0_ e0_,.slice b1_ n1_ e1_,.slice b2_ n2_ e2_,.slice b3_ n3_ e3_,.slice b4_ n4_ e4_] 26)∧Aside0 (Bk W128 g7 #[.int .i64 qa_,.int .i64 qb_,.int .i64 qc_,.int .i64 qd_,.int .i64 qe_,.string qf_] 52)∧Aside0 (RowB W128 W3.heap.size b_ (.slice RA_ xs_.length rc_) (xs_))∧Aside0 (StI W128 lo_ hi_ (.agg #[.slice b0_ n0_ e0_,.slice b1_ n1_ e1_,.slice b2_ n2_ e2_,.slice b3_ n3_ e3_,.slice b4_ n4_ e4_]) (t_))∧Aside0 (Rd w0 W128 g (mq + 1))∧Aside0 (Below w0.heap.size w0 W128)∧Aside0 (Kept w W128 (fun k=>g≤k∧k<g + 1))∧Aside0 (g7 + 1≤W128.heap.size)∧Aside0 (qf_.size≤9223372036854775807))
    case first =>
     by_cases c129:r108=0
     ·have d130:(r108 == 0)=true:=beq_iff_eq.mpr c129
      (first|rw [d130]|(simp only [i64_w,i32_w];rw [d130])|skip)
      have K131:=Ak c129
      clear c129
      go_wp2_with (fail)
      refine (pick_c (m:=mq + 3) F127.out HB119.out (by have i0_:=HX50.out;have i1_:=K60.out;have i2_:=K107.out;have i3_:=HP113.out;have i4_:=K131.out;omega)).mono ?_
      rintro e W138 ⟨r132,rfl,h133,h134,hR135,hb139,hk136⟩
      have HB141:=Ak (hb139)
      have HK142:=Ak (hk136)
      have KP144:=Ak (Kept.then_ KP122.out HK142.out (fun _ h_=>Or.inl h_))
      have T143:=Ak (Nat.le_trans T121.out HK142.out.1)
      have F145:=Ak (Bk.kept F123.out HK142.out N31.out)
      have F146:=Ak (StI.kept F124.out HK142.out N75.out)
      have F147:=Ak (RowB.kept F125.out HK142.out N76.out)
      have F148:=Ak (Bk.kept F126.out HK142.out N118.out)
      have F149:=Ak (hR135)
      clear hb139 hk136 hR135
      have HP137:=Ak (And.intro h133 h134)
      clear h133 h134
      obtain ⟨A_,c_,ea_,hC_,_⟩:=RowB.slice F147.out
      cases ea_
      obtain ⟨ad150,ea_,hx151,hx152,hx153,hx154,hx155,hx156⟩:=at_T52 hC_ r132 HP137.out.1 HP137.out.2
      cases ea_
      clear hC_
      have pHP137:=eq_true HP137.out.1
      have qHP137:=eq_true HP137.out.2
      try go_wp2_with (first|((with_reducible refine gate_store (t:=52) (p:=7) rfl ?_);refine ev_put (by rfl) rfl rfl (g:=g7) rfl (cs:=#[.int .i64 (rd_T52 xs_ r132).f0,.int .i64 (rd_T52 xs_ r132).f1,.int .i64 (rd_T52 xs_ r132).f2,.int .i64 (rd_T52 xs_ r132).f3,.int .i64 (rd_T52 xs_ r132).f4,.string (rd_T52 xs_ r132).f5]) rfl F148.out (by kernel_rfl) rfl rfl ?_;intro W157 BK158 HB159 HK160;have z0_:=Z104.out;have z1_:=T143.out;have T161:=Ak (show g7 + 1≤W138.heap.size from (by omega));have HB162:=Ak (below_at HB141.out HB159.out (by show w0.heap.size≤g7;omega));have HK163:=Ak (HK160.out);have KP165:=Ak (kept_new KP144.out HK163.out (by show w.heap.size≤g7;omega));have T164:=Ak (Nat.le_trans T161.out HK163.out.1);have F166:=Ak (Bk.kept F145.out HK163.out (fun h_=>(by obtain ⟨h1_,h2_⟩:=h_;omega)));have F167:=Ak (StI.kept F146.out HK163.out (fun k_ h_=>(by obtain ⟨h1_,h2_⟩:=h_;omega)));have F168:=Ak (RowB.kept F147.out HK163.out (fun h_=>(by obtain ⟨h1_,h2_⟩:=h_;omega)));have F169:=Ak (BK158.out);have F170:=Ak (Rd.kept F149.out HK163.out (fun h_=>(by obtain ⟨h1_,h2_⟩:=h_;omega)));clear z0_ z1_))
      go_meet
      case rel=>exact ⟨_,_,_,_,_,(rd_T52 xs_ r132).f5,⟨F166.out⟩,⟨F169.out⟩,⟨F168.out⟩,⟨F167.out⟩,⟨Rd.less F170.out (by have h_:=HQ.out;omega)⟩,⟨HB162.out⟩,⟨KP165.out⟩,⟨(by show g7 + 1≤W157.heap.size;have z0_:=Z104.out;have z1_:=T164.out;omega)⟩,⟨(rdT_small HXS.out _)⟩⟩
     ·have d130:(r108 == 0)=false:=beq_eq_false_iff_ne.mpr c129
      (first|rw [d130]|(simp only [i64_w,i32_w];rw [d130])|skip)
      have K131:=Ak c129
      clear c129
      try go_wp2
      go_meet
      case rel=>exact ⟨_,_,_,_,_,data66,⟨F123.out⟩,⟨F126.out⟩,⟨F125.out⟩,⟨F124.out⟩,⟨Rd.less F127.out (by have h_:=HQ.out;omega)⟩,⟨HB119.out⟩,⟨KP122.out⟩,⟨(by show g7 + 1≤W114.heap.size;have z0_:=Z104.out;have z1_:=T121.out;omega)⟩,⟨HD70.out⟩⟩
    case rest =>
     obtain ⟨W128,hW_⟩:∃ x_,x_=wc:=⟨_,rfl⟩
     subst hW_
     obtain ⟨qa_,qb_,qc_,qd_,qe_,qf_,BK171,BK172,HR173,HR174,RD175,HB176,KP177,HZ178,HX179⟩:=hcut
     have HQD:=HX179
     go_wp2_with (first|((with_reducible refine gate_dst (N:=35) rfl ?_);refine ev_load rfl (N:=35) rfl rfl (g:=g7) rfl (cs:=#[.int .i64 qa_,.int .i64 qb_,.int .i64 qc_,.int .i64 qd_,.int .i64 qe_,.string qf_]) BK172.out hu52 rfl (by kernel_rfl) ?_)|((with_reducible refine gate_dst (N:=37) rfl ?_);refine ev_push rfl (t:=27) rfl Try.underlying27 info52 rfl (by decide) (by decide) (v:=.slice RA_ xs_.length rc_) (xs:=xs_) (⟨qa_,qb_,qc_,qd_,qe_,qf_⟩:S52) (cs:=[.int .i64 qa_,.int .i64 qb_,.int .i64 qc_,.int .i64 qd_,.int .i64 qe_,.string qf_]) (lo:=W3.heap.size) (b:=b_) rfl rfl (k52_mkM _ _ _ _) HR173.out (by have h_:=HXL.out;omega) ?_;intro b180 A181 c182 W183 HR184 HP185 hK186 hB187;have z0_:=Z104.out;have z1_:=HZ178.out;have T188:=Ak (show g7 + 1≤W128.heap.size from (by omega));have HB189:=Ak (below_at HB176.out hB187.out (by show w0.heap.size≤W3.heap.size;omega));have HK190:=Ak (hK186.out);have KP192:=Ak (Kept.then_ KP177.out HK190.out (fun k_ h_=>Or.inr (by obtain ⟨h1_,h2_⟩:=h_;show w.heap.size≤k_;omega)));have T191:=Ak (Nat.le_trans T188.out HK190.out.1);have F193:=Ak (Bk.kept BK171.out HK190.out (fun h_=>(by obtain ⟨h1_,h2_⟩:=h_;omega)));have F194:=Ak (StI.kept HR174.out HK190.out (fun k_ h_=>(by obtain ⟨h1_,h2_⟩:=h_;omega)));have F195:=Ak (HR184.out);have F196:=Ak (Bk.kept BK172.out HK190.out (fun h_=>(by obtain ⟨h1_,h2_⟩:=h_;omega)));have F197:=Ak (Rd.kept RD175.out HK190.out (fun h_=>(by obtain ⟨h1_,h2_⟩:=h_;omega)));clear z0_ z1_;have T198:=Ak (Nat.le_refl W183.heap.size);have Z199:=Ak (And.intro Z104.out (And.intro HP185.out (And.intro HR184.out.lt (And.intro T188.out T191.out)))))|((with_reducible refine gate_dst (N:=38) rfl ?_);refine ev_load rfl (N:=38) rfl rfl (g:=g3) rfl (cs:=#[.slice b0_ n0_ e0_,.slice b1_ n1_ e1_,.slice b2_ n2_ e2_,.slice b3_ n3_ e3_,.slice b4_ n4_ e4_]) F193.out hu26 rfl (by kernel_rfl) ?_))
     obtain ⟨t200,ht_⟩:∃ x_,stOk t_=x_:=⟨_,rfl⟩
     have HT201:=Ak ht_
     clear ht_
     refine (spec_StoreOk_q (StI.toC F194.out) HZt.out HT201.out).mono ?_
     rintro e W202 ⟨rfl,hb203⟩
     have HB204:=Ak hb203
     clear hb203
     go_upto_if 39 with (fail)
     cases t200
     ·skip
      try go_wp2
      go_roundg ((i_ - 1).toNat)
      case measure=>have h_:=HIk.out;have h1_:=K60.out;omega
      case rel=>exact ⟨_,_,_,_,_,_,_,_,_,_,_,_,_,_,_,t_,lo_,hi_,_,_,(xs_ ++ [(⟨qa_,qb_,qc_,qd_,qe_,qf_⟩:S52)]),b180,i_ - 1,(by first|rfl|(rw [List.length_append];rfl)|rw [w64 (by have h_:=HIk.out;have h1_:=HPOS.out;omega) (by have h_:=HIk.out;have h1_:=HPOS.out;omega)]),(by first|rfl|(rw [List.length_append];rfl)|rw [w64 (by have h_:=HIk.out;have h1_:=HPOS.out;omega) (by have h_:=HIk.out;have h1_:=HPOS.out;omega)]),⟨(Bk.below F193.out HB204.out)⟩,⟨(RowB.below F195.out HB204.out)⟩,⟨(StI.below F194.out HB204.out)⟩,⟨Rd.less (Rd.below F197.out HB204.out) (by have h_:=HQ.out;omega)⟩,⟨(below_step HB189.out HB204.out)⟩,⟨(Kept.below KP192.out HB204.out)⟩,⟨(by show b7 + 1≤W202.heap.size;have z0_:=Z199.out;have z1_:=T198.out;have z2_:=HB204.out.size;omega)⟩,⟨(by have h_:=HIk.out;have h1_:=K60.out;exact ⟨by omega,by omega,by omega⟩)⟩,⟨(by show hi_≤W202.heap.size∧(g<lo_∨hi_≤g)∧(g3<lo_∨hi_≤g3);have z0_:=Z199.out;have z1_:=T198.out;have z2_:=HB204.out.size;omega)⟩,⟨(by show W3.heap.size≤b180∧w.heap.size≤b180∧b180<W202.heap.size∧(b180<lo_∨hi_≤b180)∧b180 ≠ g3;have z0_:=Z199.out;have z1_:=T198.out;have z2_:=HB204.out.size;omega)⟩,⟨HSt.out⟩,⟨HZt.out⟩,⟨(by have h_:=HXL.out;have h1_:=HIk.out;have h2_:=HPOS.out;simp only [List.length_append,List.length_cons,List.length_nil];omega)⟩,⟨(push_small HXS.out HQD.out)⟩⟩
     ·skip
      go_wp2_with (first|((with_reducible refine gate_dst (N:=41) rfl ?_);refine ev_load rfl (N:=41) rfl rfl (g:=g3) rfl (cs:=#[.slice b0_ n0_ e0_,.slice b1_ n1_ e1_,.slice b2_ n2_ e2_,.slice b3_ n3_ e3_,.slice b4_ n4_ e4_]) (Bk.below F193.out HB204.out) hu26 rfl (by kernel_rfl) ?_)|((with_reducible refine gate_dst (N:=42) rfl ?_);refine ev_load rfl (N:=42) rfl rfl (g:=g7) rfl (cs:=#[.int .i64 qa_,.int .i64 qb_,.int .i64 qc_,.int .i64 qd_,.int .i64 qe_,.string qf_]) (Bk.below F196.out HB204.out) hu52 rfl (by kernel_rfl) ?_))
      obtain ⟨⟨t207,q209⟩,ht_⟩:∃ x_,storeDo t_ ⟨qa_,qb_,qc_,qd_,qe_,qf_⟩=x_:=⟨_,rfl⟩
      have HT208:=Ak ht_
      clear ht_
      refine (spec_StoreDo_c (StI.toC (StI.below F194.out HB204.out)) HZt.out HSt.out HQD.out HT208.out).mono ?_
      rintro e W211 ⟨u205,rfl,hr206,hb212⟩
      have HB213:=Ak hb212
      clear hb212
      have HRs210:=Ak hr206
      obtain ⟨as210_0,ds210_0,as210_1,ds210_1,as210_2,ds210_2,as210_3,ds210_3,as210_4,ds210_4,rfl,_⟩:=hr206.toC
      clear hr206
      try go_wp2_with (first|((with_reducible refine gate_store (t:=26) (p:=3) rfl ?_);refine ev_put (by rfl) rfl rfl (g:=g3) rfl (cs:=#[.slice as210_0 t207.now.length ds210_0,.slice as210_1 t207.sure.length ds210_1,.slice as210_2 t207.last.length ds210_2,.slice as210_3 t207.slast.length ds210_3,.slice as210_4 t207.floors.length ds210_4]) rfl (Bk.below F193.out (below_step HB204.out HB213.out)) (by kernel_rfl) rfl rfl ?_;intro W214 BK215 HB216 HK217;have z0_:=Z199.out;have z1_:=T198.out;have z2_:=HB204.out.size;have z3_:=HB213.out.size;have C218:=Ak (show W183.heap.size≤W202.heap.size∧W202.heap.size≤W211.heap.size from (by omega));have T219:=Ak (show W211.heap.size≤W211.heap.size from (by omega));have HB220:=Ak (below_at (below_step HB189.out (below_step HB204.out HB213.out)) HB216.out (by show w0.heap.size≤g3;omega));have HK221:=Ak (HK217.out);have KP223:=Ak (kept_new (Kept.below KP192.out (below_step HB204.out HB213.out)) HK221.out (by show w.heap.size≤g3;omega));have T222:=Ak (Nat.le_trans T219.out HK221.out.1);have F224:=Ak (BK215.out);have F225:=Ak (StI.kept (StI.below F194.out (below_step HB204.out HB213.out)) HK221.out (fun k_ h_=>(by obtain ⟨h1_,h2_⟩:=h_;omega)));have F226:=Ak (RowB.kept (RowB.below F195.out (below_step HB204.out HB213.out)) HK221.out (fun h_=>(by obtain ⟨h1_,h2_⟩:=h_;omega)));have F227:=Ak (Bk.kept (Bk.below F196.out (below_step HB204.out HB213.out)) HK221.out (fun h_=>(by obtain ⟨h1_,h2_⟩:=h_;omega)));have F228:=Ak (StR.kept HRs210.out HK221.out (fun k_ h_=>(by obtain ⟨h1_,h2_⟩:=h_;omega)));have F229:=Ak (Rd.kept (Rd.below F197.out (below_step HB204.out HB213.out)) HK221.out (fun h_=>(by obtain ⟨h1_,h2_⟩:=h_;omega)));clear z0_ z1_ z2_ z3_;have Z230:=Ak (And.intro Z199.out C218.out)))
      go_roundg ((i_ - 1).toNat)
      case measure=>have h_:=HIk.out;have h1_:=K60.out;omega
      case rel=>exact ⟨_,_,_,_,_,_,_,_,_,_,_,_,_,_,_,t207,W202.heap.size,W211.heap.size,_,_,(xs_ ++ [(⟨qa_,qb_,qc_,qd_,qe_,qf_⟩:S52)]),b180,i_ - 1,(by first|rfl|(rw [List.length_append];rfl)|rw [w64 (by have h_:=HIk.out;have h1_:=HPOS.out;omega) (by have h_:=HIk.out;have h1_:=HPOS.out;omega)]),(by first|rfl|(rw [List.length_append];rfl)|rw [w64 (by have h_:=HIk.out;have h1_:=HPOS.out;omega) (by have h_:=HIk.out;have h1_:=HPOS.out;omega)]),⟨F224.out⟩,⟨F226.out⟩,⟨StR.toI F228.out⟩,⟨Rd.less F229.out (by have h_:=HQ.out;omega)⟩,⟨HB220.out⟩,⟨KP223.out⟩,⟨(by show b7 + 1≤W214.heap.size;have z0_:=Z230.out;have z1_:=T222.out;omega)⟩,⟨(by have h_:=HIk.out;have h1_:=K60.out;exact ⟨by omega,by omega,by omega⟩)⟩,⟨(by show W211.heap.size≤W214.heap.size∧(g<W202.heap.size∨W211.heap.size≤g)∧(g3<W202.heap.size∨W211.heap.size≤g3);have z0_:=Z230.out;have z1_:=T222.out;omega)⟩,⟨(by show W3.heap.size≤b180∧w.heap.size≤b180∧b180<W214.heap.size∧(b180<W202.heap.size∨W211.heap.size≤b180)∧b180 ≠ g3;have z0_:=Z230.out;have z1_:=T222.out;omega)⟩,⟨(storeDo_small HT208.out HSt.out)⟩,⟨(sized_do_e HT208.out HZt.out)⟩,⟨(by have h_:=HXL.out;have h1_:=HIk.out;have h2_:=HPOS.out;simp only [List.length_append,List.length_cons,List.length_nil];omega)⟩,⟨(push_small HXS.out HQD.out)⟩⟩
   ·have d106:decide (0<xs_.length)=false:=decide_eq_false (by omega)
    (first|rw [d106]|(simp only [i64_w,i32_w];rw [d106])|skip)
    have K107:=Ak c105
    clear c105
    go_upto_if 26 with (fail)
    go_cut [] (fun W231=>∃ (qa_:Int) (qb_:Int) (qc_:Int) (qd_:Int) (qe_:Int) (qf_:ByteArray),Aside0 (Bk W231 g3 #[.slice b0_ n0_ e0_,.slice b1_ n1_ e1_,.slice b2_ n2_ e2_,.slice b3_ n3_ e3_,.slice b4_ n4_ e4_] 26)∧Aside0 (Bk W231 g7 #[.int .i64 qa_,.int .i64 qb_,.int .i64 qc_,.int .i64 qd_,.int .i64 qe_,.string qf_] 52)∧Aside0 (RowB W231 W3.heap.size b_ (.slice RA_ xs_.length rc_) (xs_))∧Aside0 (StI W231 lo_ hi_ (.agg #[.slice b0_ n0_ e0_,.slice b1_ n1_ e1_,.slice b2_ n2_ e2_,.slice b3_ n3_ e3_,.slice b4_ n4_ e4_]) (t_))∧Aside0 (Rd w0 W231 g (mq + 1))∧Aside0 (Below w0.heap.size w0 W231)∧Aside0 (Kept w W231 (fun k=>g≤k∧k<g + 1))∧Aside0 (g7 + 1≤W231.heap.size)∧Aside0 (qf_.size≤9223372036854775807))
    case first =>
     try go_wp2
     go_meet
     case rel=>exact ⟨_,_,_,_,_,data66,⟨F99.out⟩,⟨F102.out⟩,⟨F101.out⟩,⟨F100.out⟩,⟨Rd.less F103.out (by have h_:=HQ.out;omega)⟩,⟨HB95.out⟩,⟨KP98.out⟩,⟨(by show g7 + 1≤W89.heap.size;have z0_:=Z104.out;have z1_:=T97.out;omega)⟩,⟨HD70.out⟩⟩
    case rest =>
     obtain ⟨W231,hW_⟩:∃ x_,x_=wc:=⟨_,rfl⟩
     subst hW_
     obtain ⟨qa_,qb_,qc_,qd_,qe_,qf_,BK232,BK233,HR234,HR235,RD236,HB237,KP238,HZ239,HX240⟩:=hcut
     have HQD:=HX240
     go_wp2_with (first|((with_reducible refine gate_dst (N:=35) rfl ?_);refine ev_load rfl (N:=35) rfl rfl (g:=g7) rfl (cs:=#[.int .i64 qa_,.int .i64 qb_,.int .i64 qc_,.int .i64 qd_,.int .i64 qe_,.string qf_]) BK233.out hu52 rfl (by kernel_rfl) ?_)|((with_reducible refine gate_dst (N:=37) rfl ?_);refine ev_push rfl (t:=27) rfl Try.underlying27 info52 rfl (by decide) (by decide) (v:=.slice RA_ xs_.length rc_) (xs:=xs_) (⟨qa_,qb_,qc_,qd_,qe_,qf_⟩:S52) (cs:=[.int .i64 qa_,.int .i64 qb_,.int .i64 qc_,.int .i64 qd_,.int .i64 qe_,.string qf_]) (lo:=W3.heap.size) (b:=b_) rfl rfl (k52_mkM _ _ _ _) HR234.out (by have h_:=HXL.out;omega) ?_;intro b241 A242 c243 W244 HR245 HP246 hK247 hB248;have z0_:=Z104.out;have z1_:=HZ239.out;have T249:=Ak (show g7 + 1≤W231.heap.size from (by omega));have HB250:=Ak (below_at HB237.out hB248.out (by show w0.heap.size≤W3.heap.size;omega));have HK251:=Ak (hK247.out);have KP253:=Ak (Kept.then_ KP238.out HK251.out (fun k_ h_=>Or.inr (by obtain ⟨h1_,h2_⟩:=h_;show w.heap.size≤k_;omega)));have T252:=Ak (Nat.le_trans T249.out HK251.out.1);have F254:=Ak (Bk.kept BK232.out HK251.out (fun h_=>(by obtain ⟨h1_,h2_⟩:=h_;omega)));have F255:=Ak (StI.kept HR235.out HK251.out (fun k_ h_=>(by obtain ⟨h1_,h2_⟩:=h_;omega)));have F256:=Ak (HR245.out);have F257:=Ak (Bk.kept BK233.out HK251.out (fun h_=>(by obtain ⟨h1_,h2_⟩:=h_;omega)));have F258:=Ak (Rd.kept RD236.out HK251.out (fun h_=>(by obtain ⟨h1_,h2_⟩:=h_;omega)));clear z0_ z1_;have T259:=Ak (Nat.le_refl W244.heap.size);have Z260:=Ak (And.intro Z104.out (And.intro HP246.out (And.intro HR245.out.lt (And.intro T249.out T252.out)))))|((with_reducible refine gate_dst (N:=38) rfl ?_);refine ev_load rfl (N:=38) rfl rfl (g:=g3) rfl (cs:=#[.slice b0_ n0_ e0_,.slice b1_ n1_ e1_,.slice b2_ n2_ e2_,.slice b3_ n3_ e3_,.slice b4_ n4_ e4_]) F254.out hu26 rfl (by kernel_rfl) ?_))
     obtain ⟨t261,ht_⟩:∃ x_,stOk t_=x_:=⟨_,rfl⟩
     have HT262:=Ak ht_
     clear ht_
     refine (spec_StoreOk_q (StI.toC F255.out) HZt.out HT262.out).mono ?_
     rintro e W263 ⟨rfl,hb264⟩
     have HB265:=Ak hb264
     clear hb264
     go_upto_if 39 with (fail)
     cases t261
     ·skip
      try go_wp2
      go_roundg ((i_ - 1).toNat)
      case measure=>have h_:=HIk.out;have h1_:=K60.out;omega
      case rel=>exact ⟨_,_,_,_,_,_,_,_,_,_,_,_,_,_,_,t_,lo_,hi_,_,_,(xs_ ++ [(⟨qa_,qb_,qc_,qd_,qe_,qf_⟩:S52)]),b241,i_ - 1,(by first|rfl|(rw [List.length_append];rfl)|rw [w64 (by have h_:=HIk.out;have h1_:=HPOS.out;omega) (by have h_:=HIk.out;have h1_:=HPOS.out;omega)]),(by first|rfl|(rw [List.length_append];rfl)|rw [w64 (by have h_:=HIk.out;have h1_:=HPOS.out;omega) (by have h_:=HIk.out;have h1_:=HPOS.out;omega)]),⟨(Bk.below F254.out HB265.out)⟩,⟨(RowB.below F256.out HB265.out)⟩,⟨(StI.below F255.out HB265.out)⟩,⟨Rd.less (Rd.below F258.out HB265.out) (by have h_:=HQ.out;omega)⟩,⟨(below_step HB250.out HB265.out)⟩,⟨(Kept.below KP253.out HB265.out)⟩,⟨(by show b7 + 1≤W263.heap.size;have z0_:=Z260.out;have z1_:=T259.out;have z2_:=HB265.out.size;omega)⟩,⟨(by have h_:=HIk.out;have h1_:=K60.out;exact ⟨by omega,by omega,by omega⟩)⟩,⟨(by show hi_≤W263.heap.size∧(g<lo_∨hi_≤g)∧(g3<lo_∨hi_≤g3);have z0_:=Z260.out;have z1_:=T259.out;have z2_:=HB265.out.size;omega)⟩,⟨(by show W3.heap.size≤b241∧w.heap.size≤b241∧b241<W263.heap.size∧(b241<lo_∨hi_≤b241)∧b241 ≠ g3;have z0_:=Z260.out;have z1_:=T259.out;have z2_:=HB265.out.size;omega)⟩,⟨HSt.out⟩,⟨HZt.out⟩,⟨(by have h_:=HXL.out;have h1_:=HIk.out;have h2_:=HPOS.out;simp only [List.length_append,List.length_cons,List.length_nil];omega)⟩,⟨(push_small HXS.out HQD.out)⟩⟩
     ·skip
      go_wp2_with (first|((with_reducible refine gate_dst (N:=41) rfl ?_);refine ev_load rfl (N:=41) rfl rfl (g:=g3) rfl (cs:=#[.slice b0_ n0_ e0_,.slice b1_ n1_ e1_,.slice b2_ n2_ e2_,.slice b3_ n3_ e3_,.slice b4_ n4_ e4_]) (Bk.below F254.out HB265.out) hu26 rfl (by kernel_rfl) ?_)|((with_reducible refine gate_dst (N:=42) rfl ?_);refine ev_load rfl (N:=42) rfl rfl (g:=g7) rfl (cs:=#[.int .i64 qa_,.int .i64 qb_,.int .i64 qc_,.int .i64 qd_,.int .i64 qe_,.string qf_]) (Bk.below F257.out HB265.out) hu52 rfl (by kernel_rfl) ?_))
      obtain ⟨⟨t268,q270⟩,ht_⟩:∃ x_,storeDo t_ ⟨qa_,qb_,qc_,qd_,qe_,qf_⟩=x_:=⟨_,rfl⟩
      have HT269:=Ak ht_
      clear ht_
      refine (spec_StoreDo_c (StI.toC (StI.below F255.out HB265.out)) HZt.out HSt.out HQD.out HT269.out).mono ?_
      rintro e W272 ⟨u266,rfl,hr267,hb273⟩
      have HB274:=Ak hb273
      clear hb273
      have HRs271:=Ak hr267
      obtain ⟨as271_0,ds271_0,as271_1,ds271_1,as271_2,ds271_2,as271_3,ds271_3,as271_4,ds271_4,rfl,_⟩:=hr267.toC
      clear hr267
      try go_wp2_with (first|((with_reducible refine gate_store (t:=26) (p:=3) rfl ?_);refine ev_put (by rfl) rfl rfl (g:=g3) rfl (cs:=#[.slice as271_0 t268.now.length ds271_0,.slice as271_1 t268.sure.length ds271_1,.slice as271_2 t268.last.length ds271_2,.slice as271_3 t268.slast.length ds271_3,.slice as271_4 t268.floors.length ds271_4]) rfl (Bk.below F254.out (below_step HB265.out HB274.out)) (by kernel_rfl) rfl rfl ?_;intro W275 BK276 HB277 HK278;have z0_:=Z260.out;have z1_:=T259.out;have z2_:=HB265.out.size;have z3_:=HB274.out.size;have C279:=Ak (show W244.heap.size≤W263.heap.size∧W263.heap.size≤W272.heap.size from (by omega));have T280:=Ak (show W272.heap.size≤W272.heap.size from (by omega));have HB281:=Ak (below_at (below_step HB250.out (below_step HB265.out HB274.out)) HB277.out (by show w0.heap.size≤g3;omega));have HK282:=Ak (HK278.out);have KP284:=Ak (kept_new (Kept.below KP253.out (below_step HB265.out HB274.out)) HK282.out (by show w.heap.size≤g3;omega));have T283:=Ak (Nat.le_trans T280.out HK282.out.1);have F285:=Ak (BK276.out);have F286:=Ak (StI.kept (StI.below F255.out (below_step HB265.out HB274.out)) HK282.out (fun k_ h_=>(by obtain ⟨h1_,h2_⟩:=h_;omega)));have F287:=Ak (RowB.kept (RowB.below F256.out (below_step HB265.out HB274.out)) HK282.out (fun h_=>(by obtain ⟨h1_,h2_⟩:=h_;omega)));have F288:=Ak (Bk.kept (Bk.below F257.out (below_step HB265.out HB274.out)) HK282.out (fun h_=>(by obtain ⟨h1_,h2_⟩:=h_;omega)));have F289:=Ak (StR.kept HRs271.out HK282.out (fun k_ h_=>(by obtain ⟨h1_,h2_⟩:=h_;omega)));have F290:=Ak (Rd.kept (Rd.below F258.out (below_step HB265.out HB274.out)) HK282.out (fun h_=>(by obtain ⟨h1_,h2_⟩:=h_;omega)));clear z0_ z1_ z2_ z3_;have Z291:=Ak (And.intro Z260.out C279.out)))
      go_roundg ((i_ - 1).toNat)
      case measure=>have h_:=HIk.out;have h1_:=K60.out;omega
      case rel=>exact ⟨_,_,_,_,_,_,_,_,_,_,_,_,_,_,_,t268,W263.heap.size,W272.heap.size,_,_,(xs_ ++ [(⟨qa_,qb_,qc_,qd_,qe_,qf_⟩:S52)]),b241,i_ - 1,(by first|rfl|(rw [List.length_append];rfl)|rw [w64 (by have h_:=HIk.out;have h1_:=HPOS.out;omega) (by have h_:=HIk.out;have h1_:=HPOS.out;omega)]),(by first|rfl|(rw [List.length_append];rfl)|rw [w64 (by have h_:=HIk.out;have h1_:=HPOS.out;omega) (by have h_:=HIk.out;have h1_:=HPOS.out;omega)]),⟨F285.out⟩,⟨F287.out⟩,⟨StR.toI F289.out⟩,⟨Rd.less F290.out (by have h_:=HQ.out;omega)⟩,⟨HB281.out⟩,⟨KP284.out⟩,⟨(by show b7 + 1≤W275.heap.size;have z0_:=Z291.out;have z1_:=T283.out;omega)⟩,⟨(by have h_:=HIk.out;have h1_:=K60.out;exact ⟨by omega,by omega,by omega⟩)⟩,⟨(by show W272.heap.size≤W275.heap.size∧(g<W263.heap.size∨W272.heap.size≤g)∧(g3<W263.heap.size∨W272.heap.size≤g3);have z0_:=Z291.out;have z1_:=T283.out;omega)⟩,⟨(by show W3.heap.size≤b241∧w.heap.size≤b241∧b241<W275.heap.size∧(b241<W263.heap.size∨W272.heap.size≤b241)∧b241 ≠ g3;have z0_:=Z291.out;have z1_:=T283.out;omega)⟩,⟨(storeDo_small HT269.out HSt.out)⟩,⟨(sized_do_e HT269.out HZt.out)⟩,⟨(by have h_:=HXL.out;have h1_:=HIk.out;have h2_:=HPOS.out;simp only [List.length_append,List.length_cons,List.length_nil];omega)⟩,⟨(push_small HXS.out HQD.out)⟩⟩
  ·have d59:decide (i_ > 0)=false:=decide_eq_false c58
   (first|rw [d59]|(simp only [i64_w,i32_w];rw [d59])|skip)
   have K60:=Ak c58
   clear c58
   go_wp2_with (fail)
   try go_wp2
   go_ret
   have HRL:=Rd.less RD46.out (show m≤_ by omega)
   exact ⟨⟨_,rfl,_,xs_,_,HR44.out,(by show w.heap.size≤W3.heap.size;have z0_:=Z57.out;have z1_:=TW.out;omega),(by show b_<W42.heap.size;have z0_:=Z57.out;have z1_:=TW.out;omega),(by have h_:=HXL.out;omega),HXS.out⟩,HRL,HB47.out,KP48.out⟩
end Go.Proofs.Ytmekkapacbdbeaa.P
namespace Go.Proofs.Ytmekkapacbdbeaa.P
open Go.RowKit Go.Proofs.YtmekkapacbdbeaaW.PrintWords Go.Proofs.YtmekkapacbdbeaaW.PrintLast Go.Proofs.YtmekkapacbdbeaaW.PrintMore
def RowN (w:World) (lo b:Nat) (v:Value) (xs:List Int):Prop:=(Kd.int .i64).R 3 w lo (fun k=>k=b) v xs∧v.ownBlock=some b
theorem own_onlyN {w:World} {lo b:Nat} {ok:Nat→Prop} {v:Value} {xs:List Int} (h:(Kd.int .i64).R 3 w lo ok v xs) (e:v.ownBlock=some b):(Kd.int .i64).R 3 w lo (fun k=>k=b) v xs:=by
 obtain ⟨h0,inner,ho,hr⟩:=h
 exact ⟨fun k hk=>Option.some.inj (hk.symm.trans e),inner,ho,hr.imp_ fun x cs hm=>hm⟩
section
variable {w w1:World} {lo b:Nat} {v:Value} {xs:List Int}
theorem RowN.kept {S:Nat→Prop} (h:RowN w lo b v xs) (hk:Kept w w1 S) (hS:¬ S b):RowN w1 lo b v xs:=⟨Kd.R_kept h.1 hk fun _ e=>e ▸ hS,h.2⟩
theorem RowN.below (h:RowN w lo b v xs) (hb:Below w.heap.size w w1):RowN w1 lo b v xs:=⟨Kd.R_below h.1 hb,h.2⟩
theorem RowN.lt (h:RowN w lo b v xs):b<w.heap.size:=Kd.R_lt h.1 b h.2
theorem RowN.ge (h:RowN w lo b v xs):lo≤b:=Kd.R_base h.1 b h.2
theorem RowN.slice (h:RowN w lo b v xs):∃ A c,v = .slice A xs.length c∧Kd.C (Kd.int .i64) w A xs.length xs∧xs.length≤c:=by
 obtain ⟨A,c,e,h1,h2⟩:=Kd.R_reads h.1
 exact ⟨A,c,e,h2,h1⟩
end
section
variable {P:Program} {ops:Array Oper} {rest:List Oper} {o:Oper} {a:Act} {Q:Exit→Act→World→Prop} {W:World}
theorem ev_noneN (hgd:o.guard=none) {N:Tmp} (hd:o.dst=some N)
  (hrun:(execOp a.eval o).run P W = .ok (.value (.slice (some ⟨W.heap.size,0,none⟩) 0 0)) (W.alloc (.cells #[] 3)))
  (h:∀ b' A c w1,Aside0 (RowN w1 W.heap.size b' (.slice A 0 c) [])→Aside0 (Below W.heap.size W w1)→wpList P ops Q rest (a.put o.dst (.slice A 0 c)) w1):wpList P ops Q (o :: rest) a W :=
 Kd.R_lit (Kd.int .i64) (w0:=W) W.heap.size 3 hgd hd (xs:=[]) (inner:=[]) (ok:=fun _=>True) hrun (Reps.none _ _) (fun _ h=>h) trivial (Below.refl _ _) (Nat.le_refl _) (Nat.zero_le _) fun v1 w1 hr hb _ ho=>by
  obtain ⟨A,c,rfl⟩:=Kd.R_slice hr
  obtain ⟨b',e,_⟩:=ho
  exact h b' A c w1 ⟨own_onlyN hr e,e⟩ ⟨hb⟩
theorem ev_pushN (hgd:o.guard=none) {s x:Operand} {t:TypeId} {z:Value} {bytes:Nat}
  (ho:o.op = .call { callee:=.builtin .append,args:=#[s,x],argTypes:=#[t,t] })
  (ht:P.underlying t=some (.slice 3)) (hinfo:(P.info? 3).map (fun i=>(i.zero,i.size,i.bytes))=some (some z,1,bytes)) (hz:z.cells.size=1) (hb0:0<bytes)
  {v:Value} {xs:List Int} (p:Int) {lo b:Nat} (hs:a.eval s=v) (hx:a.eval x = .slice (some ⟨W.heap.size,0,none⟩) 1 1) (HO:RowN W lo b v xs) (hl:(xs.length + 1) * bytes≤140737488355328)
  (h:∀ b' A c w1,Aside0 (RowN w1 lo b' (.slice A (xs ++ [p]).length c) (xs ++ [p]))→Aside0 (b'=b∨W.heap.size≤b')→Aside0 (Kept W w1 (fun k=>b≤k∧k<b + 1))→Aside0 (Below lo W w1)→wpList P ops Q rest (a.put o.dst (.slice A (xs ++ [p]).length c)) w1) :
  wpList P ops Q (o :: rest) a (W.alloc (.cells #[.int .i64 p] 3)) :=
 Kd.R_append (Kd.int .i64) (w0:=W) lo hgd s x t 3 z bytes ho ht hinfo hz Nat.one_pos hb0 v xs p [.int .i64 p] (fun k=>k=b∨W.heap.size≤k) (fun _=>False) hs hx rfl (fun _ h=>h.elim) (fun _ h=>.inr h) (Kd.R_mono HO.1 fun _ hk=>.inl hk) (Below.refl lo W) (Nat.le_trans HO.ge (Nat.le_of_lt HO.lt)) hl fun v1 w1 hr hb hg hown=>by
  obtain ⟨A,c,rfl⟩:=Kd.R_slice hr
  have hk:Kept W w1 (fun k=>b≤k∧k<b + 1):=Kept.of_grown hg (Kept.refl _ _) fun k hk=>.inl (by have:=Option.some.inj (hk.symm.trans HO.2);omega)
  have ho':∃ b',(Value.slice A (xs ++ [p]).length c).ownBlock=some b'∧(b'=b∨W.heap.size≤b'):=by
   rcases hown with e|⟨b',e,h3⟩
   ·exact ⟨b,e.trans HO.2,.inl rfl⟩
   ·exact ⟨b',e,.inr h3⟩
  obtain ⟨b',e,h3⟩:=ho'
  exact h b' A c w1 ⟨own_onlyN hr e,e⟩ ⟨h3⟩ ⟨hk⟩ ⟨hb⟩
end
def NumR (w:World) (lo hi:Nat) (v:Value) (xs:List Int):Prop:=(Kd.int .i64).R 3 w lo (fun k=>lo≤k∧k<hi) v xs
def NumC (w:World) (v:Value) (xs:List Int):Prop:=∃ A c,v = .slice A xs.length c∧Kd.C (Kd.int .i64) w A xs.length xs∧xs.length≤c
section
variable {w w1:World} {lo hi b:Nat} {v:Value} {xs:List Int}
theorem RowN.toR {lo0:Nat} (h:RowN w lo b v xs) (h1:lo0≤lo) (h2:b<hi):NumR w lo0 hi v xs:=by
 have:=h.ge
 exact Kd.R_lower (Kd.R_mono h.1 fun k e=>by subst e;exact ⟨by omega,h2⟩) h1
theorem NumR.nil:NumR w lo hi (.slice none 0 0) []:=Kd.R_nil _ _ _ _ _
theorem NumR.kept {S:Nat→Prop} (h:NumR w lo hi v xs) (hk:Kept w w1 S) (hS:∀ k,S k→k<lo∨hi≤k):NumR w1 lo hi v xs:=Kd.R_kept h hk fun k h1 h2=>by have:=hS k h2;omega
theorem NumR.below (h:NumR w lo hi v xs) (hb:Below w.heap.size w w1):NumR w1 lo hi v xs:=Kd.R_below h hb
theorem NumR.toC (h:NumR w lo hi v xs):NumC w v xs:=by
 obtain ⟨A,c,e,h1,h2⟩:=Kd.R_reads h
 exact ⟨A,c,e,h2,h1⟩
theorem NumC.below (h:NumC w v xs) (hb:Below w.heap.size w w1):NumC w1 v xs:=by
 obtain ⟨A,c,e,h1,h2⟩:=h
 exact ⟨A,c,e,Kd.C_below h1 hb,h2⟩
end
abbrev SQ:=S52
def ReqC (w:World) (v:Value) (xs:List SQ):Prop:=∃ A c,v = .slice A xs.length c∧Kd.C k52 w A xs.length xs∧xs.length≤c
theorem ReqC.below {w w1:World} {v:Value} {xs:List SQ} (h:ReqC w v xs) (hb:Below w.heap.size w w1):ReqC w1 v xs:=by
 obtain ⟨A,c,e,h1,h2⟩:=h
 exact ⟨A,c,e,Kd.C_below h1 hb,h2⟩
theorem RowB.toQ {w:World} {lo b:Nat} {v:Value} {xs:List SQ} (h:RowB w lo b v xs):ReqC w v xs:=h.slice
def ReqAt (w:World) (p:Addr) (x:SQ):Prop:=w.cell? p=some (.int .i64 x.f0)∧w.cell? ⟨p.block,p.off + 1,none⟩=some (.int .i64 x.f1)∧w.cell? ⟨p.block,p.off + 2,none⟩=some (.int .i64 x.f2)∧w.cell? ⟨p.block,p.off + 3,none⟩=some (.int .i64 x.f3)∧w.cell? ⟨p.block,p.off + 4,none⟩=some (.int .i64 x.f4)∧w.cell? ⟨p.block,p.off + 5,none⟩=some (.string x.f5)
theorem ReqC.form {w:World} {A:Option Addr} {n c:Nat} {xs:List SQ} (h:ReqC w (.slice A n c) xs) {i:Int} (h0:0≤i) (h1:i<xs.length):∃ ad,A=some ad:=by
 obtain ⟨A',c',e,h2,_⟩:=h
 cases e
 obtain ⟨ad,e,_⟩:=at_T52 h2 i h0 h1
 exact ⟨ad,e⟩
theorem ReqC.read {w:World} {ad:Addr} {n c:Nat} {xs:List SQ} (h:ReqC w (.slice (some ad) n c) xs) {i:Int} (h0:0≤i) (h1:i<xs.length):ReqAt w (ad.add (i.toNat * 6)) (rd_T52 xs i):=by
 obtain ⟨A',c',e,h2,_⟩:=h
 cases e
 obtain ⟨ad',e,h3⟩:=at_T52 h2 i h0 h1
 cases e
 exact h3
theorem ReqC.readq {w:World} {ad:Addr} {n c:Nat} {xs:List SQ} (h:ReqC w (.slice (some ad) n c) xs) {i:Int} (h0:0≤i) (h1:i<xs.length) {q:SQ} (e:rd_T52 xs i=q):ReqAt w (ad.add (i.toNat * 6)) q:=e ▸ h.read h0 h1
def rq (x:SQ):Rq:=⟨x.f0,x.f1,x.f2,x.f3,x.f4,x.f5⟩
theorem allSt_snoc {s t t2:St} {l:List SQ} {cs:List Int} {i c:Int} (h:allSt s ((l.take i.toNat).map rq)=(t,cs)) (h0:0≤i) (h1:i<l.length) {q:SQ} (hq:rd_T52 l i=q) (hd:doSt t (rq q)=(t2,c)):allSt s ((l.take (i + 1).toNat).map rq)=(t2,cs ++ [c]):=by
 have e:(i + 1).toNat=i.toNat + 1:=by omega
 have hl:i.toNat<l.length:=by omega
 have er:rd_T52 l i=l[i.toNat]:=by
  unfold rd_T52
  rw [List.getD_eq_getElem?_getD,List.getElem?_eq_getElem hl]
  rfl
 rw [← hq,er] at hd
 rw [e,List.take_succ_eq_append_getElem hl,List.map_append,allSt_app,h]
 simp only [List.map_cons,List.map_nil,allSt,hd]
theorem allSt_okT {s t:St} {l:List SQ} {cs:List Int} {i:Int} (h:allSt s ((l.take i.toNat).map rq)=(t,cs)) (hs:stOk s=true):stOk t=true:=by
 have:=allSt_ok (l:=(l.take i.toNat).map rq) hs
 rw [h] at this
 exact this
theorem allSt_all {s t t2:St} {l:List SQ} {cs cs2:List Int} {i:Int} (h:allSt s ((l.take i.toNat).map rq)=(t,cs)) (h1:(l.length:Int)≤i) (he:storeAll s (l.map rq)=(t2,cs2)) (hs:stOk s=true):t2=t∧cs2=cs:=by
 rw [List.take_of_length_le (by omega)] at h
 unfold storeAll at he
 rw [if_pos hs,h] at he
 cases he
 exact ⟨rfl,rfl⟩
theorem doSt_sized_e {s t:St} {q:Rq} {c:Int} (h:doSt s q=(t,c)) (hs:Sized s):Sized t:=by
 have:=sized_doSt (q:=q) hs
 rw [h] at this
 exact this
theorem storeDo_of {s t:St} {q:Rq} {c:Int} (h:doSt s q=(t,c)) (hs:stOk s=true):storeDo s q=(t,c):=by
 unfold storeDo
 rw [if_pos hs,h]
theorem storeAll_bad {s t:St} {l:List Rq} {cs:List Int} (h:storeAll s l=(t,cs)) (hs:stOk s=false):t=stNone∧cs = []:=by
 unfold storeAll at h
 rw [if_neg (by rw [hs];decide)] at h
 cases h
 exact ⟨rfl,rfl⟩
end Go.Proofs.Ytmekkapacbdbeaa.P
namespace Go.Proofs.Ytmekkapacbdbeaa.P
open Go.RowKit Go.Proofs.YtmekkapacbdbeaaW.PrintWords Go.Proofs.YtmekkapacbdbeaaW.PrintLast Go.Proofs.YtmekkapacbdbeaaW.PrintMore
theorem spec_StoreAll_p0 {w:World} {v:Value} {s t:St} {A:Option Addr} {c:Nat} {l:List SQ} {cs:List Int} (hv:StC w v s) (hz:Sized s) (hs:Small s) (hl:ReqC w (.slice A l.length c) l) (hq:∀ x ∈ l,x.f5.size≤9223372036854775807) (hn:l.length≤1000000) (he:storeAll s (l.map rq)=(t,cs)) (hk:stOk s=false):
  Calls Try.prog 17 #[v,.slice A l.length c] w fun e w'=>∃ u z,e = .returned (.tuple #[u,z])∧StR w' w.heap.size w'.heap.size u t∧NumR w' w.heap.size w'.heap.size z cs∧Below w.heap.size w w':=by
 have HV0:=Ak hv
 obtain ⟨A0_0,c0_0,A0_1,c0_1,A0_2,c0_2,A0_3,c0_3,A0_4,c0_4,rfl,_⟩:=hv
 have HS0:=Ak hs
 have HZ0:=Ak hz
 have HL0:=Ak hl
 have HLS:=Ak hq
 have HLN:=Ak hn
 have HK:=Ak hk
 have HE:=Ak he
 have HT0:=Ak (Nat.le_refl w.heap.size)
 clear hs hz hl hq hn hk he
 have hu26:=Try.underlying26
 go_enter Try.func17,Try.ntmps17
 go_wp2_with (first|((with_reducible refine gate_dst (N:=2) rfl ?_);refine ev_box ?hg (N:=2) ?hd (cs:=#[.slice A0_0 s.now.length c0_0,.slice A0_1 s.sure.length c0_1,.slice A0_2 s.last.length c0_2,.slice A0_3 s.slast.length c0_3,.slice A0_4 s.floors.length c0_4]) (t:=26) ?hr ?_;(case hd=>rfl);(case hg=>rfl);(case hr=>first|(go_simp;done)|(go_simp;rfl));intro g2 W1 HG4 BK2 HB3)|((with_reducible refine gate_dst (N:=4) rfl ?_);refine ev_box ?hg (N:=4) ?hd (cs:=#[.slice none 0 0,.slice none 0 0,.slice none 0 0,.slice none 0 0,.slice none 0 0]) (t:=26) ?hr ?_;(case hd=>rfl);(case hg=>rfl);(case hr=>first|(go_simp;done)|(go_simp;rfl));intro g4 W5 HG8 BK6 HB7)|((with_reducible refine gate_dst (N:=10) rfl ?_);refine ev_noneN ?hg (N:=10) ?hd ?hr ?_;(case hd=>rfl);(case hg=>rfl);(case hr=>first|(go_simp;done)|(go_simp;rfl));intro b9 A10 c11 W12 HR13 HB14)|((with_reducible refine gate_dst (N:=11) rfl ?_);refine ev_load rfl (N:=11) rfl rfl (g:=g2) rfl (cs:=#[.slice A0_0 s.now.length c0_0,.slice A0_1 s.sure.length c0_1,.slice A0_2 s.last.length c0_2,.slice A0_3 s.slast.length c0_3,.slice A0_4 s.floors.length c0_4]) (Bk.below BK2.out (below_step HB7.out HB14.out)) hu26 rfl (by kernel_rfl) ?_))
 refine (spec_StoreOk_q (StC.below HV0.out (below_step (below_step HB3.out HB7.out) HB14.out)) HZ0.out HK.out).mono ?_
 rintro e W15 ⟨rfl,hb16⟩
 have HB17:=Ak hb16
 clear hb16
 go_wp2_with (first|((with_reducible refine gate_store (t:=26) (p:=4) rfl ?_);refine ev_put (by rfl) rfl rfl (g:=g4) rfl (cs:=#[.slice none 0 0,.slice none 0 0,.slice none 0 0,.slice none 0 0,.slice none 0 0]) rfl (Bk.below BK6.out (below_step HB14.out HB17.out)) (by kernel_rfl) rfl rfl ?_;intro W18 BK19 HB20 HK21;have z0_:=HT0.out;have z1_:=HB3.out.size;have z2_:=HG4.out;have z3_:=BK2.out.lt;have z4_:=HB7.out.size;have z5_:=HG8.out;have z6_:=BK6.out.lt;have z7_:=HB14.out.size;have z8_:=HR13.out.ge;have z9_:=HR13.out.lt;have z10_:=HB17.out.size;have C22:=Ak (show w.heap.size≤g2∧g2≤g2 + 1 from (by omega));have C23:=Ak (show g2 + 1≤g4∧g4≤g4 + 1 from (by omega));have C24:=Ak (show g4 + 1≤W5.heap.size∧W5.heap.size≤W5.heap.size from (by omega));have C25:=Ak (show W5.heap.size≤b9∧b9≤b9 + 1 from (by omega));have T26:=Ak (show b9 + 1≤W15.heap.size from (by omega));have HB27:=Ak (below_at (below_step (below_step (below_step HB3.out HB7.out) HB14.out) HB17.out) HB20.out (by show w.heap.size≤g4;omega));have HK28:=Ak (HK21.out);have T29:=Ak (Nat.le_trans T26.out HK28.out.1);have F30:=Ak (StC.below HV0.out HB27.out);have F31:=Ak (Bk.kept (Bk.below BK2.out (below_step (below_step HB7.out HB14.out) HB17.out)) HK28.out (fun h_=>(by obtain ⟨h1_,h2_⟩:=h_;omega)));have F32:=Ak (BK19.out);have F33:=Ak (RowN.kept (RowN.below HR13.out HB17.out) HK28.out (fun h_=>(by obtain ⟨h1_,h2_⟩:=h_;omega)));have F34:=Ak (ReqC.below HL0.out HB27.out);clear z0_ z1_ z2_ z3_ z4_ z5_ z6_ z7_ z8_ z9_ z10_;have Z35:=Ak (And.intro C22.out (And.intro C23.out (And.intro C24.out C25.out)))))
 try go_wp2
 refine bodyPost_ret (results_list (rs:=[.cell 4 26,.tmp 5]) rfl (by simp) (.cell g4 26 #[.slice none 0 0,.slice none 0 0,.slice none 0 0,.slice none 0 0,.slice none 0 0] (0,0) _ rfl F32.out hu26 rfl (by kernel_rfl) (.tmp .nil))) rfl ?_
 obtain ⟨et_,ec_⟩:=storeAll_bad HE.out HK.out
 subst t
 subst cs
 exact ⟨_,_,rfl,StR.zero _ _,RowN.toR F33.out (by show w.heap.size≤W5.heap.size;have z0_:=Z35.out;have z1_:=T29.out;omega) (by show b9<W18.heap.size;have z0_:=Z35.out;have z1_:=T29.out;omega),HB27.out⟩
theorem spec_StoreAll_pT {w:World} {v:Value} {s t:St} {A:Option Addr} {c:Nat} {l:List SQ} {cs:List Int} (hv:StC w v s) (hz:Sized s) (hs:Small s) (hl:ReqC w (.slice A l.length c) l) (hq:∀ x ∈ l,x.f5.size≤9223372036854775807) (hn:l.length≤1000000) (he:storeAll s (l.map rq)=(t,cs)) (hk:stOk s=true):
  Calls Try.prog 17 #[v,.slice A l.length c] w fun e w'=>∃ u z,e = .returned (.tuple #[u,z])∧StR w' w.heap.size w'.heap.size u t∧NumR w' w.heap.size w'.heap.size z cs∧Below w.heap.size w w':=by
 have HV0:=Ak hv
 obtain ⟨A0_0,c0_0,A0_1,c0_1,A0_2,c0_2,A0_3,c0_3,A0_4,c0_4,rfl,_⟩:=hv
 have HS0:=Ak hs
 have HZ0:=Ak hz
 have HL0:=Ak hl
 have HLS:=Ak hq
 have HLN:=Ak hn
 have HK:=Ak hk
 have HE:=Ak he
 have HT0:=Ak (Nat.le_refl w.heap.size)
 clear hs hz hl hq hn hk he
 have hu26:=Try.underlying26
 go_enter Try.func17,Try.ntmps17
 go_wp2_with (first|((with_reducible refine gate_dst (N:=2) rfl ?_);refine ev_box ?hg (N:=2) ?hd (cs:=#[.slice A0_0 s.now.length c0_0,.slice A0_1 s.sure.length c0_1,.slice A0_2 s.last.length c0_2,.slice A0_3 s.slast.length c0_3,.slice A0_4 s.floors.length c0_4]) (t:=26) ?hr ?_;(case hd=>rfl);(case hg=>rfl);(case hr=>first|(go_simp;done)|(go_simp;rfl));intro g2 W1 HG4 BK2 HB3)|((with_reducible refine gate_dst (N:=4) rfl ?_);refine ev_box ?hg (N:=4) ?hd (cs:=#[.slice none 0 0,.slice none 0 0,.slice none 0 0,.slice none 0 0,.slice none 0 0]) (t:=26) ?hr ?_;(case hd=>rfl);(case hg=>rfl);(case hr=>first|(go_simp;done)|(go_simp;rfl));intro g4 W5 HG8 BK6 HB7)|((with_reducible refine gate_dst (N:=10) rfl ?_);refine ev_noneN ?hg (N:=10) ?hd ?hr ?_;(case hd=>rfl);(case hg=>rfl);(case hr=>first|(go_simp;done)|(go_simp;rfl));intro b9 A10 c11 W12 HR13 HB14)|((with_reducible refine gate_dst (N:=11) rfl ?_);refine ev_load rfl (N:=11) rfl rfl (g:=g2) rfl (cs:=#[.slice A0_0 s.now.length c0_0,.slice A0_1 s.sure.length c0_1,.slice A0_2 s.last.length c0_2,.slice A0_3 s.slast.length c0_3,.slice A0_4 s.floors.length c0_4]) (Bk.below BK2.out (below_step HB7.out HB14.out)) hu26 rfl (by kernel_rfl) ?_))
 refine (spec_StoreOk_q (StC.below HV0.out (below_step (below_step HB3.out HB7.out) HB14.out)) HZ0.out HK.out).mono ?_
 rintro e W15 ⟨rfl,hb16⟩
 have HB17:=Ak hb16
 clear hb16
 go_wp2_with (first|((with_reducible refine gate_dst (N:=16) rfl ?_);refine ev_load rfl (N:=16) rfl rfl (g:=g2) rfl (cs:=#[.slice A0_0 s.now.length c0_0,.slice A0_1 s.sure.length c0_1,.slice A0_2 s.last.length c0_2,.slice A0_3 s.slast.length c0_3,.slice A0_4 s.floors.length c0_4]) (Bk.below BK2.out (below_step (below_step HB7.out HB14.out) HB17.out)) hu26 rfl (by kernel_rfl) ?_))
 refine (spec_l5Copy_c (StC.below HV0.out (below_step (below_step (below_step HB3.out HB7.out) HB14.out) HB17.out)) HS0.out).mono ?_
 rintro e W21 ⟨u18,rfl,hr19,hb22⟩
 have HB23:=Ak hb22
 clear hb22
 have HRs20:=Ak hr19
 obtain ⟨as20_0,ds20_0,as20_1,ds20_1,as20_2,ds20_2,as20_3,ds20_3,as20_4,ds20_4,rfl,_⟩:=hr19.toC
 clear hr19
 go_wp2_with (first|((with_reducible refine gate_dst (N:=7) rfl ?_);refine ev_box ?hg (N:=7) ?hd (cs:=#[.slice none 0 0,.slice none 0 0,.slice none 0 0,.slice none 0 0,.slice none 0 0]) (t:=26) ?hr ?_;(case hd=>rfl);(case hg=>rfl);(case hr=>first|(go_simp;done)|(go_simp;rfl));intro g7 W24 HG27 BK25 HB26)|((with_reducible refine gate_store (t:=26) (p:=7) rfl ?_);refine ev_put (by rfl) rfl rfl (g:=g7) rfl (cs:=#[.slice as20_0 s.now.length ds20_0,.slice as20_1 s.sure.length ds20_1,.slice as20_2 s.last.length ds20_2,.slice as20_3 s.slast.length ds20_3,.slice as20_4 s.floors.length ds20_4]) rfl BK25.out (by kernel_rfl) rfl rfl ?_;intro W28 BK29 HB30 HK31;have z0_:=HT0.out;have z1_:=HB3.out.size;have z2_:=HG4.out;have z3_:=BK2.out.lt;have z4_:=HB7.out.size;have z5_:=HG8.out;have z6_:=BK6.out.lt;have z7_:=HB14.out.size;have z8_:=HR13.out.ge;have z9_:=HR13.out.lt;have z10_:=HB17.out.size;have z11_:=HB23.out.size;have z12_:=HB26.out.size;have z13_:=HG27.out;have z14_:=BK25.out.lt;have C32:=Ak (show w.heap.size≤g2∧g2≤g2 + 1 from (by omega));have C33:=Ak (show g2 + 1≤g4∧g4≤g4 + 1 from (by omega));have C34:=Ak (show g4 + 1≤W5.heap.size∧W5.heap.size≤W5.heap.size from (by omega));have C35:=Ak (show W5.heap.size≤b9∧b9≤b9 + 1 from (by omega));have C36:=Ak (show b9 + 1≤W15.heap.size∧W15.heap.size≤W21.heap.size from (by omega));have C37:=Ak (show W21.heap.size≤g7∧g7≤g7 + 1 from (by omega));have T38:=Ak (show g7 + 1≤W24.heap.size from (by omega));have HB39:=Ak (below_at (below_step (below_step (below_step (below_step (below_step HB3.out HB7.out) HB14.out) HB17.out) HB23.out) HB26.out) HB30.out (by show w.heap.size≤g7;omega));have HK40:=Ak (HK31.out);have T41:=Ak (Nat.le_trans T38.out HK40.out.1);have F42:=Ak (StC.below HV0.out HB39.out);have F43:=Ak (Bk.kept (Bk.below BK2.out (below_step (below_step (below_step (below_step HB7.out HB14.out) HB17.out) HB23.out) HB26.out)) HK40.out (fun h_=>(by obtain ⟨h1_,h2_⟩:=h_;omega)));have F44:=Ak (Bk.kept (Bk.below BK6.out (below_step (below_step (below_step HB14.out HB17.out) HB23.out) HB26.out)) HK40.out (fun h_=>(by obtain ⟨h1_,h2_⟩:=h_;omega)));have F45:=Ak (RowN.kept (RowN.below HR13.out (below_step (below_step HB17.out HB23.out) HB26.out)) HK40.out (fun h_=>(by obtain ⟨h1_,h2_⟩:=h_;omega)));have F46:=Ak (StR.kept (StR.below HRs20.out HB26.out) HK40.out (fun k_ h_=>(by obtain ⟨h1_,h2_⟩:=h_;omega)));have F47:=Ak (BK29.out);have F48:=Ak (ReqC.below HL0.out HB39.out);clear z0_ z1_ z2_ z3_ z4_ z5_ z6_ z7_ z8_ z9_ z10_ z11_ z12_ z13_ z14_;have Z49:=Ak (And.intro C32.out (And.intro C33.out (And.intro C34.out (And.intro C35.out (And.intro C36.out C37.out)))))))
 go_loopg [6,8] (l.length) (fun k_ v6_ v8_ W50=>∃ (b0_:Option Addr) (n0_:Nat) (e0_:Nat) (b1_:Option Addr) (n1_:Nat) (e1_:Nat) (b2_:Option Addr) (n2_:Nat) (e2_:Nat) (b3_:Option Addr) (n3_:Nat) (e3_:Nat) (b4_:Option Addr) (n4_:Nat) (e4_:Nat) (t_:St) (lo_:Nat) (hi_:Nat) (RA_:Option Addr) (rc_:Nat) (cs_:List Int) (b_:Nat) (i_:Int),v6_ = .slice RA_ cs_.length rc_∧v8_ = .int .i64 i_∧Aside0 (Bk W50 g2 #[.slice A0_0 s.now.length c0_0,.slice A0_1 s.sure.length c0_1,.slice A0_2 s.last.length c0_2,.slice A0_3 s.slast.length c0_3,.slice A0_4 s.floors.length c0_4] 26)∧Aside0 (Bk W50 g4 #[.slice none 0 0,.slice none 0 0,.slice none 0 0,.slice none 0 0,.slice none 0 0] 26)∧Aside0 (Bk W50 g7 #[.slice b0_ n0_ e0_,.slice b1_ n1_ e1_,.slice b2_ n2_ e2_,.slice b3_ n3_ e3_,.slice b4_ n4_ e4_] 26)∧Aside0 (RowN W50 W5.heap.size b_ (.slice RA_ cs_.length rc_) (cs_))∧Aside0 (StC W50 (.agg #[.slice A0_0 s.now.length c0_0,.slice A0_1 s.sure.length c0_1,.slice A0_2 s.last.length c0_2,.slice A0_3 s.slast.length c0_3,.slice A0_4 s.floors.length c0_4]) (s))∧Aside0 (StR W50 lo_ hi_ (.agg #[.slice b0_ n0_ e0_,.slice b1_ n1_ e1_,.slice b2_ n2_ e2_,.slice b3_ n3_ e3_,.slice b4_ n4_ e4_]) (t_))∧Aside0 (Below w.heap.size w W50)∧Aside0 (g7 + 1≤W50.heap.size)∧Aside0 (0≤i_∧i_≤(l.length:Int)∧((l.length:Int) - i_).toNat≤k_)∧Aside0 (w.heap.size≤lo_∧lo_≤hi_∧hi_≤W50.heap.size∧(g2<lo_∨hi_≤g2)∧(g4<lo_∨hi_≤g4)∧(g7<lo_∨hi_≤g7))∧Aside0 (W5.heap.size≤b_∧w.heap.size≤W5.heap.size∧b_<W50.heap.size∧(b_<lo_∨hi_≤b_)∧b_ ≠ g2∧b_ ≠ g4∧b_ ≠ g7)∧Aside0 (Small t_)∧Aside0 (Sized t_)∧Aside0 (allSt s ((l.take i_.toNat).map rq)=(t_,cs_))∧Aside0 ((cs_.length:Int)=i_))
 case atStart=>exact ⟨_,_,_,_,_,_,_,_,_,_,_,_,_,_,_,s,W15.heap.size,W21.heap.size,_,_,([]:List Int),b9,0,rfl,rfl,⟨F43.out⟩,⟨F44.out⟩,⟨F47.out⟩,⟨F45.out⟩,⟨F42.out⟩,⟨F46.out⟩,⟨HB39.out⟩,⟨(by show g7 + 1≤W28.heap.size;have z0_:=Z49.out;have z1_:=T41.out;omega)⟩,⟨⟨Int.le_refl _,by omega,by omega⟩⟩,⟨(by show w.heap.size≤W15.heap.size∧W15.heap.size≤W21.heap.size∧W21.heap.size≤W28.heap.size ∧ (g2<W15.heap.size∨W21.heap.size≤g2)∧(g4<W15.heap.size∨W21.heap.size≤g4)∧(g7<W15.heap.size∨W21.heap.size≤g7);have z0_:=Z49.out;have z1_:=T41.out;omega)⟩,⟨(by show W5.heap.size≤b9∧w.heap.size≤W5.heap.size∧b9<W28.heap.size∧(b9<W15.heap.size∨W21.heap.size≤b9)∧b9 ≠ g2∧b9 ≠ g4∧b9 ≠ g7;have z0_:=Z49.out;have z1_:=T41.out;omega)⟩,⟨HS0.out⟩,⟨HZ0.out⟩,⟨rfl⟩,⟨rfl⟩⟩
 case round =>
  obtain ⟨W50,hW_⟩:∃ x_,x_=wr:=⟨_,rfl⟩
  subst hW_
  obtain ⟨b0_,n0_,e0_,b1_,n1_,e1_,b2_,n2_,e2_,b3_,n3_,e3_,b4_,n4_,e4_,t_,lo_,hi_,RA_,rc_,cs_,b_,i_,rfl,rfl,BK51,BK52,BK53,HR54,HR55,HR56,HB57,HZ59,HX60,HX61,HX62,HX63,HX64,HX65,HX66⟩:=hrel
  have HO67:=Ak (ReqC.below HL0.out HB57.out)
  have TW:=Ak (Nat.le_refl W50.heap.size)
  have Z68:=Ak (And.intro Z49.out (And.intro HX61.out (And.intro HX62.out HZ59.out)))
  have HIk:=HX60
  have HSt:=HX63
  have HZt:=HX64
  have HAl:=HX65
  have HCL:=HX66
  go_upto_if 21 with (fail)
  by_cases c69:i_<(l.length:Int)
  ·have d70:decide (i_<(l.length:Int))=true:=decide_eq_true c69
   (first|rw [d70]|(simp only [i64_w,i32_w];rw [d70])|skip)
   have K71:=Ak c69
   clear c69
   have HIL:=Ak (show 0≤i_∧i_<(l.length:Int) from ⟨HIk.out.1,K71.out⟩)
   obtain ⟨ad_,rfl⟩:=ReqC.form HL0.out HIL.out.1 HIL.out.2
   obtain ⟨q_,hq_⟩:∃ y_,rd_T52 l i_=y_:=⟨_,rfl⟩
   have HQx:=Ak hq_
   have HQS:=Ak (show q_.f5.size≤9223372036854775807 from hq_ ▸ rdT_small HLS.out i_)
   clear hq_
   have pHIL:=eq_true HIL.out.1
   have qHIL:=eq_true HIL.out.2
   go_wp2_with (fail)
   refine start_ (n:=11) (S:=fun w'=>Bk w' g7 #[.slice b0_ n0_ e0_,.slice b1_ n1_ e1_,.slice b2_ n2_ e2_,.slice b3_ n3_ e3_,.slice b4_ n4_ e4_] 26∧ReqAt w' (ad_.add (i_.toNat * 6)) q_) (ds:=[]) #[false,false,false,false,false,false,false,false,false,false,false] (by kernel_rfl) rfl rfl ⟨(show Bk W50 g7 #[.slice b0_ n0_ e0_,.slice b1_ n1_ e1_,.slice b2_ n2_ e2_,.slice b3_ n3_ e3_,.slice b4_ n4_ e4_] 26 from BK53.out),(show ReqAt W50 (ad_.add (i_.toNat * 6)) q_ from (ReqC.readq HO67.out HIL.out.1 HIL.out.2 HQx.out))⟩ (fun hHeld=>?_)
   clear hHeld
   refine world_at (w:=W50) (below_drew0 _) (fun W72 HB73=>?_)
   refine take_ (i:=0) (N:=some 25) (v:=.agg #[.slice b0_ n0_ e0_,.slice b1_ n1_ e1_,.slice b2_ n2_ e2_,.slice b3_ n3_ e3_,.slice b4_ n4_ e4_]) (a':=?_) #[T0,F0,F0,F0,F0,F0,F0,F0,F0,F0,F0] rfl rfl (by kernel_rfl) (fun _ _ _ h=>h) (Or.inl ⟨by rfl,?_⟩) ⟨(Bk.below BK53.out HB73.out),(show ReqAt W72 (ad_.add (i_.toNat * 6)) q_ from (ReqC.readq (ReqC.below HO67.out HB73.out) HIL.out.1 HIL.out.2 HQx.out))⟩ ?_ ?_
   ·rintro w' ⟨s0_,s1_⟩
    exact run_load_ev rfl rfl s0_ hu26 rfl (by kernel_rfl)
   rotate_left
   ·simp only [Act.put,zzA,zzB,zzC,i64_w,i32_w]
    rfl
   refine pure_ (i:=1) (N:=some 26) (v:=?_) (a':=?_) #[T0,T0,F0,F0,F0,F0,F0,F0,F0,F0,F0] rfl rfl (by kernel_rfl) (fun _ _ _ h=>h) (Or.inl ⟨by rfl,?_⟩) ?_ ?_
   rotate_left
   ·intro w'
    go_simp
    with_reducible rfl
   rotate_left
   ·simp only [Act.put,zzA,zzB,zzC,i64_w,i32_w]
    rfl
   refine pure_ (i:=2) (N:=some 27) (v:=?_) (a':=?_) #[T0,T0,T0,F0,F0,F0,F0,F0,F0,F0,F0] rfl rfl (by kernel_rfl) (fun _ _ _ h=>h) (Or.inl ⟨by rfl,?_⟩) ?_ ?_
   rotate_left
   ·intro w'
    go_simp
    with_reducible rfl
   rotate_left
   ·simp only [Act.put,zzA,zzB,zzC,i64_w,i32_w]
    rfl
   refine pure_ (i:=3) (N:=some 28) (v:=?_) (a':=?_) #[T0,T0,T0,T0,F0,F0,F0,F0,F0,F0,F0] rfl rfl (by kernel_rfl) (fun _ _ _ h=>h) (Or.inl ⟨by rfl,?_⟩) ?_ ?_
   rotate_left
   ·intro w'
    go_simp
    with_reducible rfl
   rotate_left
   ·simp only [Act.put,zzA,zzB,zzC,i64_w,i32_w]
    rfl
   refine take_ (i:=4) (N:=some 29) (v:=.agg #[.int .i64 q_.f0,.int .i64 q_.f1,.int .i64 q_.f2,.int .i64 q_.f3,.int .i64 q_.f4,.string q_.f5]) (a':=?_) #[T0,T0,T0,T0,T0,F0,F0,F0,F0,F0,F0] rfl rfl (by kernel_rfl) (fun _ _ _ h=>h) (Or.inl ⟨by rfl,?_⟩) ⟨(Bk.below BK53.out HB73.out),(show ReqAt W72 (ad_.add (i_.toNat * 6)) q_ from (ReqC.readq (ReqC.below HO67.out HB73.out) HIL.out.1 HIL.out.2 HQx.out))⟩ ?_ ?_
   ·rintro w' ⟨s0_,s1_⟩
    obtain ⟨k0_,k1_,k2_,k3_,k4_,k5_⟩:=s1_
    first|(go_simp;done)|(go_simp;with_reducible rfl)|(go_simp;rfl)
   rotate_left
   ·simp only [Act.put,zzA,zzB,zzC,i64_w,i32_w]
    rfl
   refine one_ (i:=5) (N:=some 30) #[T0,T0,T0,T0,T0,T0,F0,F0,F0,F0,F0] rfl rfl (by kernel_rfl) (by decide) (fun K hK=>?_)
   refine goes_ Try.func51 (by kernel_rfl) rfl #[.agg #[.slice b0_ n0_ e0_,.slice b1_ n1_ e1_,.slice b2_ n2_ e2_,.slice b3_ n3_ e3_,.slice b4_ n4_ e4_],.agg #[.int .i64 q_.f0,.int .i64 q_.f1,.int .i64 q_.f2,.int .i64 q_.f3,.int .i64 q_.f4,.string q_.f5]] (by rfl) rfl rfl (by (try simp only [List.map_toArray,List.map_cons,List.map_nil]);first|done|rfl) ?_
   obtain ⟨⟨t74,q76⟩,ht_⟩:∃ x_,doSt t_ (rq q_)=x_:=⟨_,rfl⟩
   have HT75:=Ak ht_
   clear ht_
   refine (spec_l5Do_c (below_step HB57.out HB73.out) (StR.below HR56.out HB73.out) (by show w.heap.size≤lo_;have z0_:=Z68.out;have z1_:=TW.out;have z2_:=HB73.out.size;omega) (by show hi_≤W72.heap.size;have z0_:=Z68.out;have z1_:=TW.out;have z2_:=HB73.out.size;omega) HQS.out (allSt_okT HAl.out HK.out) HT75.out).mono ?_
   rintro e W79 ⟨rfl,hr77,hb80,hk78⟩
   have z0_:=Z68.out
   have z1_:=TW.out
   have z2_:=HB73.out.size
   have T82:=Ak (show W50.heap.size≤W72.heap.size from (by omega))
   have HB83:=Ak (hb80)
   have HK84:=Ak (hk78)
   have T85:=Ak (Nat.le_trans T82.out HK84.out.1)
   have F86:=Ak (StC.below HV0.out HB83.out)
   have F87:=Ak (Bk.kept (Bk.below BK51.out HB73.out) HK84.out (fun h_=>(by obtain ⟨h1_,h2_⟩:=h_;omega)))
   have F88:=Ak (Bk.kept (Bk.below BK52.out HB73.out) HK84.out (fun h_=>(by obtain ⟨h1_,h2_⟩:=h_;omega)))
   have F89:=Ak (RowN.kept (RowN.below HR54.out HB73.out) HK84.out (fun h_=>(by obtain ⟨h1_,h2_⟩:=h_;omega)))
   have F90:=Ak (Bk.kept (Bk.below BK53.out HB73.out) HK84.out (fun h_=>(by obtain ⟨h1_,h2_⟩:=h_;omega)))
   have F91:=Ak (hr77)
   have F92:=Ak (ReqC.below HL0.out HB83.out)
   clear z0_ z1_ z2_ hb80 hk78 hr77
   refine ⟨_,rfl,?_⟩
   refine hK.out _ _ ⟨F90.out,(show ReqAt W79 (ad_.add (i_.toNat * 6)) q_ from (ReqC.readq F92.out HIL.out.1 HIL.out.2 HQx.out))⟩ (fun hHeld=>?_)
   clear hHeld hK K
   refine norm_ (a':=?_) ?_ ?_
   rotate_left
   ·show Act.put _ (some 30) _=_
    simp only [Act.put,zzA,zzB,zzC,i64_w,i32_w]
    rfl
   refine pure_ (i:=6) (N:=some 24) (v:=?_) (a':=?_) #[T0,T0,T0,T0,T0,T0,T0,F0,F0,F0,F0] rfl rfl (by kernel_rfl) (fun _ _ _ h=>h) (Or.inl ⟨by rfl,?_⟩) ?_ ?_
   rotate_left
   ·intro w'
    go_simp
    with_reducible rfl
   rotate_left
   ·simp only [Act.put,zzA,zzB,zzC,i64_w,i32_w]
    rfl
   refine pure_ (i:=7) (N:=some 31) (v:=?_) (a':=?_) #[T0,T0,T0,T0,T0,T0,T0,T0,F0,F0,F0] rfl rfl (by kernel_rfl) (fun _ _ _ h=>h) (Or.inl ⟨by rfl,?_⟩) ?_ ?_
   rotate_left
   ·intro w'
    go_simp
    with_reducible rfl
   rotate_left
   ·simp only [Act.put,zzA,zzB,zzC,i64_w,i32_w]
    rfl
   refine pure_ (i:=8) (N:=some 32) (v:=?_) (a':=?_) #[T0,T0,T0,T0,T0,T0,T0,T0,T0,F0,F0] rfl rfl (by kernel_rfl) (fun _ _ _ h=>h) (Or.inl ⟨by rfl,?_⟩) ?_ ?_
   rotate_left
   ·intro w'
    go_simp
    with_reducible rfl
   rotate_left
   ·simp only [Act.put,zzA,zzB,zzC,i64_w,i32_w]
    rfl
   refine one_ (i:=9) (N:=none) #[T0,T0,T0,T0,T0,T0,T0,T0,T0,T0,F0] rfl rfl (by kernel_rfl) (by decide) (fun K hK=>?_)
   refine wp_storeRow_step (by rfl) rfl rfl (g:=g7) (cs:=#[.slice b0_ n0_ e0_,.slice b1_ n1_ e1_,.slice b2_ n2_ e2_,.slice b3_ n3_ e3_,.slice b4_ n4_ e4_]) rfl rfl F90.out (by kernel_rfl) rfl rfl ?_
   intro W93 hbk94 hg95
   have z0_:=Z68.out
   have z1_:=T85.out
   have T96:=Ak (show W50.heap.size≤W79.heap.size from (by omega))
   have HB97:=Ak (below_at HB83.out hg95.1 (by show w.heap.size≤g7;omega))
   have HK98:=Ak (kept_row hg95)
   have T99:=Ak (Nat.le_trans T96.out HK98.out.1)
   have F100:=Ak (StC.below HV0.out HB97.out)
   have F101:=Ak (Bk.kept F87.out HK98.out (fun h_=>(by obtain ⟨h1_,h2_⟩:=h_;omega)))
   have F102:=Ak (Bk.kept F88.out HK98.out (fun h_=>(by obtain ⟨h1_,h2_⟩:=h_;omega)))
   have F103:=Ak (RowN.kept F89.out HK98.out (fun h_=>(by obtain ⟨h1_,h2_⟩:=h_;omega)))
   have F104:=Ak (hbk94)
   have F105:=Ak (StR.kept F91.out HK98.out (fun k_ h_=>(by obtain ⟨h1_,h2_⟩:=h_;omega)))
   have F106:=Ak (ReqC.below HL0.out HB97.out)
   clear z0_ z1_ hbk94 hg95
   refine hK.out _ _ ⟨F104.out,(show ReqAt W93 (ad_.add (i_.toNat * 6)) q_ from (ReqC.readq F106.out HIL.out.1 HIL.out.2 HQx.out))⟩ (fun hHeld=>?_)
   clear hHeld hK K
   refine norm_ (a':=?_) ?_ ?_
   rotate_left
   ·show Act.put _ none _=_
    simp only [Act.put,zzA,zzB,zzC,i64_w,i32_w]
    rfl
   refine pure_ (i:=10) (N:=some 9) (v:=?_) (a':=?_) #[T0,T0,T0,T0,T0,T0,T0,T0,T0,T0,T0] rfl rfl (by kernel_rfl) (fun _ _ _ h=>h) (Or.inl ⟨by rfl,?_⟩) ?_ ?_
   rotate_left
   ·intro w'
    go_simp
    with_reducible rfl
   rotate_left
   ·simp only [Act.put,zzA,zzB,zzC,i64_w,i32_w]
    rfl
   refine done_ (by kernel_rfl) ?_
   try go_wp2_with (first|((with_reducible refine gate_builtin (b:=.append) (xs:=#[.tmp 33,.tmp 35]) rfl ?_);at_builtin;refine ev_pushN rfl (t:=24) rfl Try.underlying24 info3 rfl (by decide) (v:=.slice RA_ cs_.length rc_) (xs:=cs_) q76 (lo:=W5.heap.size) (b:=b_) rfl rfl F103.out (by have h_:=HCL.out;have h1_:=HLN.out;have h2_:=HIL.out;omega) ?_;intro b107 A108 c109 W110 HR111 HP112 hK113 hB114;have z0_:=Z68.out;have z1_:=T99.out;have T115:=Ak (show W50.heap.size≤W93.heap.size from (by omega));have HB116:=Ak (below_at HB97.out hB114.out (by show w.heap.size≤W5.heap.size;omega));have HK117:=Ak (hK113.out);have T118:=Ak (Nat.le_trans T115.out HK117.out.1);have F119:=Ak (StC.below HV0.out HB116.out);have F120:=Ak (Bk.kept F101.out HK117.out (fun h_=>(by obtain ⟨h1_,h2_⟩:=h_;omega)));have F121:=Ak (Bk.kept F102.out HK117.out (fun h_=>(by obtain ⟨h1_,h2_⟩:=h_;omega)));have F122:=Ak (HR111.out);have F123:=Ak (Bk.kept F104.out HK117.out (fun h_=>(by obtain ⟨h1_,h2_⟩:=h_;omega)));have F124:=Ak (StR.kept F105.out HK117.out (fun k_ h_=>(by obtain ⟨h1_,h2_⟩:=h_;omega)));have F125:=Ak (ReqC.below HL0.out HB116.out);clear z0_ z1_;have T126:=Ak (Nat.le_refl W110.heap.size);have Z127:=Ak (And.intro Z68.out (And.intro HP112.out (And.intro HR111.out.lt (And.intro T115.out T118.out))))))
   go_roundg (((l.length:Int) - (i_ + 1)).toNat)
   case measure=>have h_:=HIk.out;have h1_:=HIL.out;omega
   case rel=>exact ⟨_,_,_,_,_,_,_,_,_,_,_,_,_,_,_,t74,lo_,hi_,_,_,(cs_ ++ [q76]),b107,i_ + 1,(by first|rfl|(rw [List.length_append];rfl)|rw [w64 (by have h_:=HIL.out;omega) (by have h_:=HIL.out;have h1_:=HLN.out;omega)]),(by first|rfl|(rw [List.length_append];rfl)|rw [w64 (by have h_:=HIL.out;omega) (by have h_:=HIL.out;have h1_:=HLN.out;omega)]),⟨F120.out⟩,⟨F121.out⟩,⟨F123.out⟩,⟨F122.out⟩,⟨F119.out⟩,⟨F124.out⟩,⟨HB116.out⟩,⟨(by show g7 + 1≤W110.heap.size;have z0_:=Z127.out;have z1_:=T126.out;omega)⟩,⟨(by have h_:=HIk.out;have h1_:=HIL.out;exact ⟨by omega,by omega,by omega⟩)⟩,⟨(by show w.heap.size≤lo_∧lo_≤hi_∧hi_≤W110.heap.size ∧ (g2<lo_∨hi_≤g2)∧(g4<lo_∨hi_≤g4)∧(g7<lo_∨hi_≤g7);have z0_:=Z127.out;have z1_:=T126.out;omega)⟩,⟨(by show W5.heap.size≤b107∧w.heap.size≤W5.heap.size∧b107<W110.heap.size∧(b107<lo_∨hi_≤b107)∧b107 ≠ g2∧b107 ≠ g4∧b107 ≠ g7;have z0_:=Z127.out;have z1_:=T126.out;omega)⟩,⟨(doSt_small HT75.out HSt.out)⟩,⟨(doSt_sized_e HT75.out HZt.out)⟩,⟨(allSt_snoc HAl.out HIL.out.1 HIL.out.2 HQx.out HT75.out)⟩,⟨(by have h_:=HCL.out;have h1_:=HIL.out;simp only [List.length_append,List.length_cons,List.length_nil];omega)⟩⟩
  ·have d70:decide (i_<(l.length:Int))=false:=decide_eq_false c69
   (first|rw [d70]|(simp only [i64_w,i32_w];rw [d70])|skip)
   have K71:=Ak c69
   clear c69
   go_wp2_with (first|((with_reducible refine gate_dst (N:=37) rfl ?_);refine ev_load rfl (N:=37) rfl rfl (g:=g7) rfl (cs:=#[.slice b0_ n0_ e0_,.slice b1_ n1_ e1_,.slice b2_ n2_ e2_,.slice b3_ n3_ e3_,.slice b4_ n4_ e4_]) BK53.out hu26 rfl (by kernel_rfl) ?_)|((with_reducible refine gate_store (t:=26) (p:=4) rfl ?_);refine ev_put (by rfl) rfl rfl (g:=g4) rfl (cs:=#[.slice b0_ n0_ e0_,.slice b1_ n1_ e1_,.slice b2_ n2_ e2_,.slice b3_ n3_ e3_,.slice b4_ n4_ e4_]) rfl BK52.out (by kernel_rfl) rfl rfl ?_;intro W128 BK129 HB130 HK131;have z0_:=Z68.out;have z1_:=TW.out;have T132:=Ak (show W50.heap.size≤W50.heap.size from (by omega));have HB133:=Ak (below_at HB57.out HB130.out (by show w.heap.size≤g4;omega));have HK134:=Ak (HK131.out);have T135:=Ak (Nat.le_trans T132.out HK134.out.1);have F136:=Ak (StC.below HV0.out HB133.out);have F137:=Ak (Bk.kept BK51.out HK134.out (fun h_=>(by obtain ⟨h1_,h2_⟩:=h_;omega)));have F138:=Ak (BK129.out);have F139:=Ak (RowN.kept HR54.out HK134.out (fun h_=>(by obtain ⟨h1_,h2_⟩:=h_;omega)));have F140:=Ak (Bk.kept BK53.out HK134.out (fun h_=>(by obtain ⟨h1_,h2_⟩:=h_;omega)));have F141:=Ak (StR.kept HR56.out HK134.out (fun k_ h_=>(by obtain ⟨h1_,h2_⟩:=h_;omega)));have F142:=Ak (ReqC.below HL0.out HB133.out);clear z0_ z1_))
   try go_wp2
   refine bodyPost_ret (results_list (rs:=[.cell 4 26,.tmp 5]) rfl (by simp) (.cell g4 26 #[.slice b0_ n0_ e0_,.slice b1_ n1_ e1_,.slice b2_ n2_ e2_,.slice b3_ n3_ e3_,.slice b4_ n4_ e4_] (0,0) _ rfl F138.out hu26 rfl (by kernel_rfl) (.tmp .nil))) rfl ?_
   obtain ⟨et_,ec_⟩:=allSt_all HAl.out (by have h_:=K71.out;omega) HE.out HK.out
   subst t
   subst cs
   exact ⟨_,_,rfl,StR.widen F141.out (by show w.heap.size≤lo_;have z0_:=Z68.out;have z1_:=T135.out;omega) (by show hi_≤W128.heap.size;have z0_:=Z68.out;have z1_:=T135.out;omega),RowN.toR F139.out (by show w.heap.size≤W5.heap.size;have z0_:=Z68.out;have z1_:=T135.out;omega) (by show b_<W128.heap.size;have z0_:=Z68.out;have z1_:=T135.out;omega),HB133.out⟩
theorem impl_StoreAll_p0 {w:World} {v:Value} {s t:St} {A:Option Addr} {c:Nat} {l:List SQ} {cs:List Int} (hv:StC w v s) (hz:Sized s) (hs:Small s) (hl:ReqC w (.slice A l.length c) l) (hq:∀ x ∈ l,x.f5.size≤9223372036854775807) (hn:l.length≤1000000) (he:storeAll s (l.map rq)=(t,cs)) (hk:stOk s=false):
  Calls Try.prog 16 #[v,.slice A l.length c] w fun e w'=>∃ u z,e = .returned (.tuple #[u,z])∧StR w' w.heap.size w'.heap.size u t∧NumR w' w.heap.size w'.heap.size z cs∧Below w.heap.size w w':=by
 have HV0:=Ak hv
 obtain ⟨A0_0,c0_0,A0_1,c0_1,A0_2,c0_2,A0_3,c0_3,A0_4,c0_4,rfl,_⟩:=hv
 have HS0:=Ak hs
 have HZ0:=Ak hz
 have HL0:=Ak hl
 have HLS:=Ak hq
 have HLN:=Ak hn
 have HK:=Ak hk
 have HE:=Ak he
 have HT0:=Ak (Nat.le_refl w.heap.size)
 clear hs hz hl hq hn hk he
 have hu26:=Try.underlying26
 go_enter Try.func16,Try.ntmps16
 go_wp2_with (first|((with_reducible refine gate_dst (N:=2) rfl ?_);refine ev_box ?hg (N:=2) ?hd (cs:=#[.slice A0_0 s.now.length c0_0,.slice A0_1 s.sure.length c0_1,.slice A0_2 s.last.length c0_2,.slice A0_3 s.slast.length c0_3,.slice A0_4 s.floors.length c0_4]) (t:=26) ?hr ?_;(case hd=>rfl);(case hg=>rfl);(case hr=>first|(go_simp;done)|(go_simp;rfl));intro g2 W1 HG4 BK2 HB3)|((with_reducible refine gate_dst (N:=4) rfl ?_);refine ev_box ?hg (N:=4) ?hd (cs:=#[.slice none 0 0,.slice none 0 0,.slice none 0 0,.slice none 0 0,.slice none 0 0]) (t:=26) ?hr ?_;(case hd=>rfl);(case hg=>rfl);(case hr=>first|(go_simp;done)|(go_simp;rfl));intro g4 W5 HG8 BK6 HB7)|((with_reducible refine gate_dst (N:=11) rfl ?_);refine ev_load rfl (N:=11) rfl rfl (g:=g2) rfl (cs:=#[.slice A0_0 s.now.length c0_0,.slice A0_1 s.sure.length c0_1,.slice A0_2 s.last.length c0_2,.slice A0_3 s.slast.length c0_3,.slice A0_4 s.floors.length c0_4]) (Bk.below BK2.out HB7.out) hu26 rfl (by kernel_rfl) ?_))
 refine (impl_StoreOk_q (StC.below HV0.out (below_step HB3.out HB7.out)) HZ0.out HK.out).mono ?_
 rintro e W9 ⟨rfl,hb10⟩
 have HB11:=Ak hb10
 clear hb10
 go_wp2_with (first|((with_reducible refine gate_store (t:=26) (p:=4) rfl ?_);refine ev_put (by rfl) rfl rfl (g:=g4) rfl (cs:=#[.slice none 0 0,.slice none 0 0,.slice none 0 0,.slice none 0 0,.slice none 0 0]) rfl (Bk.below BK6.out HB11.out) (by kernel_rfl) rfl rfl ?_;intro W12 BK13 HB14 HK15;have z0_:=HT0.out;have z1_:=HB3.out.size;have z2_:=HG4.out;have z3_:=BK2.out.lt;have z4_:=HB7.out.size;have z5_:=HG8.out;have z6_:=BK6.out.lt;have z7_:=HB11.out.size;have C16:=Ak (show w.heap.size≤g2∧g2≤g2 + 1 from (by omega));have C17:=Ak (show g2 + 1≤g4∧g4≤g4 + 1 from (by omega));have T18:=Ak (show g4 + 1≤W9.heap.size from (by omega));have HB19:=Ak (below_at (below_step (below_step HB3.out HB7.out) HB11.out) HB14.out (by show w.heap.size≤g4;omega));have HK20:=Ak (HK15.out);have T21:=Ak (Nat.le_trans T18.out HK20.out.1);have F22:=Ak (StC.below HV0.out HB19.out);have F23:=Ak (Bk.kept (Bk.below BK2.out (below_step HB7.out HB11.out)) HK20.out (fun h_=>(by obtain ⟨h1_,h2_⟩:=h_;omega)));have F24:=Ak (BK13.out);have F25:=Ak (ReqC.below HL0.out HB19.out);clear z0_ z1_ z2_ z3_ z4_ z5_ z6_ z7_;have Z26:=Ak (And.intro C16.out C17.out)))
 try go_wp2
 refine bodyPost_ret (results_list (rs:=[.cell 4 26,.tmp 5]) rfl (by simp) (.cell g4 26 #[.slice none 0 0,.slice none 0 0,.slice none 0 0,.slice none 0 0,.slice none 0 0] (0,0) _ rfl F24.out hu26 rfl (by kernel_rfl) (.tmp .nil))) rfl ?_
 obtain ⟨et_,ec_⟩:=storeAll_bad HE.out HK.out
 subst t
 subst cs
 exact ⟨_,_,rfl,StR.zero _ _,NumR.nil,HB19.out⟩
theorem impl_StoreAll_pT {w:World} {v:Value} {s t:St} {A:Option Addr} {c:Nat} {l:List SQ} {cs:List Int} (hv:StC w v s) (hz:Sized s) (hs:Small s) (hl:ReqC w (.slice A l.length c) l) (hq:∀ x ∈ l,x.f5.size≤9223372036854775807) (hn:l.length≤1000000) (he:storeAll s (l.map rq)=(t,cs)) (hk:stOk s=true):
  Calls Try.prog 16 #[v,.slice A l.length c] w fun e w'=>∃ u z,e = .returned (.tuple #[u,z])∧StR w' w.heap.size w'.heap.size u t∧NumR w' w.heap.size w'.heap.size z cs∧Below w.heap.size w w':=by
 have HV0:=Ak hv
 obtain ⟨A0_0,c0_0,A0_1,c0_1,A0_2,c0_2,A0_3,c0_3,A0_4,c0_4,rfl,_⟩:=hv
 have HS0:=Ak hs
 have HZ0:=Ak hz
 have HL0:=Ak hl
 have HLS:=Ak hq
 have HLN:=Ak hn
 have HK:=Ak hk
 have HE:=Ak he
 have HT0:=Ak (Nat.le_refl w.heap.size)
 clear hs hz hl hq hn hk he
 have hu26:=Try.underlying26
 have hu52:=Try.underlying52
 go_enter Try.func16,Try.ntmps16
 go_wp2_with (first|((with_reducible refine gate_dst (N:=2) rfl ?_);refine ev_box ?hg (N:=2) ?hd (cs:=#[.slice A0_0 s.now.length c0_0,.slice A0_1 s.sure.length c0_1,.slice A0_2 s.last.length c0_2,.slice A0_3 s.slast.length c0_3,.slice A0_4 s.floors.length c0_4]) (t:=26) ?hr ?_;(case hd=>rfl);(case hg=>rfl);(case hr=>first|(go_simp;done)|(go_simp;rfl));intro g2 W1 HG4 BK2 HB3)|((with_reducible refine gate_dst (N:=4) rfl ?_);refine ev_box ?hg (N:=4) ?hd (cs:=#[.slice none 0 0,.slice none 0 0,.slice none 0 0,.slice none 0 0,.slice none 0 0]) (t:=26) ?hr ?_;(case hd=>rfl);(case hg=>rfl);(case hr=>first|(go_simp;done)|(go_simp;rfl));intro g4 W5 HG8 BK6 HB7)|((with_reducible refine gate_dst (N:=11) rfl ?_);refine ev_load rfl (N:=11) rfl rfl (g:=g2) rfl (cs:=#[.slice A0_0 s.now.length c0_0,.slice A0_1 s.sure.length c0_1,.slice A0_2 s.last.length c0_2,.slice A0_3 s.slast.length c0_3,.slice A0_4 s.floors.length c0_4]) (Bk.below BK2.out HB7.out) hu26 rfl (by kernel_rfl) ?_))
 refine (impl_StoreOk_q (StC.below HV0.out (below_step HB3.out HB7.out)) HZ0.out HK.out).mono ?_
 rintro e W9 ⟨rfl,hb10⟩
 have HB11:=Ak hb10
 clear hb10
 go_wp2_with (first|((with_reducible refine gate_dst (N:=15) rfl ?_);refine ev_load rfl (N:=15) rfl rfl (g:=g2) rfl (cs:=#[.slice A0_0 s.now.length c0_0,.slice A0_1 s.sure.length c0_1,.slice A0_2 s.last.length c0_2,.slice A0_3 s.slast.length c0_3,.slice A0_4 s.floors.length c0_4]) (Bk.below BK2.out (below_step HB7.out HB11.out)) hu26 rfl (by kernel_rfl) ?_))
 refine (impl_again_c (StC.below HV0.out (below_step (below_step HB3.out HB7.out) HB11.out)) HS0.out).mono ?_
 rintro e W15 ⟨u12,rfl,hr13,hb16⟩
 have HB17:=Ak hb16
 clear hb16
 have HRs14:=Ak hr13
 obtain ⟨as14_0,ds14_0,as14_1,ds14_1,as14_2,ds14_2,as14_3,ds14_3,as14_4,ds14_4,rfl,_⟩:=hr13.toC
 clear hr13
 go_wp2_with (first|((with_reducible refine gate_store (t:=26) (p:=2) rfl ?_);refine ev_put (by rfl) rfl rfl (g:=g2) rfl (cs:=#[.slice as14_0 s.now.length ds14_0,.slice as14_1 s.sure.length ds14_1,.slice as14_2 s.last.length ds14_2,.slice as14_3 s.slast.length ds14_3,.slice as14_4 s.floors.length ds14_4]) rfl (Bk.below BK2.out (below_step (below_step HB7.out HB11.out) HB17.out)) (by kernel_rfl) rfl rfl ?_;intro W18 BK19 HB20 HK21;have z0_:=HT0.out;have z1_:=HB3.out.size;have z2_:=HG4.out;have z3_:=BK2.out.lt;have z4_:=HB7.out.size;have z5_:=HG8.out;have z6_:=BK6.out.lt;have z7_:=HB11.out.size;have z8_:=HB17.out.size;have C22:=Ak (show w.heap.size≤g2∧g2≤g2 + 1 from (by omega));have C23:=Ak (show g2 + 1≤g4∧g4≤g4 + 1 from (by omega));have C24:=Ak (show g4 + 1≤W9.heap.size∧W9.heap.size≤W15.heap.size from (by omega));have T25:=Ak (show W15.heap.size≤W15.heap.size from (by omega));have HB26:=Ak (below_at (below_step (below_step (below_step HB3.out HB7.out) HB11.out) HB17.out) HB20.out (by show w.heap.size≤g2;omega));have HK27:=Ak (HK21.out);have T28:=Ak (Nat.le_trans T25.out HK27.out.1);have F29:=Ak (StC.below HV0.out HB26.out);have F30:=Ak (BK19.out);have F31:=Ak (Bk.kept (Bk.below BK6.out (below_step HB11.out HB17.out)) HK27.out (fun h_=>(by obtain ⟨h1_,h2_⟩:=h_;omega)));have F32:=Ak (StR.kept HRs14.out HK27.out (fun k_ h_=>(by obtain ⟨h1_,h2_⟩:=h_;omega)));have F33:=Ak (ReqC.below HL0.out HB26.out);clear z0_ z1_ z2_ z3_ z4_ z5_ z6_ z7_ z8_;have Z34:=Ak (And.intro C22.out (And.intro C23.out C24.out)))|((with_reducible refine gate_dst (N:=17) rfl ?_);refine ev_noneN ?hg (N:=17) ?hd ?hr ?_;(case hd=>rfl);(case hg=>rfl);(case hr=>first|(go_simp;done)|(go_simp;rfl));intro b35 A36 c37 W38 HR39 HB40))
 have z0_:=Z34.out
 have z1_:=T28.out
 have z2_:=HB40.out.size
 have z3_:=HR39.out.ge
 have z4_:=HR39.out.lt
 have C42:=Ak (show W15.heap.size≤W18.heap.size∧W18.heap.size≤W18.heap.size from (by omega))
 have C43:=Ak (show W18.heap.size≤b35∧b35≤b35 + 1 from (by omega))
 clear z0_ z1_ z2_ z3_ z4_
 go_loopg [6,20] (l.length) (fun k_ v6_ v20_ W41=>∃ (b0_:Option Addr) (n0_:Nat) (e0_:Nat) (b1_:Option Addr) (n1_:Nat) (e1_:Nat) (b2_:Option Addr) (n2_:Nat) (e2_:Nat) (b3_:Option Addr) (n3_:Nat) (e3_:Nat) (b4_:Option Addr) (n4_:Nat) (e4_:Nat) (t_:St) (lo_:Nat) (hi_:Nat) (RA_:Option Addr) (rc_:Nat) (cs_:List Int) (b_:Nat) (i_:Int),v6_ = .slice RA_ cs_.length rc_∧v20_ = .int .i64 i_∧Aside0 (Bk W41 g2 #[.slice b0_ n0_ e0_,.slice b1_ n1_ e1_,.slice b2_ n2_ e2_,.slice b3_ n3_ e3_,.slice b4_ n4_ e4_] 26)∧Aside0 (Bk W41 g4 #[.slice none 0 0,.slice none 0 0,.slice none 0 0,.slice none 0 0,.slice none 0 0] 26)∧Aside0 (RowN W41 W18.heap.size b_ (.slice RA_ cs_.length rc_) (cs_))∧Aside0 (StC W41 (.agg #[.slice A0_0 s.now.length c0_0,.slice A0_1 s.sure.length c0_1,.slice A0_2 s.last.length c0_2,.slice A0_3 s.slast.length c0_3,.slice A0_4 s.floors.length c0_4]) (s))∧Aside0 (StR W41 lo_ hi_ (.agg #[.slice b0_ n0_ e0_,.slice b1_ n1_ e1_,.slice b2_ n2_ e2_,.slice b3_ n3_ e3_,.slice b4_ n4_ e4_]) (t_))∧Aside0 (Below w.heap.size w W41)∧Aside0 (b35 + 1≤W41.heap.size)∧Aside0 (0≤i_∧i_≤(l.length:Int)∧((l.length:Int) - i_).toNat≤k_)∧Aside0 (w.heap.size≤lo_∧lo_≤hi_∧hi_≤W41.heap.size∧(g2<lo_∨hi_≤g2)∧(g4<lo_∨hi_≤g4))∧Aside0 (W18.heap.size≤b_∧w.heap.size≤W18.heap.size∧b_<W41.heap.size∧(b_<lo_∨hi_≤b_)∧b_ ≠ g2∧b_ ≠ g4)∧Aside0 (Small t_)∧Aside0 (Sized t_)∧Aside0 (allSt s ((l.take i_.toNat).map rq)=(t_,cs_))∧Aside0 ((cs_.length:Int)=i_))
 case atStart=>exact ⟨_,_,_,_,_,_,_,_,_,_,_,_,_,_,_,s,W9.heap.size,W15.heap.size,_,_,([]:List Int),b35,0,rfl,rfl,⟨(Bk.below F30.out HB40.out)⟩,⟨(Bk.below F31.out HB40.out)⟩,⟨HR39.out⟩,⟨(StC.below F29.out HB40.out)⟩,⟨(StR.below F32.out HB40.out)⟩,⟨(below_step HB26.out HB40.out)⟩,⟨(by show b35 + 1≤W38.heap.size;have z0_:=Z34.out;have z1_:=T28.out;have z2_:=HB40.out.size;have z3_:=HR39.out.ge;have z4_:=HR39.out.lt;have z5_:=C42.out;have z6_:=C43.out;omega)⟩,⟨⟨Int.le_refl _,by omega,by omega⟩⟩,⟨(by show w.heap.size≤W9.heap.size∧W9.heap.size≤W15.heap.size∧W15.heap.size≤W38.heap.size ∧ (g2<W9.heap.size∨W15.heap.size≤g2)∧(g4<W9.heap.size∨W15.heap.size≤g4);have z0_:=Z34.out;have z1_:=T28.out;have z2_:=HB40.out.size;have z3_:=HR39.out.ge;have z4_:=HR39.out.lt;have z5_:=C42.out;have z6_:=C43.out;omega)⟩,⟨(by show W18.heap.size≤b35∧w.heap.size≤W18.heap.size∧b35<W38.heap.size∧(b35<W9.heap.size∨W15.heap.size≤b35)∧b35 ≠ g2∧b35 ≠ g4;have z0_:=Z34.out;have z1_:=T28.out;have z2_:=HB40.out.size;have z3_:=HR39.out.ge;have z4_:=HR39.out.lt;have z5_:=C42.out;have z6_:=C43.out;omega)⟩,⟨HS0.out⟩,⟨HZ0.out⟩,⟨rfl⟩,⟨rfl⟩⟩
 case round =>
  obtain ⟨W41,hW_⟩:∃ x_,x_=wr:=⟨_,rfl⟩
  subst hW_
  obtain ⟨b0_,n0_,e0_,b1_,n1_,e1_,b2_,n2_,e2_,b3_,n3_,e3_,b4_,n4_,e4_,t_,lo_,hi_,RA_,rc_,cs_,b_,i_,rfl,rfl,BK44,BK45,HR46,HR47,HR48,HB49,HZ51,HX52,HX53,HX54,HX55,HX56,HX57,HX58⟩:=hrel
  have HO59:=Ak (ReqC.below HL0.out HB49.out)
  have Z60:=Ak (And.intro Z34.out (And.intro C42.out C43.out))
  have TW:=Ak (Nat.le_refl W41.heap.size)
  have Z61:=Ak (And.intro Z60.out (And.intro HX53.out (And.intro HX54.out HZ51.out)))
  have HIk:=HX52
  have HSt:=HX55
  have HZt:=HX56
  have HAl:=HX57
  have HCL:=HX58
  go_upto_if 21 with (fail)
  by_cases c62:i_<(l.length:Int)
  ·have d63:decide (i_<(l.length:Int))=true:=decide_eq_true c62
   (first|rw [d63]|(simp only [i64_w,i32_w];rw [d63])|skip)
   have K64:=Ak c62
   clear c62
   have HIL:=Ak (show 0≤i_∧i_<(l.length:Int) from ⟨HIk.out.1,K64.out⟩)
   obtain ⟨ad_,rfl⟩:=ReqC.form HL0.out HIL.out.1 HIL.out.2
   obtain ⟨q_,hq_⟩:∃ y_,rd_T52 l i_=y_:=⟨_,rfl⟩
   have HQx:=Ak hq_
   have HQS:=Ak (show q_.f5.size≤9223372036854775807 from hq_ ▸ rdT_small HLS.out i_)
   clear hq_
   have pHIL:=eq_true HIL.out.1
   have qHIL:=eq_true HIL.out.2
   go_wp2_with (first|((with_reducible refine gate_dst (N:=23) rfl ?_);refine ev_val (by rfl) (v:=.agg #[.int .i64 q_.f0,.int .i64 q_.f1,.int .i64 q_.f2,.int .i64 q_.f3,.int .i64 q_.f4,.string q_.f5]) ?hr ?_;(case hr=>obtain ⟨k0_,k1_,k2_,k3_,k4_,k5_⟩:=(show ReqAt W41 (ad_.add (i_.toNat * 6)) q_ from (ReqC.readq HO59.out HIL.out.1 HIL.out.2 HQx.out));first|(go_simp;done)|(go_simp;rfl)))|((with_reducible refine gate_dst (N:=8) rfl ?_);refine ev_box ?hg (N:=8) ?hd (cs:=#[.int .i64 0,.int .i64 0,.int .i64 0,.int .i64 0,.int .i64 0,.string ⟨#[]⟩]) (t:=52) ?hr ?_;(case hd=>rfl);(case hg=>rfl);(case hr=>first|(go_simp;done)|(go_simp;rfl));intro g8 W65 HG68 BK66 HB67)|((with_reducible refine gate_store (t:=52) (p:=8) rfl ?_);refine ev_put (by rfl) rfl rfl (g:=g8) rfl (cs:=#[.int .i64 q_.f0,.int .i64 q_.f1,.int .i64 q_.f2,.int .i64 q_.f3,.int .i64 q_.f4,.string q_.f5]) rfl BK66.out (by kernel_rfl) rfl rfl ?_;intro W69 BK70 HB71 HK72;have z0_:=Z61.out;have z1_:=TW.out;have z2_:=HB67.out.size;have z3_:=HG68.out;have z4_:=BK66.out.lt;have C73:=Ak (show W41.heap.size≤g8∧g8≤g8 + 1 from (by omega));have T74:=Ak (show g8 + 1≤W65.heap.size from (by omega));have HB75:=Ak (below_at (below_step HB49.out HB67.out) HB71.out (by show w.heap.size≤g8;omega));have HK76:=Ak (HK72.out);have T77:=Ak (Nat.le_trans T74.out HK76.out.1);have F78:=Ak (StC.below HV0.out HB75.out);have F79:=Ak (Bk.kept (Bk.below BK44.out HB67.out) HK76.out (fun h_=>(by obtain ⟨h1_,h2_⟩:=h_;omega)));have F80:=Ak (StR.kept (StR.below HR48.out HB67.out) HK76.out (fun k_ h_=>(by obtain ⟨h1_,h2_⟩:=h_;omega)));have F81:=Ak (Bk.kept (Bk.below BK45.out HB67.out) HK76.out (fun h_=>(by obtain ⟨h1_,h2_⟩:=h_;omega)));have F82:=Ak (RowN.kept (RowN.below HR46.out HB67.out) HK76.out (fun h_=>(by obtain ⟨h1_,h2_⟩:=h_;omega)));have F83:=Ak (BK70.out);have F84:=Ak (ReqC.below HL0.out HB75.out);clear z0_ z1_ z2_ z3_ z4_;have Z85:=Ak (And.intro Z61.out C73.out))|((with_reducible refine gate_dst (N:=25) rfl ?_);refine ev_load rfl (N:=25) rfl rfl (g:=g2) rfl (cs:=#[.slice b0_ n0_ e0_,.slice b1_ n1_ e1_,.slice b2_ n2_ e2_,.slice b3_ n3_ e3_,.slice b4_ n4_ e4_]) F79.out hu26 rfl (by kernel_rfl) ?_)|((with_reducible refine gate_dst (N:=26) rfl ?_);refine ev_load rfl (N:=26) rfl rfl (g:=g8) rfl (cs:=#[.int .i64 q_.f0,.int .i64 q_.f1,.int .i64 q_.f2,.int .i64 q_.f3,.int .i64 q_.f4,.string q_.f5]) F83.out hu52 rfl (by kernel_rfl) ?_))
   obtain ⟨⟨t86,q88⟩,ht_⟩:∃ x_,doSt t_ (rq q_)=x_:=⟨_,rfl⟩
   have HT87:=Ak ht_
   clear ht_
   refine (impl_StoreDo_c (StR.toC F80.out) HZt.out HSt.out HQS.out (storeDo_of HT87.out (allSt_okT HAl.out HK.out))).mono ?_
   rintro e W92 ⟨u89,rfl,hr90,hb93⟩
   have HB94:=Ak hb93
   clear hb93
   have HRs91:=Ak hr90
   obtain ⟨as91_0,ds91_0,as91_1,ds91_1,as91_2,ds91_2,as91_3,ds91_3,as91_4,ds91_4,rfl,_⟩:=hr90.toC
   clear hr90
   try go_wp2_with (first|((with_reducible refine gate_dst (N:=9) rfl ?_);refine ev_box ?hg (N:=9) ?hd (cs:=#[.slice none 0 0,.slice none 0 0,.slice none 0 0,.slice none 0 0,.slice none 0 0]) (t:=26) ?hr ?_;(case hd=>rfl);(case hg=>rfl);(case hr=>first|(go_simp;done)|(go_simp;rfl));intro g9 W95 HG98 BK96 HB97)|((with_reducible refine gate_store (t:=26) (p:=9) rfl ?_);refine ev_put (by rfl) rfl rfl (g:=g9) rfl (cs:=#[.slice as91_0 t86.now.length ds91_0,.slice as91_1 t86.sure.length ds91_1,.slice as91_2 t86.last.length ds91_2,.slice as91_3 t86.slast.length ds91_3,.slice as91_4 t86.floors.length ds91_4]) rfl BK96.out (by kernel_rfl) rfl rfl ?_;intro W99 BK100 HB101 HK102;have z0_:=Z85.out;have z1_:=T77.out;have z2_:=HB94.out.size;have z3_:=HB97.out.size;have z4_:=HG98.out;have z5_:=BK96.out.lt;have C103:=Ak (show g8 + 1≤W69.heap.size∧W69.heap.size≤W92.heap.size from (by omega));have C104:=Ak (show W92.heap.size≤g9∧g9≤g9 + 1 from (by omega));have T105:=Ak (show g9 + 1≤W95.heap.size from (by omega));have HB106:=Ak (below_at (below_step HB75.out (below_step HB94.out HB97.out)) HB101.out (by show w.heap.size≤g9;omega));have HK107:=Ak (HK102.out);have T108:=Ak (Nat.le_trans T105.out HK107.out.1);have F109:=Ak (StC.below HV0.out HB106.out);have F110:=Ak (Bk.kept (Bk.below F79.out (below_step HB94.out HB97.out)) HK107.out (fun h_=>(by obtain ⟨h1_,h2_⟩:=h_;omega)));have F111:=Ak (StR.kept (StR.below F80.out (below_step HB94.out HB97.out)) HK107.out (fun k_ h_=>(by obtain ⟨h1_,h2_⟩:=h_;omega)));have F112:=Ak (Bk.kept (Bk.below F81.out (below_step HB94.out HB97.out)) HK107.out (fun h_=>(by obtain ⟨h1_,h2_⟩:=h_;omega)));have F113:=Ak (RowN.kept (RowN.below F82.out (below_step HB94.out HB97.out)) HK107.out (fun h_=>(by obtain ⟨h1_,h2_⟩:=h_;omega)));have F114:=Ak (Bk.kept (Bk.below F83.out (below_step HB94.out HB97.out)) HK107.out (fun h_=>(by obtain ⟨h1_,h2_⟩:=h_;omega)));have F115:=Ak (StR.kept (StR.below HRs91.out HB97.out) HK107.out (fun k_ h_=>(by obtain ⟨h1_,h2_⟩:=h_;omega)));have F116:=Ak (BK100.out);have F117:=Ak (ReqC.below HL0.out HB106.out);clear z0_ z1_ z2_ z3_ z4_ z5_;have Z118:=Ak (And.intro Z85.out (And.intro C103.out C104.out)))|((with_reducible refine gate_dst (N:=30) rfl ?_);refine ev_load rfl (N:=30) rfl rfl (g:=g9) rfl (cs:=#[.slice as91_0 t86.now.length ds91_0,.slice as91_1 t86.sure.length ds91_1,.slice as91_2 t86.last.length ds91_2,.slice as91_3 t86.slast.length ds91_3,.slice as91_4 t86.floors.length ds91_4]) F116.out hu26 rfl (by kernel_rfl) ?_)|((with_reducible refine gate_store (t:=26) (p:=2) rfl ?_);refine ev_put (by rfl) rfl rfl (g:=g2) rfl (cs:=#[.slice as91_0 t86.now.length ds91_0,.slice as91_1 t86.sure.length ds91_1,.slice as91_2 t86.last.length ds91_2,.slice as91_3 t86.slast.length ds91_3,.slice as91_4 t86.floors.length ds91_4]) rfl F110.out (by kernel_rfl) rfl rfl ?_;intro W119 BK120 HB121 HK122;have z0_:=Z118.out;have z1_:=T108.out;have T123:=Ak (show g9 + 1≤W99.heap.size from (by omega));have HB124:=Ak (below_at HB106.out HB121.out (by show w.heap.size≤g2;omega));have HK125:=Ak (HK122.out);have T126:=Ak (Nat.le_trans T123.out HK125.out.1);have F127:=Ak (StC.below HV0.out HB124.out);have F128:=Ak (BK120.out);have F129:=Ak (StR.kept F111.out HK125.out (fun k_ h_=>(by obtain ⟨h1_,h2_⟩:=h_;omega)));have F130:=Ak (Bk.kept F112.out HK125.out (fun h_=>(by obtain ⟨h1_,h2_⟩:=h_;omega)));have F131:=Ak (RowN.kept F113.out HK125.out (fun h_=>(by obtain ⟨h1_,h2_⟩:=h_;omega)));have F132:=Ak (Bk.kept F114.out HK125.out (fun h_=>(by obtain ⟨h1_,h2_⟩:=h_;omega)));have F133:=Ak (StR.kept F115.out HK125.out (fun k_ h_=>(by obtain ⟨h1_,h2_⟩:=h_;omega)));have F134:=Ak (Bk.kept F116.out HK125.out (fun h_=>(by obtain ⟨h1_,h2_⟩:=h_;omega)));have F135:=Ak (ReqC.below HL0.out HB124.out);clear z0_ z1_)|((with_reducible refine gate_builtin (b:=.append) (xs:=#[.tmp 31,.tmp 33]) rfl ?_);at_builtin;refine ev_pushN rfl (t:=24) rfl Try.underlying24 info3 rfl (by decide) (v:=.slice RA_ cs_.length rc_) (xs:=cs_) q88 (lo:=W18.heap.size) (b:=b_) rfl rfl F131.out (by have h_:=HCL.out;have h1_:=HLN.out;have h2_:=HIL.out;omega) ?_;intro b136 A137 c138 W139 HR140 HP141 hK142 hB143;have z0_:=Z118.out;have z1_:=T126.out;have T144:=Ak (show g9 + 1≤W119.heap.size from (by omega));have HB145:=Ak (below_at HB124.out hB143.out (by show w.heap.size≤W18.heap.size;omega));have HK146:=Ak (hK142.out);have T147:=Ak (Nat.le_trans T144.out HK146.out.1);have F148:=Ak (StC.below HV0.out HB145.out);have F149:=Ak (Bk.kept F128.out HK146.out (fun h_=>(by obtain ⟨h1_,h2_⟩:=h_;omega)));have F150:=Ak (StR.kept F133.out HK146.out (fun k_ h_=>(by obtain ⟨h1_,h2_⟩:=h_;omega)));have F151:=Ak (Bk.kept F130.out HK146.out (fun h_=>(by obtain ⟨h1_,h2_⟩:=h_;omega)));have F152:=Ak (HR140.out);have F153:=Ak (Bk.kept F132.out HK146.out (fun h_=>(by obtain ⟨h1_,h2_⟩:=h_;omega)));have F154:=Ak (StR.kept F129.out HK146.out (fun k_ h_=>(by obtain ⟨h1_,h2_⟩:=h_;omega)));have F155:=Ak (Bk.kept F134.out HK146.out (fun h_=>(by obtain ⟨h1_,h2_⟩:=h_;omega)));have F156:=Ak (ReqC.below HL0.out HB145.out);clear z0_ z1_;have T157:=Ak (Nat.le_refl W139.heap.size);have Z158:=Ak (And.intro Z118.out (And.intro HP141.out (And.intro HR140.out.lt (And.intro T144.out T147.out))))))
   go_roundg (((l.length:Int) - (i_ + 1)).toNat)
   case measure=>have h_:=HIk.out;have h1_:=HIL.out;omega
   case rel=>exact ⟨_,_,_,_,_,_,_,_,_,_,_,_,_,_,_,t86,W69.heap.size,W92.heap.size,_,_,(cs_ ++ [q88]),b136,i_ + 1,(by first|rfl|(rw [List.length_append];rfl)|rw [w64 (by have h_:=HIL.out;omega) (by have h_:=HIL.out;have h1_:=HLN.out;omega)]),(by first|rfl|(rw [List.length_append];rfl)|rw [w64 (by have h_:=HIL.out;omega) (by have h_:=HIL.out;have h1_:=HLN.out;omega)]),⟨F149.out⟩,⟨F151.out⟩,⟨F152.out⟩,⟨F148.out⟩,⟨F150.out⟩,⟨HB145.out⟩,⟨(by show b35 + 1≤W139.heap.size;have z0_:=Z158.out;have z1_:=T157.out;omega)⟩,⟨(by have h_:=HIk.out;have h1_:=HIL.out;exact ⟨by omega,by omega,by omega⟩)⟩,⟨(by show w.heap.size≤W69.heap.size∧W69.heap.size≤W92.heap.size∧W92.heap.size≤W139.heap.size ∧ (g2<W69.heap.size∨W92.heap.size≤g2)∧(g4<W69.heap.size∨W92.heap.size≤g4);have z0_:=Z158.out;have z1_:=T157.out;omega)⟩,⟨(by show W18.heap.size≤b136∧w.heap.size≤W18.heap.size∧b136<W139.heap.size∧(b136<W69.heap.size∨W92.heap.size≤b136)∧b136 ≠ g2∧b136 ≠ g4;have z0_:=Z158.out;have z1_:=T157.out;omega)⟩,⟨(doSt_small HT87.out HSt.out)⟩,⟨(doSt_sized_e HT87.out HZt.out)⟩,⟨(allSt_snoc HAl.out HIL.out.1 HIL.out.2 HQx.out HT87.out)⟩,⟨(by have h_:=HCL.out;have h1_:=HIL.out;simp only [List.length_append,List.length_cons,List.length_nil];omega)⟩⟩
  ·have d63:decide (i_<(l.length:Int))=false:=decide_eq_false c62
   (first|rw [d63]|(simp only [i64_w,i32_w];rw [d63])|skip)
   have K64:=Ak c62
   clear c62
   go_wp2_with (first|((with_reducible refine gate_dst (N:=36) rfl ?_);refine ev_load rfl (N:=36) rfl rfl (g:=g2) rfl (cs:=#[.slice b0_ n0_ e0_,.slice b1_ n1_ e1_,.slice b2_ n2_ e2_,.slice b3_ n3_ e3_,.slice b4_ n4_ e4_]) BK44.out hu26 rfl (by kernel_rfl) ?_)|((with_reducible refine gate_store (t:=26) (p:=4) rfl ?_);refine ev_put (by rfl) rfl rfl (g:=g4) rfl (cs:=#[.slice b0_ n0_ e0_,.slice b1_ n1_ e1_,.slice b2_ n2_ e2_,.slice b3_ n3_ e3_,.slice b4_ n4_ e4_]) rfl BK45.out (by kernel_rfl) rfl rfl ?_;intro W159 BK160 HB161 HK162;have z0_:=Z61.out;have z1_:=TW.out;have T163:=Ak (show W41.heap.size≤W41.heap.size from (by omega));have HB164:=Ak (below_at HB49.out HB161.out (by show w.heap.size≤g4;omega));have HK165:=Ak (HK162.out);have T166:=Ak (Nat.le_trans T163.out HK165.out.1);have F167:=Ak (StC.below HV0.out HB164.out);have F168:=Ak (Bk.kept BK44.out HK165.out (fun h_=>(by obtain ⟨h1_,h2_⟩:=h_;omega)));have F169:=Ak (StR.kept HR48.out HK165.out (fun k_ h_=>(by obtain ⟨h1_,h2_⟩:=h_;omega)));have F170:=Ak (BK160.out);have F171:=Ak (RowN.kept HR46.out HK165.out (fun h_=>(by obtain ⟨h1_,h2_⟩:=h_;omega)));have F172:=Ak (ReqC.below HL0.out HB164.out);clear z0_ z1_))
   try go_wp2
   refine bodyPost_ret (results_list (rs:=[.cell 4 26,.tmp 5]) rfl (by simp) (.cell g4 26 #[.slice b0_ n0_ e0_,.slice b1_ n1_ e1_,.slice b2_ n2_ e2_,.slice b3_ n3_ e3_,.slice b4_ n4_ e4_] (0,0) _ rfl F170.out hu26 rfl (by kernel_rfl) (.tmp .nil))) rfl ?_
   obtain ⟨et_,ec_⟩:=allSt_all HAl.out (by have h_:=K64.out;omega) HE.out HK.out
   subst t
   subst cs
   exact ⟨_,_,rfl,StR.widen F169.out (by show w.heap.size≤lo_;have z0_:=Z61.out;have z1_:=T166.out;omega) (by show hi_≤W159.heap.size;have z0_:=Z61.out;have z1_:=T166.out;omega),RowN.toR F171.out (by show w.heap.size≤W18.heap.size;have z0_:=Z61.out;have z1_:=T166.out;omega) (by show b_<W159.heap.size;have z0_:=Z61.out;have z1_:=T166.out;omega),HB164.out⟩
theorem spec_StoreAll_c {w:World} {v z:Value} {s t:St} {l:List SQ} {cs:List Int} (hv:StC w v s) (hz:Sized s) (hs:Small s) (hl:ReqC w z l) (hq:∀ x ∈ l,x.f5.size≤9223372036854775807) (hn:l.length≤1000000) (he:storeAll s (l.map rq)=(t,cs)) :
  Calls Try.prog 17 #[v,z] w fun e w'=>∃ u z,e = .returned (.tuple #[u,z])∧StR w' w.heap.size w'.heap.size u t∧NumR w' w.heap.size w'.heap.size z cs∧Below w.heap.size w w':=by
 obtain ⟨A,c,rfl,_⟩:=id hl
 by_cases hk:stOk s=true
 ·exact spec_StoreAll_pT hv hz hs hl hq hn he hk
 ·exact spec_StoreAll_p0 hv hz hs hl hq hn he (by simpa using hk)
theorem impl_StoreAll_c {w:World} {v z:Value} {s t:St} {l:List SQ} {cs:List Int} (hv:StC w v s) (hz:Sized s) (hs:Small s) (hl:ReqC w z l) (hq:∀ x ∈ l,x.f5.size≤9223372036854775807) (hn:l.length≤1000000) (he:storeAll s (l.map rq)=(t,cs)) :
  Calls Try.prog 16 #[v,z] w fun e w'=>∃ u z,e = .returned (.tuple #[u,z])∧StR w' w.heap.size w'.heap.size u t∧NumR w' w.heap.size w'.heap.size z cs∧Below w.heap.size w w':=by
 obtain ⟨A,c,rfl,_⟩:=id hl
 by_cases hk:stOk s=true
 ·exact impl_StoreAll_pT hv hz hs hl hq hn he hk
 ·exact impl_StoreAll_p0 hv hz hs hl hq hn he (by simpa using hk)
theorem DrawStoreAll_c {w:World} {A:Option Addr} {c:Nat} {l:List Int} (hl:Kd.C (Kd.int .u8) w A l.length l) (hc:l.length≤c) (hb:∀ x ∈ l,0≤x∧x≤255) :
  Calls Try.prog 15 #[.slice A l.length c] w fun e w'=>∃ u t z,∃ q:List SQ,e = .returned (.tuple #[u,z])∧StI w' w.heap.size w'.heap.size u t∧Small t∧Sized t∧ReqC w' z q∧q.length≤8∧(∀ x ∈ q,x.f5.size≤9223372036854775807)∧Below w.heap.size w w':=by
 have HL:=Ak hl
 have HLC:=Ak hc
 have HLB:=Ak hb
 have HT0:=Ak (Nat.le_refl w.heap.size)
 clear hl hc hb
 have hu26:=Try.underlying26
 go_enter Try.func15,Try.ntmps15
 go_wp2_with (first|((with_reducible refine gate_dst (N:=2) rfl ?_);refine ev_box ?hg (N:=2) ?hd (cs:=#[.slice none 0 0,.slice none 0 0,.slice none 0 0,.slice none 0 0,.slice none 0 0]) (t:=26) ?hr ?_;(case hd=>rfl);(case hg=>rfl);(case hr=>first|(go_simp;done)|(go_simp;rfl));intro g2 W1 HG4 BK2 HB3))
 have HBR:=Ak (HB3.out)
 have z0_:=HT0.out
 have z1_:=HB3.out.size
 have z2_:=HG4.out
 have z3_:=BK2.out.lt
 have C5:=Ak (show w.heap.size≤g2∧g2≤g2 + 1 from (by omega))
 have T6:=Ak (show g2 + 1≤W1.heap.size from (by omega))
 clear z0_ z1_ z2_ z3_
 have F7:=Ak (BK2.out)
 have Z8:=Ak (And.intro C5.out HBR.out.size)
 refine (open_c (Kd.C_below HL.out HBR.out) HLC.out HLB.out).mono ?_
 rintro e W11 ⟨g,rfl,hR9,hge10,hb12⟩
 have HB13:=Ak hb12
 clear hb12
 have HRD:=Ak hR9
 have HGE:=Ak hge10
 clear hR9 hge10
 go_wp2_with (fail)
 refine (l5Some_c (m:=0 + 999648) HB13.out HRD.out).mono ?_
 rintro e W24 ⟨u14,t15,rfl,hr16,hs17,hz18,hR19,hb25,hk20⟩
 have z0_:=Z8.out
 have z1_:=T6.out
 have z2_:=HB13.out.size
 have z3_:=HGE.out
 have z4_:=HRD.out.lt
 have C27:=Ak (show g2 + 1≤g∧g≤g + 1 from (by omega))
 have T28:=Ak (show g + 1≤W11.heap.size from (by omega))
 have N29:=Ak (show ¬ (g≤g2∧g2<g + 1) from (by omega))
 have HB30:=Ak (hb25)
 have HK31:=Ak (hk20)
 have T32:=Ak (Nat.le_trans T28.out HK31.out.1)
 have F33:=Ak (Bk.kept (Bk.below F7.out HB13.out) HK31.out N29.out)
 have F34:=Ak (hR19)
 clear z0_ z1_ z2_ z3_ z4_ hb25 hk20 hR19
 have Z35:=Ak (And.intro Z8.out (And.intro HGE.out C27.out))
 have HRs21:=Ak hr16
 have HS22:=Ak hs17
 have HZ23:=Ak hz18
 obtain ⟨as21_0,ds21_0,as21_1,ds21_1,as21_2,ds21_2,as21_3,ds21_3,as21_4,ds21_4,rfl,_⟩:=hr16.toC
 clear hr16 hs17 hz18
 have C36:=Ak (show g + 1≤W11.heap.size∧W11.heap.size≤W24.heap.size from ⟨T28.out,HK31.out.1⟩)
 have T37:=Ak (Nat.le_refl (W24.heap.size))
 have Z38:=Ak (And.intro Z35.out C36.out)
 go_wp2_with (fail)
 refine (l5Bent_c (m:=0 + 999646) HB30.out F34.out HRs21.out (by show g<W11.heap.size∨W24.heap.size≤g;have z0_:=Z38.out;have z1_:=T37.out;omega) (by show W24.heap.size≤W24.heap.size;have z0_:=Z38.out;have z1_:=T37.out;omega) HS22.out HZ23.out).mono ?_
 rintro e W49 ⟨u39,t40,rfl,hr41,hs42,hz43,hR44,hb50,hk45⟩
 have z0_:=Z38.out
 have z1_:=T37.out
 have T52:=Ak (show W24.heap.size≤W24.heap.size from (by omega))
 have N53:=Ak (show ∀ k_,(g≤k_∧k_<g + 1)→k_<W11.heap.size∨W24.heap.size≤k_ from (by intro k_ h_;omega))
 have HB54:=Ak (hb50)
 have HK55:=Ak (hk45)
 have T56:=Ak (Nat.le_trans T52.out HK55.out.1)
 have F57:=Ak (Bk.kept F33.out HK55.out N29.out)
 have F58:=Ak (StI.kept HRs21.out HK55.out N53.out)
 have F59:=Ak (hR44)
 clear z0_ z1_ hb50 hk45 hR44
 have HRs46:=Ak hr41
 have HS47:=Ak hs42
 have HZ48:=Ak hz43
 obtain ⟨as46_0,ds46_0,as46_1,ds46_1,as46_2,ds46_2,as46_3,ds46_3,as46_4,ds46_4,rfl,_⟩:=hr41.toC
 clear hr41 hs42 hz43
 have C60:=Ak (show W24.heap.size≤W24.heap.size∧W24.heap.size≤W49.heap.size from ⟨T52.out,HK55.out.1⟩)
 have T61:=Ak (Nat.le_refl (W49.heap.size))
 have Z62:=Ak (And.intro Z38.out C60.out)
 go_wp2_with (first|((with_reducible refine gate_dst (N:=5) rfl ?_);refine ev_box ?hg (N:=5) ?hd (cs:=#[.slice none 0 0,.slice none 0 0,.slice none 0 0,.slice none 0 0,.slice none 0 0]) (t:=26) ?hr ?_;(case hd=>rfl);(case hg=>rfl);(case hr=>first|(go_simp;done)|(go_simp;rfl));intro g5 W63 HG66 BK64 HB65)|((with_reducible refine gate_store (t:=26) (p:=5) rfl ?_);refine ev_put (by rfl) rfl rfl (g:=g5) rfl (cs:=#[.slice as46_0 t40.now.length ds46_0,.slice as46_1 t40.sure.length ds46_1,.slice as46_2 t40.last.length ds46_2,.slice as46_3 t40.slast.length ds46_3,.slice as46_4 t40.floors.length ds46_4]) rfl BK64.out (by kernel_rfl) rfl rfl ?_;intro W67 BK68 HB69 HK70;have z0_:=Z62.out;have z1_:=T61.out;have z2_:=HB65.out.size;have z3_:=HG66.out;have z4_:=BK64.out.lt;have C71:=Ak (show W49.heap.size≤g5∧g5≤g5 + 1 from (by omega));have T72:=Ak (show g5 + 1≤W63.heap.size from (by omega));have HB73:=Ak (below_at (below_step HB54.out HB65.out) HB69.out (by show W1.heap.size≤g5;omega));have HK74:=Ak (HK70.out);have T75:=Ak (Nat.le_trans T72.out HK74.out.1);have F76:=Ak (Bk.kept (Bk.below F57.out HB65.out) HK74.out (fun h_=>(by obtain ⟨h1_,h2_⟩:=h_;omega)));have F77:=Ak (StI.kept (StI.below F58.out HB65.out) HK74.out (fun k_ h_=>(by obtain ⟨h1_,h2_⟩:=h_;omega)));have F78:=Ak (StI.kept (StI.below HRs46.out HB65.out) HK74.out (fun k_ h_=>(by obtain ⟨h1_,h2_⟩:=h_;omega)));have F79:=Ak (BK68.out);have F80:=Ak (Rd.kept (Rd.below F59.out HB65.out) HK74.out (fun h_=>(by obtain ⟨h1_,h2_⟩:=h_;omega)));clear z0_ z1_ z2_ z3_ z4_;have Z81:=Ak (And.intro Z62.out C71.out)))
 refine start_ (n:=6) (S:=fun w'=>Bk w' g5 #[.slice as46_0 t40.now.length ds46_0,.slice as46_1 t40.sure.length ds46_1,.slice as46_2 t40.last.length ds46_2,.slice as46_3 t40.slast.length ds46_3,.slice as46_4 t40.floors.length ds46_4] 26) (ds:=[]) #[false,false,false,false,false,false] (by kernel_rfl) rfl rfl (show Bk W67 g5 #[.slice as46_0 t40.now.length ds46_0,.slice as46_1 t40.sure.length ds46_1,.slice as46_2 t40.last.length ds46_2,.slice as46_3 t40.slast.length ds46_3,.slice as46_4 t40.floors.length ds46_4] 26 from F79.out) (fun hHeld=>?_)
 clear hHeld
 refine world_at (w:=W67) (below_drew0 _) (fun W82 HB83=>?_)
 refine take_ (i:=0) (N:=some 12) (v:=.agg #[.slice as46_0 t40.now.length ds46_0,.slice as46_1 t40.sure.length ds46_1,.slice as46_2 t40.last.length ds46_2,.slice as46_3 t40.slast.length ds46_3,.slice as46_4 t40.floors.length ds46_4]) (a':=?_) #[T0,F0,F0,F0,F0,F0] rfl rfl (by kernel_rfl) (fun _ _ _ h=>h) (Or.inl ⟨by rfl,?_⟩) (Bk.below F79.out HB83.out) ?_ ?_
 ·rintro w' s0_
  exact run_load_ev rfl rfl s0_ hu26 rfl (by kernel_rfl)
 rotate_left
 ·simp only [Act.put,zzA,zzB,zzC,i64_w,i32_w]
  rfl
 refine pure_ (i:=1) (N:=some 13) (v:=?_) (a':=?_) #[T0,T0,F0,F0,F0,F0] rfl rfl (by kernel_rfl) (fun _ _ _ h=>h) (Or.inl ⟨by rfl,?_⟩) ?_ ?_
 rotate_left
 ·intro w'
  go_simp
  with_reducible rfl
 rotate_left
 ·simp only [Act.put,zzA,zzB,zzC,i64_w,i32_w]
  rfl
 refine take_ (i:=2) (N:=some 14) (v:=.agg #[.slice as46_0 t40.now.length ds46_0,.slice as46_1 t40.sure.length ds46_1,.slice as46_2 t40.last.length ds46_2,.slice as46_3 t40.slast.length ds46_3,.slice as46_4 t40.floors.length ds46_4]) (a':=?_) #[T0,T0,T0,F0,F0,F0] rfl rfl (by kernel_rfl) (fun _ _ _ h=>h) (Or.inl ⟨by rfl,?_⟩) (Bk.below F79.out HB83.out) ?_ ?_
 ·rintro w' s0_
  exact run_load_ev rfl rfl s0_ hu26 rfl (by kernel_rfl)
 rotate_left
 ·simp only [Act.put,zzA,zzB,zzC,i64_w,i32_w]
  rfl
 refine one_ (i:=3) (N:=some 15) #[T0,T0,T0,T0,F0,F0] rfl rfl (by kernel_rfl) (by decide) (fun K hK=>?_)
 refine goes_ Try.func48 (by kernel_rfl) rfl #[.pointer (some ⟨g,0,none⟩),.agg #[.slice as46_0 t40.now.length ds46_0,.slice as46_1 t40.sure.length ds46_1,.slice as46_2 t40.last.length ds46_2,.slice as46_3 t40.slast.length ds46_3,.slice as46_4 t40.floors.length ds46_4]] (by rfl) rfl rfl (by (try simp only [List.map_toArray,List.map_cons,List.map_nil]);first|done|rfl) ?_
 refine (l5List_c (m:=0 + 999445) (below_step HB73.out HB83.out) (Rd.below F80.out HB83.out) (StI.below F78.out HB83.out) (by show g<W24.heap.size∨W49.heap.size≤g;have z0_:=Z81.out;have z1_:=T75.out;have z2_:=HB83.out.size;omega) (by show W49.heap.size≤W82.heap.size;have z0_:=Z81.out;have z1_:=T75.out;have z2_:=HB83.out.size;omega) HS47.out HZ48.out).mono ?_
 rintro e W102 ⟨⟨v84,lo85,l86,b87,rfl,hr88,h89,h90,h91,h92⟩,hR93,hb103,hk94⟩
 have z0_:=Z81.out
 have z1_:=T75.out
 have z2_:=HB83.out.size
 have T105:=Ak (show g5 + 1≤W82.heap.size from (by omega))
 have N106:=Ak (show ∀ k_,(g≤k_∧k_<g + 1)→k_<W24.heap.size∨W49.heap.size≤k_ from (by intro k_ h_;omega))
 have N107:=Ak (show ¬ (g≤g5∧g5<g + 1) from (by omega))
 have HB108:=Ak (hb103)
 have HK109:=Ak (hk94)
 have T110:=Ak (Nat.le_trans T105.out HK109.out.1)
 have F111:=Ak (Bk.kept (Bk.below F76.out HB83.out) HK109.out N29.out)
 have F112:=Ak (StI.kept (StI.below F77.out HB83.out) HK109.out N53.out)
 have F113:=Ak (StI.kept (StI.below F78.out HB83.out) HK109.out N106.out)
 have F114:=Ak (Bk.kept (Bk.below F79.out HB83.out) HK109.out N107.out)
 have F115:=Ak (hR93)
 clear z0_ z1_ z2_ hb103 hk94 hR93
 obtain ⟨A96,c97,rfl,_⟩:=hr88.slice
 have HRW95:=Ak hr88
 clear hr88
 have HP98:=Ak h89
 clear h89
 have HP99:=Ak h90
 clear h90
 have HP100:=Ak h91
 clear h91
 have HP101:=Ak h92
 clear h92
 have C116:=Ak (show g5 + 1≤W82.heap.size∧W82.heap.size≤W102.heap.size from ⟨T105.out,HK109.out.1⟩)
 have T117:=Ak (Nat.le_refl (W102.heap.size))
 have Z118:=Ak (And.intro Z81.out (And.intro HP98.out (And.intro HRW95.out.ge (And.intro HP99.out C116.out))))
 refine ⟨_,rfl,?_⟩
 refine hK.out _ _ F114.out (fun hHeld=>?_)
 clear hHeld hK K
 refine norm_ (a':=?_) ?_ ?_
 rotate_left
 ·show Act.put _ (some 15) _=_
  simp only [Act.put,zzA,zzB,zzC,i64_w,i32_w]
  rfl
 refine one_ (i:=4) (N:=none) #[T0,T0,T0,T0,T0,F0] rfl rfl (by kernel_rfl) (by decide) (fun K hK=>?_)
 refine wp_storeRow_step (by rfl) rfl rfl (g:=g2) (cs:=#[.slice as46_0 t40.now.length ds46_0,.slice as46_1 t40.sure.length ds46_1,.slice as46_2 t40.last.length ds46_2,.slice as46_3 t40.slast.length ds46_3,.slice as46_4 t40.floors.length ds46_4]) rfl rfl F111.out (by kernel_rfl) rfl rfl ?_
 intro W119 hbk120 hg121
 have z0_:=Z118.out
 have z1_:=T117.out
 have T122:=Ak (show W102.heap.size≤W102.heap.size from (by omega))
 have HB123:=Ak (below_at (below_step HBR.out HB108.out) hg121.1 (by show w.heap.size≤g2;omega))
 have HK124:=Ak (kept_row hg121)
 have T125:=Ak (Nat.le_trans T122.out HK124.out.1)
 have F126:=Ak (hbk120)
 have F127:=Ak (StI.kept F112.out HK124.out (fun k_ h_=>(by obtain ⟨h1_,h2_⟩:=h_;omega)))
 have F128:=Ak (StI.kept F113.out HK124.out (fun k_ h_=>(by obtain ⟨h1_,h2_⟩:=h_;omega)))
 have F129:=Ak (Bk.kept F114.out HK124.out (fun h_=>(by obtain ⟨h1_,h2_⟩:=h_;omega)))
 have F130:=Ak (RowB.kept HRW95.out HK124.out (fun h_=>(by obtain ⟨h1_,h2_⟩:=h_;omega)))
 have F131:=Ak (Rd.kept F115.out HK124.out (fun h_=>(by obtain ⟨h1_,h2_⟩:=h_;omega)))
 clear z0_ z1_ hbk120 hg121
 refine hK.out _ _ F129.out (fun hHeld=>?_)
 clear hHeld hK K
 refine norm_ (a':=?_) ?_ ?_
 rotate_left
 ·show Act.put _ none _=_
  simp only [Act.put,zzA,zzB,zzC,i64_w,i32_w]
  rfl
 refine pure_ (i:=5) (N:=some 3) (v:=?_) (a':=?_) #[T0,T0,T0,T0,T0,T0] rfl rfl (by kernel_rfl) (fun _ _ _ h=>h) (Or.inl ⟨by rfl,?_⟩) ?_ ?_
 rotate_left
 ·intro w'
  go_simp
  with_reducible rfl
 rotate_left
 ·simp only [Act.put,zzA,zzB,zzC,i64_w,i32_w]
  rfl
 refine done_ (by kernel_rfl) ?_
 go_wp2_with (fail)
 try go_wp2
 refine bodyPost_ret (results_list (rs:=[.cell 2 26,.tmp 3]) rfl (by simp) (.cell g2 26 #[.slice as46_0 t40.now.length ds46_0,.slice as46_1 t40.sure.length ds46_1,.slice as46_2 t40.last.length ds46_2,.slice as46_3 t40.slast.length ds46_3,.slice as46_4 t40.floors.length ds46_4] (0,0) _ rfl F126.out hu26 rfl (by kernel_rfl) (.tmp .nil))) rfl ?_
 have HWI:=StI.widen F128.out (lo':=w.heap.size) (hi':=W119.heap.size) (by have z0_:=Z118.out;have z1_:=T125.out;omega) (by have z0_:=Z118.out;have z1_:=T125.out;omega);exact ⟨_,_,_,_,rfl,HWI,HS47.out,HZ48.out,RowB.toQ F130.out,HP100.out,HP101.out,HB123.out⟩
end Go.Proofs.Ytmekkapacbdbeaa.P
namespace Go.Proofs.Ytmekkapacbdbeaa.P
open Go.RowKit Go.Proofs.YtmekkapacbdbeaaW.PrintWords Go.Proofs.YtmekkapacbdbeaaW.PrintLast Go.Proofs.YtmekkapacbdbeaaW.PrintMore
attribute [local go_sem] max2_int min2_int max_two min_two max_three min_three max_four min_four 

end Go.Proofs.Ytmekkapacbdbeaa.P
namespace Go.Proofs.Ytmekkapacbdbeaa.P
open Go.RowKit Go.Proofs.YtmekkapacbdbeaaW.PrintWords
def stEq (s t:St):Bool:=decide (s=t)
end Go.Proofs.Ytmekkapacbdbeaa.P
namespace Go.Proofs.Ytmekkapacbdbeaa.P
open Go.RowKit Go.Proofs.YtmekkapacbdbeaaW.PrintWords Go.Proofs.YtmekkapacbdbeaaW.PrintLast Go.Proofs.YtmekkapacbdbeaaW.PrintMore
attribute [local go_sem] max2_int min2_int max_two min_two max_three min_three max_four min_four 





end Go.Proofs.Ytmekkapacbdbeaa.P
namespace Go.Proofs.Ytmekkapacbdbeaa.P
open Go.RowKit Go.Proofs.YtmekkapacbdbeaaW.PrintWords Go.Proofs.YtmekkapacbdbeaaW.PrintLast Go.Proofs.YtmekkapacbdbeaaW.PrintMore
end Go.Proofs.Ytmekkapacbdbeaa.P
namespace Go.Proofs.Ytmekkapacbdbeaa.P
open Go.RowKit Go.Proofs.YtmekkapacbdbeaaW.PrintWords
theorem stEq_self (s:St):stEq s s=true:=by unfold stEq;exact decide_eq_true rfl
section
variable {s t u:St}
theorem fall_eq (hk:stOk s=true):fallSt s=⟨s.sure,s.sure,s.slast,s.slast,s.floors⟩:=by unfold fallSt;rw [if_pos hk]
theorem sync_eq (hk:stOk s=true):syncSt s=⟨s.now,s.now,s.last,s.last,s.floors⟩:=by unfold syncSt;rw [if_pos hk]
theorem ok_sync (h:syncSt s=t) (hk:stOk s=true):stOk t=true:=by
 rw [← h,sync_eq hk]
 obtain ⟨⟨l0,l1,l2,l3,l4⟩,g0,g1,g2⟩:=stOk_iff.1 hk
 exact stOk_iff.2 ⟨⟨l0,l0,l2,l2,l4⟩,g0,g0,fun j hj=>by
  have:=g2 j hj
  show 0≤s.last.getD j 0∧s.last.getD j 0≤s.last.getD j 0∧s.last.getD j 0≤1000∧0≤s.floors.getD j 0∧s.floors.getD j 0≤100
  omega⟩
theorem fall_sync (h:syncSt s=t) (hk:stOk s=true):fallSt t=t:=by
 have hk':=ok_sync h hk
 rw [fall_eq hk',← h,sync_eq hk]
end
end Go.Proofs.Ytmekkapacbdbeaa.P
namespace Go.Proofs.Ytmekkapacbdbeaa.P
open Go.RowKit Go.Proofs.YtmekkapacbdbeaaW.PrintWords Go.Proofs.YtmekkapacbdbeaaW.PrintLast Go.Proofs.YtmekkapacbdbeaaW.PrintMore
attribute [local go_sem] max2_int min2_int max_two min_two max_three min_three max_four min_four 
def laws_wpNums.l0:Nat→List Int→List Int→Int→Option (Bool)
 | 0,_,_,_=>none
 | k + 1,x0,x1,x5=>if x5<(x0.length:Int) then (if 0≤x5 then (if x5<(x1.length:Int) then (if (rd x0 x5)=(rd x1 x5) then (laws_wpNums.l0 k x0 x1 (wrap64 (x5 + 1))) else (some false)) else (none)) else (none)) else (some true)
def laws_wpNums.f (k:Nat) (l0:List Int) (l1:List Int):Option (Bool):=if (l0.length:Int)=(l1.length:Int) then (laws_wpNums.l0 k l0 l1 0) else (some false)
theorem laws_wpNums.calls (k:Nat) (A0:Option Addr) (c0:Nat) (l0:List Int) (A1:Option Addr) (c1:Nat) (l1:List Int) (r:Bool) (w:World) (hr0:Kd.C (Kd.int .i64) w A0 l0.length l0) (hc0:l0.length≤c0) (hr1:Kd.C (Kd.int .i64) w A1 l1.length l1) (hc1:l1.length≤c1) (h:laws_wpNums.f k l0 l1=some r) :
  Calls Try.prog 18 #[.slice A0 l0.length c0,.slice A1 l1.length c1] w fun e w'=>e = .returned (.bool r)∧Drawn0 w w':=by
 have HR0:=Ak hr0
 have HC0:=Ak hc0
 clear hr0 hc0
 have HR1:=Ak hr1
 have HC1:=Ak hc1
 clear hr1 hc1
 have H:(if (l0.length:Int)=(l1.length:Int) then (laws_wpNums.l0 k l0 l1 0) else (some false))=some r:=h
 clear h
 by_cases c3:(l0.length:Int)=(l1.length:Int)
 ·rw [if_pos c3] at H
  have c3b0:((l0.length:Int) == (l1.length:Int))=true:=beq_iff_eq.mpr c3
  have c3b1:((l0.length:Int) != (l1.length:Int))=false:=bne_eq_false_iff_eq.mpr c3
  have c3b2:(l0.length == l1.length)=true:=by first|simpa using c3|(simp at c3 ⊢;omega)
  clear c3
  have H':=Ak H
  clear H
  go_enter Try.func18,Try.ntmps18
  go_wp2
  repeat (go_quiet (fail);try go_wp2)
  go_loopg [5] k (fun kq v5 w'=>∃ (x5_1:Int),v5 = .int .i64 x5_1∧Aside0 (laws_wpNums.l0 kq l0 l1 x5_1=some r)∧Aside0 (kq≤k)∧Drawn0 w w')
  case atStart=>exact ⟨(0),(by first|rfl|(simp;done)|(simp [*];done)),H',⟨Nat.le_refl _⟩,by repeat (first|exact Drawn0.refl _|apply Drawn0.step)⟩
  case round =>
   clear H'
   try clear c1
   try clear p2
   try clear c3
   try clear c3b0
   try clear c3b1
   try clear c3b2
   obtain ⟨x5_1,rfl,HA,HK1,⟨m1,rfl⟩⟩:=hrel
   cases gk with
   | zero=>exact absurd HA.out (by simp [laws_wpNums.l0])
   | succ k1 =>
    have H:=HA.out
    clear HA
    simp only [laws_wpNums.l0] at H
    by_cases c4:x5_1<(l0.length:Int)
    ·rw [if_pos c4] at H
     have c4b0:decide (x5_1<(l0.length:Int))=true:=decide_eq_true c4
     clear c4
     by_cases c5:0≤x5_1
     ·rw [if_pos c5] at H
      have c5b0:decide (0≤x5_1)=true:=decide_eq_true c5
      clear c5
      by_cases c6:x5_1<(l1.length:Int)
      ·rw [if_pos c6] at H
       have c6b0:decide (x5_1<(l1.length:Int))=true:=decide_eq_true c6
       clear c6
       by_cases c7:(rd l0 x5_1)=(rd l1 x5_1)
       ·rw [if_pos c7] at H
        have c7b0:((rd l0 x5_1) == (rd l1 x5_1))=true:=beq_iff_eq.mpr c7
        have c7b1:((rd l0 x5_1) != (rd l1 x5_1))=false:=bne_eq_false_iff_eq.mpr c7
        clear c7
        have H':=Ak H
        clear H
        have p744:0≤(x5_1:Int):=of_decide_eq_true (by first|(with_reducible assumption)|assumption)
        have q744:x5_1<(l0.length:Int):=of_decide_eq_true (by first|(with_reducible assumption)|assumption)
        obtain ⟨ad744,e744,hx744_0⟩:=Kd.at_int HR0.out x5_1 p744 q744
        cases e744
        replace p744:=eq_true p744
        replace q744:=eq_true q744
        have p745:0≤(x5_1:Int):=of_decide_eq_true (by first|(with_reducible assumption)|assumption)
        have q745:x5_1<(l1.length:Int):=of_decide_eq_true (by first|(with_reducible assumption)|assumption)
        obtain ⟨ad745,e745,hx745_0⟩:=Kd.at_int HR1.out x5_1 p745 q745
        cases e745
        replace p745:=eq_true p745
        replace q745:=eq_true q745
        go_wp2
        repeat (go_quiet (fail);try go_wp2)
        go_roundg k1
        case measure=>have:=HK1.out;omega
        case rel=>exact ⟨(wrap64 (x5_1 + 1)),(by first|rfl|(simp;done)|(simp [*];done)),H',⟨by have:=HK1.out;omega⟩,by repeat (first|exact Drawn0.refl _|apply Drawn0.step)⟩
       ·rw [if_neg c7] at H
        have c7b0:((rd l0 x5_1) == (rd l1 x5_1))=false:=beq_eq_false_iff_ne.mpr c7
        have c7b1:((rd l0 x5_1) != (rd l1 x5_1))=true:=bne_iff_ne.mpr c7
        obtain rfl:=Option.some.inj H
        have p744:0≤(x5_1:Int):=of_decide_eq_true (by first|(with_reducible assumption)|assumption)
        have q744:x5_1<(l0.length:Int):=of_decide_eq_true (by first|(with_reducible assumption)|assumption)
        obtain ⟨ad744,e744,hx744_0⟩:=Kd.at_int HR0.out x5_1 p744 q744
        cases e744
        replace p744:=eq_true p744
        replace q744:=eq_true q744
        have p745:0≤(x5_1:Int):=of_decide_eq_true (by first|(with_reducible assumption)|assumption)
        have q745:x5_1<(l1.length:Int):=of_decide_eq_true (by first|(with_reducible assumption)|assumption)
        obtain ⟨ad745,e745,hx745_0⟩:=Kd.at_int HR1.out x5_1 p745 q745
        cases e745
        replace p745:=eq_true p745
        replace q745:=eq_true q745
        go_wp2
        repeat (go_quiet (fail);try go_wp2)
        go_ret
        exact ⟨by first|rfl|(simp;done)|(simp [*];done),by repeat (first|exact Drawn0.refl _|apply Drawn0.step)⟩
      ·rw [if_neg c6] at H
       exact absurd H (by simp)
     ·rw [if_neg c5] at H
      exact absurd H (by simp)
    ·rw [if_neg c4] at H
     have c4b0:decide (x5_1<(l0.length:Int))=false:=decide_eq_false c4
     clear c4
     obtain rfl:=Option.some.inj H
     go_wp2
     repeat (go_quiet (fail);try go_wp2)
     go_ret
     exact ⟨by first|rfl|(simp;done)|(simp [*];done),by repeat (first|exact Drawn0.refl _|apply Drawn0.step)⟩
 ·rw [if_neg c3] at H
  have c3b0:((l0.length:Int) == (l1.length:Int))=false:=beq_eq_false_iff_ne.mpr c3
  have c3b1:((l0.length:Int) != (l1.length:Int))=true:=bne_iff_ne.mpr c3
  have c3b2:(l0.length == l1.length)=false:=by first|simpa using c3|(simp at c3 ⊢;omega)
  obtain rfl:=Option.some.inj H
  go_enter Try.func18,Try.ntmps18
  go_wp2
  repeat (go_quiet (fail);try go_wp2)
  go_ret
  exact ⟨by first|rfl|(simp;done)|(simp [*];done),by repeat (first|exact Drawn0.refl _|apply Drawn0.step)⟩

end Go.Proofs.Ytmekkapacbdbeaa.P
namespace Go.Proofs.Ytmekkapacbdbeaa.P
open Go.RowKit Go.Proofs.YtmekkapacbdbeaaW.PrintWords
theorem laws_wpNums_ev {a b:List Int} (ha:a.length≤9223372036854775807):Ev (fun k=>laws_wpNums.f k a b) (decide (a=b)):=by
 by_cases hl:(a.length:Int)=(b.length:Int)
 ·have hl':a.length=b.length:=by omega
  refine Ev.congr (f:=fun k=>laws_wpNums.l0 k a b 0) (fun k=>by unfold laws_wpNums.f;rw [if_pos hl]) ?_
  have h:=loop_all (n:=a.length) (G:=fun k i=>laws_wpNums.l0 k a b (i:Int)) (E:=fun j=>decide (a[j]?=b[j]?)) (z:=true) (fun k i hi=>by
   show laws_wpNums.l0 (k + 1) a b (i:Int)=_
   rw [laws_wpNums.l0,if_pos (by omega),if_pos (by omega),if_pos (by omega),rd_nat hi,rd_nat (l:=b) (by omega),w64s hi ha]
   simp [List.getElem?_eq_getElem hi,List.getElem?_eq_getElem (l:=b) (i:=i) (by omega)]) (fun k=>by
   show laws_wpNums.l0 (k + 1) a b (a.length:Int)=_
   rw [laws_wpNums.l0,if_neg (by omega)]) a.length 0 (by omega)
  rw [all_eq hl',Bool.and_true] at h
  exact h
 ·refine Ev.congr (f:=fun _=>some false) (fun k=>by unfold laws_wpNums.f;rw [if_neg hl]) ?_
  rw [decide_eq_false (fun h=>hl (by rw [h]))]
  exact Ev.now _
end Go.Proofs.Ytmekkapacbdbeaa.P
namespace Go.Proofs.Ytmekkapacbdbeaa.P
open Go.RowKit Go.Proofs.YtmekkapacbdbeaaW.PrintWords Go.Proofs.YtmekkapacbdbeaaW.PrintLast Go.Proofs.YtmekkapacbdbeaaW.PrintMore
section
variable {w:World} {A B:Option Addr} {n m c d:Nat} {a b:List Int} {x y:List ByteArray} {q:Bool}
def IsC (w:World) (A:Option Addr) (n c:Nat) (a:List Int):Prop:=n=a.length∧Kd.C (Kd.int .i64) w A a.length a∧a.length≤c
def IsS (w:World) (A:Option Addr) (n c:Nat) (a:List ByteArray):Prop:=n=a.length∧Kd.C Kd.string w A a.length a∧a.length≤c
theorem wpNums_c (ha:IsC w A n c a) (hb:IsC w B m d b) (hq:decide (a=b)=q) :
  Calls Try.prog 18 #[.slice A n c,.slice B m d] w fun e w'=>e = .returned (.bool q)∧Below w.heap.size w w':=by
 obtain ⟨rfl,a1,a2⟩:=ha
 obtain ⟨rfl,b1,b2⟩:=hb
 obtain ⟨k,hk⟩:=(laws_wpNums_ev (a:=a) (b:=b) (Kd.C_max a1)).rounds
 rw [hq] at hk
 exact (laws_wpNums.calls k A c a B d b q w a1 a2 b1 b2 hk).mono fun _ _ ⟨e,h⟩=>⟨e,h.below⟩
theorem eqS_c (ha:IsS w A n c x) (hb:IsS w B m d x) :
  Calls Try.prog 55 #[.slice A n c,.slice B m d] w fun e w'=>e = .returned (.bool true)∧Below w.heap.size w w':=by
 obtain ⟨rfl,a1,a2⟩:=ha
 obtain ⟨rfl,b1,b2⟩:=hb
 obtain ⟨k,hk⟩:=(slices_Equal_string_string_ev (a:=x) (b:=x) (Kd.C_max a1)).rounds
 rw [decide_eq_true rfl] at hk
 exact (slices_Equal_string_string.calls k A c x B d x true w a1 a2 b1 b2 hk).mono fun _ _ ⟨e,h⟩=>⟨e,h.below⟩
theorem eqI_c (ha:IsC w A n c a) (hb:IsC w B m d a) :
  Calls Try.prog 56 #[.slice A n c,.slice B m d] w fun e w'=>e = .returned (.bool true)∧Below w.heap.size w w':=by
 obtain ⟨rfl,a1,a2⟩:=ha
 obtain ⟨rfl,b1,b2⟩:=hb
 obtain ⟨k,hk⟩:=(slices_Equal_int_int_ev (a:=a) (b:=a) (Kd.C_max a1)).rounds
 rw [decide_eq_true rfl] at hk
 exact (slices_Equal_int_int.calls k A c a B d a true w a1 a2 b1 b2 hk).mono fun _ _ ⟨e,h⟩=>⟨e,h.below⟩
end
section
variable {w:World} {A:Option Addr} {n c:Nat} {u0 u1 u2 u3 u4:Value} {s:St}
theorem StC.floors_row (h:StC w (.agg #[u0,u1,u2,u3,.slice A n c]) s):IsC w A n c s.floors:=by
 obtain ⟨A0,c0,A1,c1,A2,c2,A3,c3,A4,c4,he,g0,g1,g2,g3,g4⟩:=h
 injection he with he
 injection he with he
 injection he with e0 he
 injection he with e1 he
 injection he with e2 he
 injection he with e3 he
 injection he with e4 he
 injection e4 with f0 f1 f2
 subst f0 f1 f2
 exact ⟨rfl,g4⟩
theorem StC.last_row (h:StC w (.agg #[u0,u1,.slice A n c,u3,u4]) s):IsC w A n c s.last:=by
 obtain ⟨A0,c0,A1,c1,A2,c2,A3,c3,A4,c4,he,g0,g1,g2,g3,g4⟩:=h
 injection he with he
 injection he with he
 injection he with e0 he
 injection he with e1 he
 injection he with e2 he
 injection e2 with f0 f1 f2
 subst f0 f1 f2
 exact ⟨rfl,g2⟩
theorem StC.now_row (h:StC w (.agg #[.slice A n c,u1,u2,u3,u4]) s):IsS w A n c s.now:=by
 obtain ⟨A0,c0,A1,c1,A2,c2,A3,c3,A4,c4,he,g0,g1,g2,g3,g4⟩:=h
 injection he with he
 injection he with he
 injection he with e0 he
 injection e0 with f0 f1 f2
 subst f0 f1 f2
 exact ⟨rfl,g0⟩
theorem StC.sure_row (h:StC w (.agg #[u0,.slice A n c,u2,u3,u4]) s):IsS w A n c s.sure:=by
 obtain ⟨A0,c0,A1,c1,A2,c2,A3,c3,A4,c4,he,g0,g1,g2,g3,g4⟩:=h
 injection he with he
 injection he with he
 injection he with e0 he
 injection he with e1 he
 injection e1 with f0 f1 f2
 subst f0 f1 f2
 exact ⟨rfl,g1⟩
theorem StC.slast_row (h:StC w (.agg #[u0,u1,u2,.slice A n c,u4]) s):IsC w A n c s.slast:=by
 obtain ⟨A0,c0,A1,c1,A2,c2,A3,c3,A4,c4,he,g0,g1,g2,g3,g4⟩:=h
 injection he with he
 injection he with he
 injection he with e0 he
 injection he with e1 he
 injection he with e2 he
 injection he with e3 he
 injection e3 with f0 f1 f2
 subst f0 f1 f2
 exact ⟨rfl,g3⟩
theorem StC.now_form {x:Int} (h:StC w (.agg #[.slice A n c,u1,u2,u3,u4]) s) (h0:0≤x) (h1:x<s.now.length):∃ ad,A=some ad:=by
 obtain ⟨e,h2,_⟩:=h.now_row
 obtain ⟨ad,e,_⟩:=Kd.at_string h2 x h0 h1
 exact ⟨ad,e⟩
end
end Go.Proofs.Ytmekkapacbdbeaa.P
namespace Go.Proofs.Ytmekkapacbdbeaa.P
open Go.RowKit Go.Proofs.YtmekkapacbdbeaaW.PrintWords
theorem NumC.isC {w:World} {A:Option Addr} {n c:Nat} {xs:List Int} (h:NumC w (.slice A n c) xs):IsC w A n c xs:=by
 obtain ⟨A',c',e,h1,h2⟩:=h
 cases e
 exact ⟨rfl,h1,h2⟩
section
variable {s x:St} {l:List Rq} {cs:List Int}
theorem all_ok (h:storeAll s l=(x,cs)) (hk:stOk s=true):stOk x=true:=by
 unfold storeAll at h
 rw [if_pos hk] at h
 have:=allSt_ok (l:=l) hk
 rw [h] at this
 exact this
theorem doSt_sure {q:Rq}:(doSt s q).1.sure=s.sure∧(doSt s q).1.slast=s.slast∧(doSt s q).1.floors=s.floors:=by
 unfold doSt
 split
 ·split
  ·exact ⟨rfl,rfl,rfl⟩
  ·split
   ·exact ⟨rfl,rfl,rfl⟩
   ·split
    ·exact ⟨rfl,rfl,rfl⟩
    ·exact ⟨rfl,rfl,rfl⟩
 ·exact ⟨rfl,rfl,rfl⟩
theorem allSt_sure:∀ {s:St},(allSt s l).1.sure=s.sure∧(allSt s l).1.slast=s.slast∧(allSt s l).1.floors=s.floors:=by
 induction l with
 | nil=>intro s;rw [allSt];exact ⟨rfl,rfl,rfl⟩
 | cons q l ih =>
  intro s
  rw [allSt_cons]
  obtain ⟨a,b,c⟩:=ih (s:=(doSt s q).1)
  obtain ⟨d,e,f⟩:=doSt_sure (s:=s) (q:=q)
  exact ⟨a.trans d,b.trans e,c.trans f⟩
theorem allSt_of (h:storeAll s l=(x,cs)) (hk:stOk s=true):allSt s l=(x,cs):=by
 unfold storeAll at h
 rwa [if_pos hk] at h
theorem fall_all (h:storeAll s l=(x,cs)) (hk:stOk s=true):fallSt x=fallSt s:=by
 rw [fall_eq hk,fall_eq (all_ok h hk)]
 have:=allSt_sure (s:=s) (l:=l)
 rw [allSt_of h hk] at this
 obtain ⟨a,b,c⟩:=this
 rw [a,b,c]
theorem doSt_alike {s t:St} {q:Rq} (h0:s.now=t.now) (h1:s.last=t.last) (h2:s.floors=t.floors):(doSt s q).2=(doSt t q).2∧(doSt s q).1.now=(doSt t q).1.now∧(doSt s q).1.last=(doSt t q).1.last∧(doSt s q).1.floors=(doSt t q).1.floors:=by
 unfold doSt
 rw [h0,h1,h2]
 split
 ·split
  ·exact ⟨rfl,h0,h1,h2⟩
  ·split
   ·exact ⟨rfl,h0,h1,h2⟩
   ·split
    ·exact ⟨rfl,h0,h1,h2⟩
    ·exact ⟨rfl,rfl,rfl,rfl⟩
 ·exact ⟨rfl,h0,h1,h2⟩
theorem allSt_alike {l:List Rq}:∀ {s t:St},s.now=t.now→s.last=t.last→s.floors=t.floors→(allSt s l).2=(allSt t l).2:=by
 induction l with
 | nil=>intro s t h0 h1 h2;rw [allSt,allSt]
 | cons q l ih =>
  intro s t h0 h1 h2
  rw [allSt_cons,allSt_cons]
  obtain ⟨a,b,c,d⟩:=doSt_alike (q:=q) h0 h1 h2
  rw [a,ih b c d]
theorem codes_sync {y a:St} {ds:List Int} (h:storeAll s l=(x,cs)) (hy:syncSt s=y) (ha:storeAll y l=(a,ds)) (hk:stOk s=true):ds=cs:=by
 have h1:=allSt_of h hk
 have h2:=allSt_of ha (ok_sync hy hk)
 rw [sync_eq hk] at hy
 subst hy
 have:=allSt_alike (l:=l) (s:=s) (t:=⟨s.now,s.now,s.last,s.last,s.floors⟩) rfl rfl rfl
 rw [h1,h2] at this
 exact this.symm
end
end Go.Proofs.Ytmekkapacbdbeaa.P
namespace Go.Proofs.Ytmekkapacbdbeaa.P
open Go.RowKit Go.Proofs.YtmekkapacbdbeaaW.PrintWords Go.Proofs.YtmekkapacbdbeaaW.PrintLast Go.Proofs.YtmekkapacbdbeaaW.PrintMore
theorem impl_StoreSame_w {w:World} {v u:Value} {s t:St} (hv:StC w v s) (hu:StC w u t) (hq:stEq s t=true) :
  Calls Try.prog 22 #[v,u] w fun e w'=>e = .returned (.bool true)∧Below w.heap.size w w':=by
 have HT0:=Ak (Nat.le_refl w.heap.size)
 have hst:=of_decide_eq_true hq
 subst hst
 have HV0:=Ak hv
 have HV1:=Ak hu
 obtain ⟨A0_0,c0_0,A0_1,c0_1,A0_2,c0_2,A0_3,c0_3,A0_4,c0_4,rfl,_⟩:=hv
 obtain ⟨A1_0,c1_0,A1_1,c1_1,A1_2,c1_2,A1_3,c1_3,A1_4,c1_4,rfl,_⟩:=hu
 clear hq
 go_enter Try.func22,Try.ntmps22
 go_wp2_with (first|((with_reducible refine gate_dst (N:=2) rfl ?_);refine ev_box ?hg (N:=2) ?hd (cs:=#[.slice A0_0 s.now.length c0_0,.slice A0_1 s.sure.length c0_1,.slice A0_2 s.last.length c0_2,.slice A0_3 s.slast.length c0_3,.slice A0_4 s.floors.length c0_4]) (t:=26) ?hr ?_;(case hd=>rfl);(case hg=>rfl);(case hr=>first|(go_simp;done)|(go_simp;rfl));intro g2 W1 HG4 BK2 HB3)|((with_reducible refine gate_dst (N:=3) rfl ?_);refine ev_box ?hg (N:=3) ?hd (cs:=#[.slice A1_0 s.now.length c1_0,.slice A1_1 s.sure.length c1_1,.slice A1_2 s.last.length c1_2,.slice A1_3 s.slast.length c1_3,.slice A1_4 s.floors.length c1_4]) (t:=26) ?hr ?_;(case hd=>rfl);(case hg=>rfl);(case hr=>first|(go_simp;done)|(go_simp;rfl));intro g3 W5 HG8 BK6 HB7)|((with_reducible refine gate_dst (N:=6) rfl ?_);refine ev_val (by rfl) (v:=.slice A0_0 s.now.length c0_0) ?hr ?_;(case hr=>have hc_:W5.cell? ⟨g2,0,none⟩=some (.slice A0_0 s.now.length c0_0):=(Bk.cell (Bk.below BK2.out HB7.out) 0).trans rfl;first|(go_simp;done)|(go_simp;rfl)))|((with_reducible refine gate_dst (N:=8) rfl ?_);refine ev_val (by rfl) (v:=.slice A1_0 s.now.length c1_0) ?hr ?_;(case hr=>have hc_:W5.cell? ⟨g3,0,none⟩=some (.slice A1_0 s.now.length c1_0):=(Bk.cell BK6.out 0).trans rfl;first|(go_simp;done)|(go_simp;rfl))))
 refine (eqS_c (StC.now_row (StC.below HV0.out (below_step HB3.out HB7.out))) (StC.now_row (StC.below HV1.out (below_step HB3.out HB7.out)))).mono ?_
 rintro e W9 ⟨rfl,hb10⟩
 have HB11:=Ak hb10
 clear hb10
 go_wp2_with (first|((with_reducible refine gate_dst (N:=12) rfl ?_);refine ev_val (by rfl) (v:=.slice A0_1 s.sure.length c0_1) ?hr ?_;(case hr=>have hc_:W9.cell? ⟨g2,1,none⟩=some (.slice A0_1 s.sure.length c0_1):=(Bk.cell (Bk.below BK2.out (below_step HB7.out HB11.out)) 1).trans rfl;first|(go_simp;done)|(go_simp;rfl)))|((with_reducible refine gate_dst (N:=14) rfl ?_);refine ev_val (by rfl) (v:=.slice A1_1 s.sure.length c1_1) ?hr ?_;(case hr=>have hc_:W9.cell? ⟨g3,1,none⟩=some (.slice A1_1 s.sure.length c1_1):=(Bk.cell (Bk.below BK6.out HB11.out) 1).trans rfl;first|(go_simp;done)|(go_simp;rfl))))
 refine (eqS_c (StC.sure_row (StC.below HV0.out (below_step (below_step HB3.out HB7.out) HB11.out))) (StC.sure_row (StC.below HV1.out (below_step (below_step HB3.out HB7.out) HB11.out)))).mono ?_
 rintro e W12 ⟨rfl,hb13⟩
 have HB14:=Ak hb13
 clear hb13
 go_wp2_with (first|((with_reducible refine gate_dst (N:=19) rfl ?_);refine ev_val (by rfl) (v:=.slice A0_2 s.last.length c0_2) ?hr ?_;(case hr=>have hc_:W12.cell? ⟨g2,2,none⟩=some (.slice A0_2 s.last.length c0_2):=(Bk.cell (Bk.below BK2.out (below_step (below_step HB7.out HB11.out) HB14.out)) 2).trans rfl;first|(go_simp;done)|(go_simp;rfl)))|((with_reducible refine gate_dst (N:=21) rfl ?_);refine ev_val (by rfl) (v:=.slice A1_2 s.last.length c1_2) ?hr ?_;(case hr=>have hc_:W12.cell? ⟨g3,2,none⟩=some (.slice A1_2 s.last.length c1_2):=(Bk.cell (Bk.below BK6.out (below_step HB11.out HB14.out)) 2).trans rfl;first|(go_simp;done)|(go_simp;rfl))))
 refine (eqI_c (StC.last_row (StC.below HV0.out (below_step (below_step (below_step HB3.out HB7.out) HB11.out) HB14.out))) (StC.last_row (StC.below HV1.out (below_step (below_step (below_step HB3.out HB7.out) HB11.out) HB14.out)))).mono ?_
 rintro e W15 ⟨rfl,hb16⟩
 have HB17:=Ak hb16
 clear hb16
 go_wp2_with (first|((with_reducible refine gate_dst (N:=26) rfl ?_);refine ev_val (by rfl) (v:=.slice A0_3 s.slast.length c0_3) ?hr ?_;(case hr=>have hc_:W15.cell? ⟨g2,3,none⟩=some (.slice A0_3 s.slast.length c0_3):=(Bk.cell (Bk.below BK2.out (below_step (below_step (below_step HB7.out HB11.out) HB14.out) HB17.out)) 3).trans rfl;first|(go_simp;done)|(go_simp;rfl)))|((with_reducible refine gate_dst (N:=28) rfl ?_);refine ev_val (by rfl) (v:=.slice A1_3 s.slast.length c1_3) ?hr ?_;(case hr=>have hc_:W15.cell? ⟨g3,3,none⟩=some (.slice A1_3 s.slast.length c1_3):=(Bk.cell (Bk.below BK6.out (below_step (below_step HB11.out HB14.out) HB17.out)) 3).trans rfl;first|(go_simp;done)|(go_simp;rfl))))
 have E18:=Ak ((below_step (below_step (below_step (below_step HB3.out HB7.out) HB11.out) HB14.out) HB17.out))
 have F19:=Ak ((StC.below HV0.out (below_step (below_step (below_step (below_step HB3.out HB7.out) HB11.out) HB14.out) HB17.out)))
 have F20:=Ak ((StC.below HV1.out (below_step (below_step (below_step (below_step HB3.out HB7.out) HB11.out) HB14.out) HB17.out)))
 have F21:=Ak ((Bk.below BK2.out (below_step (below_step (below_step HB7.out HB11.out) HB14.out) HB17.out)))
 have F22:=Ak ((Bk.below BK6.out (below_step (below_step HB11.out HB14.out) HB17.out)))
 refine (eqI_c (StC.slast_row F19.out) (StC.slast_row F20.out)).mono ?_
 rintro e W23 ⟨rfl,hb24⟩
 have HB25:=Ak hb24
 clear hb24
 go_wp2_with (first|((with_reducible refine gate_dst (N:=33) rfl ?_);refine ev_val (by rfl) (v:=.slice A0_4 s.floors.length c0_4) ?hr ?_;(case hr=>have hc_:W23.cell? ⟨g2,4,none⟩=some (.slice A0_4 s.floors.length c0_4):=(Bk.cell (Bk.below F21.out HB25.out) 4).trans rfl;first|(go_simp;done)|(go_simp;rfl)))|((with_reducible refine gate_dst (N:=35) rfl ?_);refine ev_val (by rfl) (v:=.slice A1_4 s.floors.length c1_4) ?hr ?_;(case hr=>have hc_:W23.cell? ⟨g3,4,none⟩=some (.slice A1_4 s.floors.length c1_4):=(Bk.cell (Bk.below F22.out HB25.out) 4).trans rfl;first|(go_simp;done)|(go_simp;rfl))))
 refine (eqI_c (StC.floors_row (StC.below F19.out HB25.out)) (StC.floors_row (StC.below F20.out HB25.out))).mono ?_
 rintro e W26 ⟨rfl,hb27⟩
 have HB28:=Ak hb27
 clear hb27
 try go_wp2
 go_ret
 exact ⟨rfl,(below_step E18.out (below_step HB25.out HB28.out))⟩
theorem FnStoreReplay_walk {w:World} {A:Option Addr} {c:Nat} {l:List Int} (hl:Kd.C (Kd.int .u8) w A l.length l) (hc:l.length≤c) (hb:∀ x ∈ l,0≤x∧x≤255) :
  Calls Try.prog 14 #[.slice A l.length c] w fun e w'=>e = .returned (.bool true)∧Below w.heap.size w w':=by
 have HL:=Ak hl
 have HLC:=Ak hc
 have HLB:=Ak hb
 have HT0:=Ak (Nat.le_refl w.heap.size)
 clear hl hc hb
 have hu26:=Try.underlying26
 go_enter Try.func14,Try.ntmps14
 go_upto_if 17 with (fail)
 by_cases c1:(l.length:Int) > 1048576
 ·have d2:decide (1048576<(l.length:Int))=true:=decide_eq_true (by omega)
  (first|rw [d2]|(simp only [i64_w,i32_w];rw [d2])|skip)
  have K3:=Ak c1
  clear c1
  try go_wp2
  go_ret
  exact ⟨rfl,(Below.refl _ _)⟩
 ·have d2:decide (1048576<(l.length:Int))=false:=decide_eq_false (by omega)
  (first|rw [d2]|(simp only [i64_w,i32_w];rw [d2])|skip)
  have K3:=Ak c1
  clear c1
  go_wp2_with (fail)
  refine (DrawStoreAll_c (Kd.C_below HL.out (Below.refl _ _)) HLC.out HLB.out).mono ?_
  rintro e W22 ⟨u4,t5,z12,q13,rfl,hr6,hs7,hz8,hq14,hn15,hm16,hb23⟩
  have HB24:=Ak hb23
  clear hb23
  have HN20:=Ak hn15
  have HM21:=Ak hm16
  obtain ⟨A17,c18,rfl,_⟩:=id hq14
  have HQ19:=Ak hq14
  clear hq14 hn15 hm16
  have HRs9:=Ak hr6
  have HS10:=Ak hs7
  have HZ11:=Ak hz8
  obtain ⟨as9_0,ds9_0,as9_1,ds9_1,as9_2,ds9_2,as9_3,ds9_3,as9_4,ds9_4,rfl,_⟩:=hr6.toC
  clear hr6 hs7 hz8
  go_wp2_with (first|((with_reducible refine gate_dst (N:=3) rfl ?_);refine ev_box ?hg (N:=3) ?hd (cs:=#[.slice none 0 0,.slice none 0 0,.slice none 0 0,.slice none 0 0,.slice none 0 0]) (t:=26) ?hr ?_;(case hd=>rfl);(case hg=>rfl);(case hr=>first|(go_simp;done)|(go_simp;rfl));intro g3 W25 HG28 BK26 HB27)|((with_reducible refine gate_store (t:=26) (p:=3) rfl ?_);refine ev_store rfl rfl rfl (g:=g3) rfl (cs:=#[.slice as9_0 t5.now.length ds9_0,.slice as9_1 t5.sure.length ds9_1,.slice as9_2 t5.last.length ds9_2,.slice as9_3 t5.slast.length ds9_3,.slice as9_4 t5.floors.length ds9_4]) rfl BK26.out (by kernel_rfl) rfl rfl ?_;intro W29 BK30 HB31;have HB32:=Ak (below_new HG28.out HB27.out HB31.out);clear BK26 HB27 HB31)|((with_reducible refine gate_dst (N:=24) rfl ?_);refine ev_load rfl (N:=24) rfl rfl (g:=g3) rfl (cs:=#[.slice as9_0 t5.now.length ds9_0,.slice as9_1 t5.sure.length ds9_1,.slice as9_2 t5.last.length ds9_2,.slice as9_3 t5.slast.length ds9_3,.slice as9_4 t5.floors.length ds9_4]) BK30.out hu26 rfl (by kernel_rfl) ?_))
  obtain ⟨⟨t33,q35⟩,ht_⟩:∃ x_,storeAll t5 (q13.map rq)=x_:=⟨_,rfl⟩
  have HT34:=Ak ht_
  clear ht_
  refine (impl_StoreAll_c (StI.toC (StI.below HRs9.out HB32.out)) HZ11.out HS10.out (ReqC.below HQ19.out HB32.out) HM21.out (by have h_:=HN20.out;omega) HT34.out).mono ?_
  rintro e W44 ⟨u36,n37,rfl,hr38,hn39,hb45⟩
  have HB46:=Ak hb45
  clear hb45
  have HRs43:=Ak hr38
  obtain ⟨as43_0,ds43_0,as43_1,ds43_1,as43_2,ds43_2,as43_3,ds43_3,as43_4,ds43_4,rfl,_⟩:=hr38.toC
  clear hr38
  obtain ⟨A40,c41,rfl,_⟩:=hn39.toC
  have HN42:=Ak hn39
  clear hn39
  go_wp2_with (first|((with_reducible refine gate_dst (N:=5) rfl ?_);refine ev_box ?hg (N:=5) ?hd (cs:=#[.slice none 0 0,.slice none 0 0,.slice none 0 0,.slice none 0 0,.slice none 0 0]) (t:=26) ?hr ?_;(case hd=>rfl);(case hg=>rfl);(case hr=>first|(go_simp;done)|(go_simp;rfl));intro g5 W47 HG50 BK48 HB49)|((with_reducible refine gate_store (t:=26) (p:=5) rfl ?_);refine ev_store rfl rfl rfl (g:=g5) rfl (cs:=#[.slice as43_0 t33.now.length ds43_0,.slice as43_1 t33.sure.length ds43_1,.slice as43_2 t33.last.length ds43_2,.slice as43_3 t33.slast.length ds43_3,.slice as43_4 t33.floors.length ds43_4]) rfl BK48.out (by kernel_rfl) rfl rfl ?_;intro W51 BK52 HB53;have HB54:=Ak (below_new HG50.out HB49.out HB53.out);clear BK48 HB49 HB53)|((with_reducible refine gate_dst (N:=30) rfl ?_);refine ev_load rfl (N:=30) rfl rfl (g:=g3) rfl (cs:=#[.slice as9_0 t5.now.length ds9_0,.slice as9_1 t5.sure.length ds9_1,.slice as9_2 t5.last.length ds9_2,.slice as9_3 t5.slast.length ds9_3,.slice as9_4 t5.floors.length ds9_4]) (Bk.below BK30.out (below_step HB46.out HB54.out)) hu26 rfl (by kernel_rfl) ?_))
  refine (spec_StoreAll_c (StI.toC (StI.below HRs9.out (below_step (below_step HB32.out HB46.out) HB54.out))) HZ11.out HS10.out (ReqC.below HQ19.out (below_step (below_step HB32.out HB46.out) HB54.out)) HM21.out (by have h_:=HN20.out;omega) HT34.out).mono ?_
  rintro e W63 ⟨u55,n56,rfl,hr57,hn58,hb64⟩
  have HB65:=Ak hb64
  clear hb64
  have HRs62:=Ak hr57
  obtain ⟨as62_0,ds62_0,as62_1,ds62_1,as62_2,ds62_2,as62_3,ds62_3,as62_4,ds62_4,rfl,_⟩:=hr57.toC
  clear hr57
  obtain ⟨A59,c60,rfl,_⟩:=hn58.toC
  have HN61:=Ak hn58
  clear hn58
  go_upto_region 6 with (first|((with_reducible refine gate_dst (N:=7) rfl ?_);refine ev_box ?hg (N:=7) ?hd (cs:=#[.slice none 0 0,.slice none 0 0,.slice none 0 0,.slice none 0 0,.slice none 0 0]) (t:=26) ?hr ?_;(case hd=>rfl);(case hg=>rfl);(case hr=>first|(go_simp;done)|(go_simp;rfl));intro g7 W66 HG69 BK67 HB68)|((with_reducible refine gate_store (t:=26) (p:=7) rfl ?_);refine ev_store rfl rfl rfl (g:=g7) rfl (cs:=#[.slice as62_0 t33.now.length ds62_0,.slice as62_1 t33.sure.length ds62_1,.slice as62_2 t33.last.length ds62_2,.slice as62_3 t33.slast.length ds62_3,.slice as62_4 t33.floors.length ds62_4]) rfl BK67.out (by kernel_rfl) rfl rfl ?_;intro W70 BK71 HB72;have HB73:=Ak (below_new HG69.out HB68.out HB72.out);clear BK67 HB68 HB72))
  by_cases c74:stOk t5=true
  ·have K75:=Ak c74
   clear c74
   obtain ⟨t76,ht_⟩:∃ x_,syncSt t5=x_:=⟨_,rfl⟩
   have HT77:=Ak ht_
   clear ht_
   obtain ⟨⟨t78,q80⟩,ht_⟩:∃ x_,storeAll t76 (q13.map rq)=x_:=⟨_,rfl⟩
   have HT79:=Ak ht_
   clear ht_
   go_wp2_with (first|((with_reducible refine gate_dst (N:=35) rfl ?_);refine ev_load rfl (N:=35) rfl rfl (g:=g5) rfl (cs:=#[.slice as43_0 t33.now.length ds43_0,.slice as43_1 t33.sure.length ds43_1,.slice as43_2 t33.last.length ds43_2,.slice as43_3 t33.slast.length ds43_3,.slice as43_4 t33.floors.length ds43_4]) (Bk.below BK52.out (below_step HB65.out HB73.out)) hu26 rfl (by kernel_rfl) ?_)|((with_reducible refine gate_dst (N:=36) rfl ?_);refine ev_load rfl (N:=36) rfl rfl (g:=g7) rfl (cs:=#[.slice as62_0 t33.now.length ds62_0,.slice as62_1 t33.sure.length ds62_1,.slice as62_2 t33.last.length ds62_2,.slice as62_3 t33.slast.length ds62_3,.slice as62_4 t33.floors.length ds62_4]) BK71.out hu26 rfl (by kernel_rfl) ?_))
   have E81:=Ak ((below_step (below_step (below_step (below_step (below_step HB24.out HB32.out) HB46.out) HB54.out) HB65.out) HB73.out))
   have F82:=Ak ((Bk.below BK30.out (below_step (below_step (below_step HB46.out HB54.out) HB65.out) HB73.out)))
   have F83:=Ak ((StI.below HRs9.out (below_step (below_step (below_step (below_step HB32.out HB46.out) HB54.out) HB65.out) HB73.out)))
   have F84:=Ak ((ReqC.below HQ19.out (below_step (below_step (below_step (below_step HB32.out HB46.out) HB54.out) HB65.out) HB73.out)))
   have F85:=Ak ((Bk.below BK52.out (below_step HB65.out HB73.out)))
   have F86:=Ak ((StR.below HRs43.out (below_step (below_step HB54.out HB65.out) HB73.out)))
   have F87:=Ak ((NumR.below HN42.out (below_step (below_step HB54.out HB65.out) HB73.out)))
   have F88:=Ak ((StR.below HRs62.out HB73.out))
   have F89:=Ak ((NumR.below HN61.out HB73.out))
   refine (impl_StoreSame_w (StR.toC F86.out) (StR.toC F88.out) (stEq_self _)).mono ?_
   rintro e W90 ⟨rfl,hb91⟩
   have HB92:=Ak hb91
   clear hb91
   go_wp2_with (fail)
   refine (wpNums_c (NumC.isC (NumR.toC (NumR.below F87.out HB92.out))) (NumC.isC (NumR.toC (NumR.below F89.out HB92.out))) (decide_eq_true rfl)).mono ?_
   rintro e W93 ⟨rfl,hb94⟩
   have HB95:=Ak hb94
   clear hb94
   go_wp2_with (first|((with_reducible refine gate_dst (N:=46) rfl ?_);refine ev_load_on (by rfl) (N:=46) rfl rfl (g:=g3) rfl (cs:=#[.slice as9_0 t5.now.length ds9_0,.slice as9_1 t5.sure.length ds9_1,.slice as9_2 t5.last.length ds9_2,.slice as9_3 t5.slast.length ds9_3,.slice as9_4 t5.floors.length ds9_4]) (Bk.below F82.out (below_step HB92.out HB95.out)) hu26 rfl (by kernel_rfl) ?_))
   refine (spec_StoreOk_q (StI.toC (StI.below F83.out (below_step HB92.out HB95.out))) HZ11.out K75.out).mono ?_
   rintro e W96 ⟨rfl,hb97⟩
   have HB98:=Ak hb97
   clear hb97
   go_wp2_with (first|((with_reducible refine gate_dst (N:=58) rfl ?_);refine ev_load rfl (N:=58) rfl rfl (g:=g3) rfl (cs:=#[.slice as9_0 t5.now.length ds9_0,.slice as9_1 t5.sure.length ds9_1,.slice as9_2 t5.last.length ds9_2,.slice as9_3 t5.slast.length ds9_3,.slice as9_4 t5.floors.length ds9_4]) (Bk.below F82.out (below_step (below_step HB92.out HB95.out) HB98.out)) hu26 rfl (by kernel_rfl) ?_))
   refine (impl_StoreSync_c (StI.toC (StI.below F83.out (below_step (below_step HB92.out HB95.out) HB98.out))) HZ11.out HS10.out HT77.out).mono ?_
   rintro e W102 ⟨u99,rfl,hr100,hb103⟩
   have HB104:=Ak hb103
   clear hb103
   have HRs101:=Ak hr100
   obtain ⟨as101_0,ds101_0,as101_1,ds101_1,as101_2,ds101_2,as101_3,ds101_3,as101_4,ds101_4,rfl,_⟩:=hr100.toC
   clear hr100
   go_wp2_with (first|((with_reducible refine gate_dst (N:=9) rfl ?_);refine ev_box ?hg (N:=9) ?hd (cs:=#[.slice none 0 0,.slice none 0 0,.slice none 0 0,.slice none 0 0,.slice none 0 0]) (t:=26) ?hr ?_;(case hd=>rfl);(case hg=>rfl);(case hr=>first|(go_simp;done)|(go_simp;rfl));intro g9 W105 HG108 BK106 HB107)|((with_reducible refine gate_store (t:=26) (p:=9) rfl ?_);refine ev_store rfl rfl rfl (g:=g9) rfl (cs:=#[.slice as101_0 t76.now.length ds101_0,.slice as101_1 t76.sure.length ds101_1,.slice as101_2 t76.last.length ds101_2,.slice as101_3 t76.slast.length ds101_3,.slice as101_4 t76.floors.length ds101_4]) rfl BK106.out (by kernel_rfl) rfl rfl ?_;intro W109 BK110 HB111;have HB112:=Ak (below_new HG108.out HB107.out HB111.out);clear BK106 HB107 HB111)|((with_reducible refine gate_dst (N:=61) rfl ?_);refine ev_load rfl (N:=61) rfl rfl (g:=g9) rfl (cs:=#[.slice as101_0 t76.now.length ds101_0,.slice as101_1 t76.sure.length ds101_1,.slice as101_2 t76.last.length ds101_2,.slice as101_3 t76.slast.length ds101_3,.slice as101_4 t76.floors.length ds101_4]) BK110.out hu26 rfl (by kernel_rfl) ?_))
   have E113:=Ak ((below_step E81.out (below_step (below_step (below_step (below_step HB92.out HB95.out) HB98.out) HB104.out) HB112.out)))
   have F114:=Ak ((ReqC.below F84.out (below_step (below_step (below_step (below_step HB92.out HB95.out) HB98.out) HB104.out) HB112.out)))
   have F115:=Ak ((NumR.below F87.out (below_step (below_step (below_step (below_step HB92.out HB95.out) HB98.out) HB104.out) HB112.out)))
   have F116:=Ak ((StR.below HRs101.out HB112.out))
   refine (impl_StoreAll_c (StR.toC F116.out) (sized_sync_e HT77.out HZ11.out) (syncSt_small HT77.out HS10.out) F114.out HM21.out (by have h_:=HN20.out;omega) HT79.out).mono ?_
   rintro e W125 ⟨u117,n118,rfl,hr119,hn120,hb126⟩
   have HB127:=Ak hb126
   clear hb126
   have HRs124:=Ak hr119
   obtain ⟨as124_0,ds124_0,as124_1,ds124_1,as124_2,ds124_2,as124_3,ds124_3,as124_4,ds124_4,rfl,_⟩:=hr119.toC
   clear hr119
   obtain ⟨A121,c122,rfl,_⟩:=hn120.toC
   have HN123:=Ak hn120
   clear hn120
   go_wp2_with (first|((with_reducible refine gate_dst (N:=10) rfl ?_);refine ev_box ?hg (N:=10) ?hd (cs:=#[.slice none 0 0,.slice none 0 0,.slice none 0 0,.slice none 0 0,.slice none 0 0]) (t:=26) ?hr ?_;(case hd=>rfl);(case hg=>rfl);(case hr=>first|(go_simp;done)|(go_simp;rfl));intro g10 W128 HG131 BK129 HB130)|((with_reducible refine gate_store (t:=26) (p:=10) rfl ?_);refine ev_store rfl rfl rfl (g:=g10) rfl (cs:=#[.slice as124_0 t78.now.length ds124_0,.slice as124_1 t78.sure.length ds124_1,.slice as124_2 t78.last.length ds124_2,.slice as124_3 t78.slast.length ds124_3,.slice as124_4 t78.floors.length ds124_4]) rfl BK129.out (by kernel_rfl) rfl rfl ?_;intro W132 BK133 HB134;have HB135:=Ak (below_new HG131.out HB130.out HB134.out);clear BK129 HB130 HB134)|((with_reducible refine gate_dst (N:=66) rfl ?_);refine ev_load rfl (N:=66) rfl rfl (g:=g10) rfl (cs:=#[.slice as124_0 t78.now.length ds124_0,.slice as124_1 t78.sure.length ds124_1,.slice as124_2 t78.last.length ds124_2,.slice as124_3 t78.slast.length ds124_3,.slice as124_4 t78.floors.length ds124_4]) BK133.out hu26 rfl (by kernel_rfl) ?_))
   refine (impl_StoreFall_c (StR.toC (StR.below HRs124.out HB135.out)) (sized_all_e HT79.out (sized_sync_e HT77.out HZ11.out)) (small_all_e HT79.out (syncSt_small HT77.out HS10.out)) ((fall_all HT79.out (ok_sync HT77.out K75.out)).trans (fall_sync HT77.out K75.out))).mono ?_
   rintro e W139 ⟨u136,rfl,hr137,hb140⟩
   have HB141:=Ak hb140
   clear hb140
   have HRs138:=Ak hr137
   obtain ⟨as138_0,ds138_0,as138_1,ds138_1,as138_2,ds138_2,as138_3,ds138_3,as138_4,ds138_4,rfl,_⟩:=hr137.toC
   clear hr137
   go_wp2_with (first|((with_reducible refine gate_dst (N:=12) rfl ?_);refine ev_box ?hg (N:=12) ?hd (cs:=#[.slice none 0 0,.slice none 0 0,.slice none 0 0,.slice none 0 0,.slice none 0 0]) (t:=26) ?hr ?_;(case hd=>rfl);(case hg=>rfl);(case hr=>first|(go_simp;done)|(go_simp;rfl));intro g12 W142 HG145 BK143 HB144)|((with_reducible refine gate_store (t:=26) (p:=12) rfl ?_);refine ev_store rfl rfl rfl (g:=g12) rfl (cs:=#[.slice as138_0 t76.now.length ds138_0,.slice as138_1 t76.sure.length ds138_1,.slice as138_2 t76.last.length ds138_2,.slice as138_3 t76.slast.length ds138_3,.slice as138_4 t76.floors.length ds138_4]) rfl BK143.out (by kernel_rfl) rfl rfl ?_;intro W146 BK147 HB148;have HB149:=Ak (below_new HG145.out HB144.out HB148.out);clear BK143 HB144 HB148)|((with_reducible refine gate_dst (N:=69) rfl ?_);refine ev_load rfl (N:=69) rfl rfl (g:=g12) rfl (cs:=#[.slice as138_0 t76.now.length ds138_0,.slice as138_1 t76.sure.length ds138_1,.slice as138_2 t76.last.length ds138_2,.slice as138_3 t76.slast.length ds138_3,.slice as138_4 t76.floors.length ds138_4]) BK147.out hu26 rfl (by kernel_rfl) ?_))
   refine (impl_StoreAll_c (StR.toC (StR.below HRs138.out HB149.out)) (sized_fall_e ((fall_all HT79.out (ok_sync HT77.out K75.out)).trans (fall_sync HT77.out K75.out)) (sized_all_e HT79.out (sized_sync_e HT77.out HZ11.out))) (fallSt_small ((fall_all HT79.out (ok_sync HT77.out K75.out)).trans (fall_sync HT77.out K75.out)) (small_all_e HT79.out (syncSt_small HT77.out HS10.out))) (ReqC.below F114.out (below_step (below_step (below_step HB127.out HB135.out) HB141.out) HB149.out)) HM21.out (by have h_:=HN20.out;omega) HT79.out).mono ?_
   rintro e W158 ⟨u150,n151,rfl,hr152,hn153,hb159⟩
   have HB160:=Ak hb159
   clear hb159
   have HRs157:=Ak hr152
   obtain ⟨as157_0,ds157_0,as157_1,ds157_1,as157_2,ds157_2,as157_3,ds157_3,as157_4,ds157_4,rfl,_⟩:=hr152.toC
   clear hr152
   obtain ⟨A154,c155,rfl,_⟩:=hn153.toC
   have HN156:=Ak hn153
   clear hn153
   go_wp2_with (first|((with_reducible refine gate_dst (N:=13) rfl ?_);refine ev_box ?hg (N:=13) ?hd (cs:=#[.slice none 0 0,.slice none 0 0,.slice none 0 0,.slice none 0 0,.slice none 0 0]) (t:=26) ?hr ?_;(case hd=>rfl);(case hg=>rfl);(case hr=>first|(go_simp;done)|(go_simp;rfl));intro g13 W161 HG164 BK162 HB163)|((with_reducible refine gate_store (t:=26) (p:=13) rfl ?_);refine ev_store rfl rfl rfl (g:=g13) rfl (cs:=#[.slice as157_0 t78.now.length ds157_0,.slice as157_1 t78.sure.length ds157_1,.slice as157_2 t78.last.length ds157_2,.slice as157_3 t78.slast.length ds157_3,.slice as157_4 t78.floors.length ds157_4]) rfl BK162.out (by kernel_rfl) rfl rfl ?_;intro W165 BK166 HB167;have HB168:=Ak (below_new HG164.out HB163.out HB167.out);clear BK162 HB163 HB167))
   have E169:=Ak ((below_step E113.out (below_step (below_step (below_step (below_step (below_step HB127.out HB135.out) HB141.out) HB149.out) HB160.out) HB168.out)))
   have F170:=Ak ((NumR.below F115.out (below_step (below_step (below_step (below_step (below_step HB127.out HB135.out) HB141.out) HB149.out) HB160.out) HB168.out)))
   have F171:=Ak ((Bk.below BK110.out (below_step (below_step (below_step (below_step (below_step HB127.out HB135.out) HB141.out) HB149.out) HB160.out) HB168.out)))
   have F172:=Ak ((StR.below F116.out (below_step (below_step (below_step (below_step (below_step HB127.out HB135.out) HB141.out) HB149.out) HB160.out) HB168.out)))
   have F173:=Ak ((Bk.below BK133.out (below_step (below_step (below_step HB141.out HB149.out) HB160.out) HB168.out)))
   have F174:=Ak ((StR.below HRs124.out (below_step (below_step (below_step (below_step HB135.out HB141.out) HB149.out) HB160.out) HB168.out)))
   have F175:=Ak ((NumR.below HN123.out (below_step (below_step (below_step (below_step HB135.out HB141.out) HB149.out) HB160.out) HB168.out)))
   have F176:=Ak ((Bk.below BK147.out (below_step HB160.out HB168.out)))
   have F177:=Ak ((StR.below HRs138.out (below_step (below_step HB149.out HB160.out) HB168.out)))
   have F178:=Ak ((StR.below HRs157.out HB168.out))
   have F179:=Ak ((NumR.below HN156.out HB168.out))
   refine (wpNums_c (NumC.isC (NumR.toC F175.out)) (NumC.isC (NumR.toC F170.out)) (decide_eq_true (codes_sync HT34.out HT77.out HT79.out K75.out))).mono ?_
   rintro e W180 ⟨rfl,hb181⟩
   have HB182:=Ak hb181
   clear hb181
   go_wp2_with (first|((with_reducible refine gate_dst (N:=78) rfl ?_);refine ev_load_on (by rfl) (N:=78) rfl rfl (g:=g12) rfl (cs:=#[.slice as138_0 t76.now.length ds138_0,.slice as138_1 t76.sure.length ds138_1,.slice as138_2 t76.last.length ds138_2,.slice as138_3 t76.slast.length ds138_3,.slice as138_4 t76.floors.length ds138_4]) (Bk.below F176.out HB182.out) hu26 rfl (by kernel_rfl) ?_)|((with_reducible refine gate_dst (N:=79) rfl ?_);refine ev_load_on (by rfl) (N:=79) rfl rfl (g:=g9) rfl (cs:=#[.slice as101_0 t76.now.length ds101_0,.slice as101_1 t76.sure.length ds101_1,.slice as101_2 t76.last.length ds101_2,.slice as101_3 t76.slast.length ds101_3,.slice as101_4 t76.floors.length ds101_4]) (Bk.below F171.out HB182.out) hu26 rfl (by kernel_rfl) ?_))
   refine (impl_StoreSame_w (StR.toC (StR.below F177.out HB182.out)) (StR.toC (StR.below F172.out HB182.out)) (stEq_self _)).mono ?_
   rintro e W183 ⟨rfl,hb184⟩
   have HB185:=Ak hb184
   clear hb184
   go_wp2_with (first|((with_reducible refine gate_dst (N:=83) rfl ?_);refine ev_load_on (by rfl) (N:=83) rfl rfl (g:=g10) rfl (cs:=#[.slice as124_0 t78.now.length ds124_0,.slice as124_1 t78.sure.length ds124_1,.slice as124_2 t78.last.length ds124_2,.slice as124_3 t78.slast.length ds124_3,.slice as124_4 t78.floors.length ds124_4]) (Bk.below F173.out (below_step HB182.out HB185.out)) hu26 rfl (by kernel_rfl) ?_)|((with_reducible refine gate_dst (N:=84) rfl ?_);refine ev_load_on (by rfl) (N:=84) rfl rfl (g:=g13) rfl (cs:=#[.slice as157_0 t78.now.length ds157_0,.slice as157_1 t78.sure.length ds157_1,.slice as157_2 t78.last.length ds157_2,.slice as157_3 t78.slast.length ds157_3,.slice as157_4 t78.floors.length ds157_4]) (Bk.below BK166.out (below_step HB182.out HB185.out)) hu26 rfl (by kernel_rfl) ?_))
   refine (impl_StoreSame_w (StR.toC (StR.below F174.out (below_step HB182.out HB185.out))) (StR.toC (StR.below F178.out (below_step HB182.out HB185.out))) (stEq_self _)).mono ?_
   rintro e W186 ⟨rfl,hb187⟩
   have HB188:=Ak hb187
   clear hb187
   go_wp2_with (fail)
   refine (wpNums_c (NumC.isC (NumR.toC (NumR.below F179.out (below_step (below_step HB182.out HB185.out) HB188.out)))) (NumC.isC (NumR.toC (NumR.below F170.out (below_step (below_step HB182.out HB185.out) HB188.out)))) (decide_eq_true (codes_sync HT34.out HT77.out HT79.out K75.out))).mono ?_
   rintro e W189 ⟨rfl,hb190⟩
   have HB191:=Ak hb190
   clear hb190
   try go_wp2
   go_ret
   exact ⟨rfl,(below_step E169.out (below_step (below_step (below_step HB182.out HB185.out) HB188.out) HB191.out))⟩
  ·have K75:=Ak c74
   clear c74
   go_wp2_with (first|((with_reducible refine gate_dst (N:=35) rfl ?_);refine ev_load rfl (N:=35) rfl rfl (g:=g5) rfl (cs:=#[.slice as43_0 t33.now.length ds43_0,.slice as43_1 t33.sure.length ds43_1,.slice as43_2 t33.last.length ds43_2,.slice as43_3 t33.slast.length ds43_3,.slice as43_4 t33.floors.length ds43_4]) (Bk.below BK52.out (below_step HB65.out HB73.out)) hu26 rfl (by kernel_rfl) ?_)|((with_reducible refine gate_dst (N:=36) rfl ?_);refine ev_load rfl (N:=36) rfl rfl (g:=g7) rfl (cs:=#[.slice as62_0 t33.now.length ds62_0,.slice as62_1 t33.sure.length ds62_1,.slice as62_2 t33.last.length ds62_2,.slice as62_3 t33.slast.length ds62_3,.slice as62_4 t33.floors.length ds62_4]) BK71.out hu26 rfl (by kernel_rfl) ?_))
   have E192:=Ak ((below_step (below_step (below_step (below_step (below_step HB24.out HB32.out) HB46.out) HB54.out) HB65.out) HB73.out))
   have F193:=Ak ((Bk.below BK30.out (below_step (below_step (below_step HB46.out HB54.out) HB65.out) HB73.out)))
   have F194:=Ak ((StI.below HRs9.out (below_step (below_step (below_step (below_step HB32.out HB46.out) HB54.out) HB65.out) HB73.out)))
   have F195:=Ak ((ReqC.below HQ19.out (below_step (below_step (below_step (below_step HB32.out HB46.out) HB54.out) HB65.out) HB73.out)))
   have F196:=Ak ((Bk.below BK52.out (below_step HB65.out HB73.out)))
   have F197:=Ak ((StR.below HRs43.out (below_step (below_step HB54.out HB65.out) HB73.out)))
   have F198:=Ak ((NumR.below HN42.out (below_step (below_step HB54.out HB65.out) HB73.out)))
   have F199:=Ak ((StR.below HRs62.out HB73.out))
   have F200:=Ak ((NumR.below HN61.out HB73.out))
   refine (impl_StoreSame_w (StR.toC F197.out) (StR.toC F199.out) (stEq_self _)).mono ?_
   rintro e W201 ⟨rfl,hb202⟩
   have HB203:=Ak hb202
   clear hb202
   go_wp2_with (fail)
   refine (wpNums_c (NumC.isC (NumR.toC (NumR.below F198.out HB203.out))) (NumC.isC (NumR.toC (NumR.below F200.out HB203.out))) (decide_eq_true rfl)).mono ?_
   rintro e W204 ⟨rfl,hb205⟩
   have HB206:=Ak hb205
   clear hb205
   go_wp2_with (first|((with_reducible refine gate_dst (N:=46) rfl ?_);refine ev_load_on (by rfl) (N:=46) rfl rfl (g:=g3) rfl (cs:=#[.slice as9_0 t5.now.length ds9_0,.slice as9_1 t5.sure.length ds9_1,.slice as9_2 t5.last.length ds9_2,.slice as9_3 t5.slast.length ds9_3,.slice as9_4 t5.floors.length ds9_4]) (Bk.below F193.out (below_step HB203.out HB206.out)) hu26 rfl (by kernel_rfl) ?_))
   refine (spec_StoreOk_q (StI.toC (StI.below F194.out (below_step HB203.out HB206.out))) HZ11.out (Bool.eq_false_iff.mpr K75.out)).mono ?_
   rintro e W207 ⟨rfl,hb208⟩
   have HB209:=Ak hb208
   clear hb208
   go_wp2_with (first|((with_reducible refine gate_dst (N:=50) rfl ?_);refine ev_load rfl (N:=50) rfl rfl (g:=g5) rfl (cs:=#[.slice as43_0 t33.now.length ds43_0,.slice as43_1 t33.sure.length ds43_1,.slice as43_2 t33.last.length ds43_2,.slice as43_3 t33.slast.length ds43_3,.slice as43_4 t33.floors.length ds43_4]) (Bk.below F196.out (below_step (below_step HB203.out HB206.out) HB209.out)) hu26 rfl (by kernel_rfl) ?_)|((with_reducible refine gate_dst (N:=51) rfl ?_);refine ev_load rfl (N:=51) rfl rfl (g:=g7) rfl (cs:=#[.slice as62_0 t33.now.length ds62_0,.slice as62_1 t33.sure.length ds62_1,.slice as62_2 t33.last.length ds62_2,.slice as62_3 t33.slast.length ds62_3,.slice as62_4 t33.floors.length ds62_4]) (Bk.below BK71.out (below_step (below_step HB203.out HB206.out) HB209.out)) hu26 rfl (by kernel_rfl) ?_))
   refine (impl_StoreSame_w (StR.toC (StR.below F197.out (below_step (below_step HB203.out HB206.out) HB209.out))) (StR.toC (StR.below F199.out (below_step (below_step HB203.out HB206.out) HB209.out))) (stEq_self _)).mono ?_
   rintro e W210 ⟨rfl,hb211⟩
   have HB212:=Ak hb211
   clear hb211
   go_wp2_with (fail)
   refine (wpNums_c (NumC.isC (NumR.toC (NumR.below F198.out (below_step (below_step (below_step HB203.out HB206.out) HB209.out) HB212.out)))) (NumC.isC (NumR.toC (NumR.below F200.out (below_step (below_step (below_step HB203.out HB206.out) HB209.out) HB212.out)))) (decide_eq_true rfl)).mono ?_
   rintro e W213 ⟨rfl,hb214⟩
   have HB215:=Ak hb214
   clear hb214
   try go_wp2
   go_ret
   exact ⟨rfl,(below_step E192.out (below_step (below_step (below_step (below_step HB203.out HB206.out) HB209.out) HB212.out) HB215.out))⟩
end Go.Proofs.Ytmekkapacbdbeaa.P

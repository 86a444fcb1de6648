/- Part 3 of the proof of FnLockSame: words, contracts of callees, plain lemmas. -/
import Derived.Test.YtbgehlihpkefmaaZLLockSame2
set_option maxHeartbeats 8000000
set_option maxRecDepth 100000
set_option linter.unusedVariables false
set_option linter.unusedSimpArgs false
namespace Go.Proofs.Ytbgehlihpkefmaa.A
open Go Go.RowKit
set_option maxHeartbeats 4000000
theorem impl_LockOk_c {T:List Ho} {kk cc:Nat} (hT:T.length≤1048576) (hB:∀ h ∈ T,h.r.length≤1048576∧h.w.length≤1048576):FDoes Try.prog 15 [.slice (some ⟨0,kk,none⟩) T.length cc] (hp [(0,false,one ⟨hls kk (rHv (tabV 1 zo T)),46,0⟩),(1,false,inF zo 28 0 T)]) { v:=.bool (lockOk T),rd:=[0,1] }:=by
 have hm:Try.prog.follows .mixedOrders=true:=by kernel_rfl
 have hd_:∀ x_ ∈ ([(0,false,one ⟨hls kk (rHv (tabV 1 zo T)),46,0⟩),(1,false,inF zo 28 0 T)]:List (Nat × Bool × Fam)),∀ k_ y_,x_.2.2 k_=some y_→DetB (lt 2) y_:=by
  intro x_ hx k_ y_ e
  simp only [List.mem_cons,List.not_mem_nil,or_false] at hx
  rcases hx with rfl|rfl
  ·exact det_tab (k0:=kk) rfl e
  ·exact det_in e
 refine fn_exact (u0:=2) Try.func15 rfl rfl (gets rfl rfl rfl hd_ rfl) ?_
 clear hd_
 refine vc_seq ?_
 refine vc_region hm ?_
 refine gM trivial (.inr rfl) rfl rfl rfl ?_
 refine rg_nil nofun ?_
 refine vc_seq ?_
 refine vc_seq ?_
 refine vc_region hm ?_
 refine gM trivial (.inl rfl) rfl rfl rfl ?_
 refine gK trivial rfl rfl rfl rfl rfl rfl (hls_nil tabV_nil) ?_
 refine gI trivial rfl rfl rfl rfl rfl rfl ?_
 refine rg_nil nofun ?_
 refine cI rfl (fun c12=>?_) (fun c12=>?_)
 ·skip
  have p12:=bne_iff_ne.1 c12
  refine vc_seq ?_
  refine vc_region hm ?_
  refine gM trivial (.inr rfl) rfl rfl rfl ?_
  refine rg_nil nofun ?_
  refine vc_ret ?_
  exact ⟨idm,ends0 (.inr rfl) rfl (eqB (ok_len3 p12)) rfl rfl rfl⟩
 ·skip
  have p12:=bne_eq_false_iff_eq.1 c12
  refine vc_skip ?_
  refine vc_seq ?_
  refine vc_region hm ?_
  refine gZ (u':=3) trivial rfl rfl rfl rfl rfl rfl rfl (show cellsL _=plL noP from rfl) ?_
  refine gZ (u':=4) trivial rfl rfl rfl rfl rfl rfl rfl (show cellsL _=plL noP from rfl) ?_
  refine rg_nil nofun ?_
  refine vc_seq ?_
  refine vc_seq ?_
  refine vc_region hm ?_
  refine gM trivial (.inl rfl) rfl rfl rfl ?_
  refine gK trivial rfl rfl rfl rfl rfl rfl (hls_nil tabV_nil) ?_
  refine gM trivial (.inl rfl) rfl rfl rfl ?_
  refine rg_nil nofun ?_
  refine vc_block ?_
  refine vc_loopT (fun n_ S_=>∃ (j:Nat),j≤T.length∧(List.range j).all (stepI T)=true∧n_=T.length - j∧S_=⟨4,[(3,.pointer (some ⟨2,0,none⟩)),(4,.pointer (some ⟨3,0,none⟩)),(13,.slice (some ⟨0,kk,none⟩) T.length cc),(14,.int .i64 T.length),(15,.int .i64 j)],[(0,false,one ⟨hls kk (rHv (tabV 1 zo T)),46,0⟩),(1,false,inF zo 28 0 T),(2,true,one ⟨plL (anyP T j),59,48⟩),(3,true,one ⟨plL (wrP T j),59,48⟩)]⟩) ⟨0,Nat.zero_le _,rfl,rfl,rfl⟩ (re_nil (ms:=[0,1,2,3]) (C:=999) rfl ⟨⟨⟨rfl,rfl⟩,rfl⟩,⟨⟨rfl,rfl⟩,rfl⟩,⟨⟨rfl,rfl⟩,rfl⟩,⟨⟨rfl,rfl⟩,rfl⟩,⟨⟨rfl,rfl⟩,rfl⟩,trivial⟩ ⟨ktTab (k:=kk) rfl rfl (.inr (.inl rfl)) id rfl rfl,ktIn rfl id rfl,ktFlat (plL_flat _) (eqH any_0) (.inr (.inl rfl)) id rfl,ktFlat (plL_flat _) (eqH wr_0) (.inr (.inl rfl)) id rfl,trivial⟩ rfl rfl (rig_of rfl) rfl) ?_
  rintro n_ S_ ⟨j,hj,ha,rfl,rfl⟩
  refine vc_seq ?_
  refine vc_region hm ?_
  refine gI trivial rfl rfl rfl rfl rfl rfl ?_
  refine rg_nil nofun ?_
  refine vc_seq ?_
  refine cI rfl (fun c16=>?_) (fun c16=>?_)
  ·skip
   have p16:=of_decide_eq_true c16
   refine vc_skip ?_
   refine vc_seq ?_
   refine vc_block ?_
   refine vc_seq ?_
   refine vc_region hm ?_
   refine gX trivial rfl rfl rfl rfl rfl rfl rfl rfl (by omega) p16 (fun h=>hls_ne (tabV_ne h)) ?_
   refine gL trivial rfl rfl rfl rfl rfl rfl rfl (aHk (by omega) p16) ?_
   refine gZ (u':=5) trivial rfl rfl rfl rfl rfl rfl rfl rfl ?_
   refine gT trivial rfl rfl rfl rfl rfl rfl rfl rfl rfl rfl (Nat.le_of_ble_eq_true rfl) rfl ?_
   refine rg_nil nofun ?_
   refine vc_seq ?_
   refine vc_seq ?_
   refine vc_region hm ?_
   refine gF trivial rfl rfl rfl rfl rfl ?_
   refine gL trivial rfl rfl rfl rfl rfl rfl rfl rfl ?_
   refine gCT0 [nA (nm 1 (2 * ((j:Int)).toNat))] [1] (impl_SpansOk_c (l:=(at_ T (j:Int)).r) (hB _ (at_mem (by omega) p16)).1) trivial rfl rfl rfl rfl rfl ⟨aRow rfl (rSp_flat _) rfl (inF_0 (by omega) p16) (.inl rfl) (.inl rfl) rfl,trivial⟩ rfl rfl rfl rfl ?_
   refine gN trivial rfl rfl rfl rfl ?_
   refine gM trivial (.inl rfl) rfl rfl rfl ?_
   refine gI2 (d:=23) rfl (fun c23=>?_) (fun c23=>?_)
   ·skip
    have n23:=unT c23
    refine gO ⟨_,_,rfl,rfl,c23⟩ rfl rfl ?_
    refine gO ⟨_,_,rfl,rfl,c23⟩ rfl rfl ?_
    refine gO ⟨_,_,rfl,rfl,c23⟩ rfl rfl ?_
    refine gO ⟨_,_,rfl,rfl,c23⟩ rfl rfl ?_
    refine gPT trivial rfl rfl c23 rfl rfl rfl ?_
    refine rg_nil nofun ?_
    refine cT rfl rfl ?_
    refine vc_seq ?_
    refine vc_region hm ?_
    refine gM trivial (.inr rfl) rfl rfl rfl ?_
    refine rg_nil nofun ?_
    refine vc_ret ?_
    exact ⟨idm,ends0 (.inr rfl) rfl (eqB (okI_at p16 (by first|exact stepI_1 (by assumption)|exact stepI_2 (by assumption)|exact stepI_3 (by assumption)|exact stepI_4 (by assumption)|exact stepI_5 (by assumption)))) rfl rfl rfl⟩
   ·skip
    have n23:=unF c23
    refine gF ⟨_,_,rfl,rfl,c23⟩ rfl rfl rfl rfl rfl ?_
    refine gL ⟨_,_,rfl,rfl,c23⟩ rfl rfl rfl rfl rfl rfl rfl rfl ?_
    refine gCT0 [nA (nm 1 (2 * ((j:Int)).toNat + 1))] [1] (impl_SpansOk_c (l:=(at_ T (j:Int)).w) (hB _ (at_mem (by omega) p16)).2) ⟨_,_,rfl,rfl,c23⟩ rfl rfl rfl rfl rfl ⟨aRow rfl (rSp_flat _) rfl (inF_1 (by omega) p16) (.inl rfl) (.inl rfl) rfl,trivial⟩ rfl rfl rfl rfl ?_
    refine gN ⟨_,_,rfl,rfl,c23⟩ rfl rfl rfl rfl ?_
    refine gPF trivial rfl rfl c23 rfl rfl rfl ?_
    refine rg_nil nofun ?_
    refine cI rfl (fun c28=>?_) (fun c28=>?_)
    ·skip
     have n28:=unT c28
     refine vc_seq ?_
     refine vc_region hm ?_
     refine gM trivial (.inr rfl) rfl rfl rfl ?_
     refine rg_nil nofun ?_
     refine vc_ret ?_
     exact ⟨idm,ends0 (.inr rfl) rfl (eqB (okI_at p16 (by first|exact stepI_1 (by assumption)|exact stepI_2 (by assumption)|exact stepI_3 (by assumption)|exact stepI_4 (by assumption)|exact stepI_5 (by assumption)))) rfl rfl rfl⟩
    ·skip
     have n28:=unF c28
     refine vc_skip ?_
     refine vc_seq ?_
     refine vc_region hm ?_
     refine gF trivial rfl rfl rfl rfl rfl ?_
     refine gL trivial rfl rfl rfl rfl rfl rfl rfl rfl ?_
     refine gCT0 [nA (nm 1 (2 * ((j:Int)).toNat))] [1] (of_c (l:=(at_ T (j:Int)).r) (inB_of (by assumption)) (by have:=spansOk_len (l:=(at_ T (j:Int)).r) (by assumption);omega)) trivial rfl rfl rfl rfl rfl ⟨aRow rfl (rSp_flat _) rfl (inF_0 (by omega) p16) (.inl rfl) (.inl rfl) rfl,trivial⟩ (vPl_flat _) rfl rfl rfl ?_
     refine gF trivial rfl rfl rfl rfl rfl ?_
     refine gL trivial rfl rfl rfl rfl rfl rfl rfl rfl ?_
     refine gCT0 [nA (nm 1 (2 * ((j:Int)).toNat + 1))] [1] (of_c (l:=(at_ T (j:Int)).w) (inB_of (by assumption)) (by have:=spansOk_len (l:=(at_ T (j:Int)).w) (by assumption);omega)) trivial rfl rfl rfl rfl rfl ⟨aRow rfl (rSp_flat _) rfl (inF_1 (by omega) p16) (.inl rfl) (.inl rfl) rfl,trivial⟩ (vPl_flat _) rfl rfl rfl ?_
     refine gZ (u':=6) trivial rfl rfl rfl rfl rfl rfl rfl (show cellsL _=plL noP from rfl) ?_
     refine gZ (u':=7) trivial rfl rfl rfl rfl rfl rfl rfl (show cellsL _=plL noP from rfl) ?_
     refine gT trivial rfl rfl rfl rfl rfl rfl rfl rfl rfl rfl zPl pPl ?_
     refine gT trivial rfl rfl rfl rfl rfl rfl rfl rfl rfl rfl zPl pPl ?_
     refine rg_nil (fun _=>by kernel_rfl) ?_
     refine vc_seq ?_
     refine vc_region hm ?_
     refine gU trivial rfl rfl rfl rfl rfl rfl rfl rfl ?_
     refine gZ (u':=8) trivial rfl rfl rfl rfl rfl rfl rfl (show cellsL _=plL noP from rfl) ?_
     refine gT trivial rfl rfl rfl rfl rfl rfl rfl rfl rfl rfl zPl (show putL _ 0 _=plL noP from rfl) ?_
     refine rg_nil nofun ?_
     refine vc_seq ?_
     refine vc_seq ?_
     refine vc_region hm ?_
     refine gL trivial rfl rfl rfl rfl rfl rfl rfl wPl ?_
     refine gL trivial rfl rfl rfl rfl rfl rfl rfl wPl ?_
     refine gC0 [] (meet_c (ofP (at_ T (j:Int)).r) (ofP (at_ T (j:Int)).w)) trivial rfl rfl rfl rfl (by trivial) rfl rfl (vPl_flat _) rfl rfl ?_
     refine gL trivial rfl rfl rfl rfl rfl rfl rfl wPl ?_
     refine gEqPn trivial rfl rfl rfl rfl rfl (by kernel_rfl) rfl rfl rfl rfl ?_
     refine gM trivial (.inl rfl) rfl rfl rfl ?_
     refine gI2 (d:=41) rfl (fun c41=>?_) (fun c41=>?_)
     ·skip
      have n41:=unT c41
      refine gO ⟨_,_,rfl,rfl,c41⟩ rfl rfl ?_
      refine gO ⟨_,_,rfl,rfl,c41⟩ rfl rfl ?_
      refine gO ⟨_,_,rfl,rfl,c41⟩ rfl rfl ?_
      refine gO ⟨_,_,rfl,rfl,c41⟩ rfl rfl ?_
      refine gO ⟨_,_,rfl,rfl,c41⟩ rfl rfl ?_
      refine gPT trivial rfl rfl c41 rfl rfl rfl ?_
      refine gM trivial (.inl rfl) rfl rfl rfl ?_
      refine gO ⟨_,_,rfl,rfl,rfl⟩ rfl rfl ?_
      refine gO ⟨_,_,rfl,rfl,rfl⟩ rfl rfl ?_
      refine gO ⟨_,_,rfl,rfl,rfl⟩ rfl rfl ?_
      refine gO ⟨_,_,rfl,rfl,rfl⟩ rfl rfl ?_
      refine gO ⟨_,_,rfl,rfl,rfl⟩ rfl rfl ?_
      refine gPT trivial rfl rfl rfl rfl rfl rfl ?_
      refine rg_nil (fun _=>by kernel_rfl) ?_
      refine cT rfl rfl ?_
      refine vc_seq ?_
      refine vc_region hm ?_
      refine gM trivial (.inr rfl) rfl rfl rfl ?_
      refine rg_nil nofun ?_
      refine vc_ret ?_
      exact ⟨idm,ends0 (.inr rfl) rfl (eqB (okI_at p16 (by first|exact stepI_1 (by assumption)|exact stepI_2 (by assumption)|exact stepI_3 (by assumption)|exact stepI_4 (by assumption)|exact stepI_5 (by assumption)))) rfl rfl rfl⟩
     ·skip
      have n41:=unF c41
      refine gL ⟨_,_,rfl,rfl,c41⟩ rfl rfl rfl rfl rfl rfl rfl wPl ?_
      refine gL ⟨_,_,rfl,rfl,c41⟩ rfl rfl rfl rfl rfl rfl rfl wPl ?_
      refine gC0 [] (meet_c (ofP (at_ T (j:Int)).w) (anyP T j)) ⟨_,_,rfl,rfl,c41⟩ rfl rfl rfl rfl (by trivial) rfl rfl (vPl_flat _) rfl rfl ?_
      refine gL ⟨_,_,rfl,rfl,c41⟩ rfl rfl rfl rfl rfl rfl rfl wPl ?_
      refine gEqPn ⟨_,_,rfl,rfl,c41⟩ rfl rfl rfl rfl rfl (by kernel_rfl) rfl rfl rfl rfl ?_
      refine gPF trivial rfl rfl c41 rfl rfl rfl ?_
      refine gM trivial (.inl rfl) rfl rfl rfl ?_
      refine gI2 (d:=48) rfl (fun c48=>?_) (fun c48=>?_)
      ·skip
       have n48:=unT c48
       refine gO ⟨_,_,rfl,rfl,c48⟩ rfl rfl ?_
       refine gO ⟨_,_,rfl,rfl,c48⟩ rfl rfl ?_
       refine gO ⟨_,_,rfl,rfl,c48⟩ rfl rfl ?_
       refine gO ⟨_,_,rfl,rfl,c48⟩ rfl rfl ?_
       refine gO ⟨_,_,rfl,rfl,c48⟩ rfl rfl ?_
       refine gPT trivial rfl rfl c48 rfl rfl rfl ?_
       refine rg_nil (fun _=>by kernel_rfl) ?_
       refine cT rfl rfl ?_
       refine vc_seq ?_
       refine vc_region hm ?_
       refine gM trivial (.inr rfl) rfl rfl rfl ?_
       refine rg_nil nofun ?_
       refine vc_ret ?_
       exact ⟨idm,ends0 (.inr rfl) rfl (eqB (okI_at p16 (by first|exact stepI_1 (by assumption)|exact stepI_2 (by assumption)|exact stepI_3 (by assumption)|exact stepI_4 (by assumption)|exact stepI_5 (by assumption)))) rfl rfl rfl⟩
      ·skip
       have n48:=unF c48
       refine gL ⟨_,_,rfl,rfl,c48⟩ rfl rfl rfl rfl rfl rfl rfl wPl ?_
       refine gL ⟨_,_,rfl,rfl,c48⟩ rfl rfl rfl rfl rfl rfl rfl wPl ?_
       refine gC0 [] (meet_c (ofP (at_ T (j:Int)).r) (wrP T j)) ⟨_,_,rfl,rfl,c48⟩ rfl rfl rfl rfl (by trivial) rfl rfl (vPl_flat _) rfl rfl ?_
       refine gL ⟨_,_,rfl,rfl,c48⟩ rfl rfl rfl rfl rfl rfl rfl wPl ?_
       refine gEqPn ⟨_,_,rfl,rfl,c48⟩ rfl rfl rfl rfl rfl (by kernel_rfl) rfl rfl rfl rfl ?_
       refine gPF trivial rfl rfl c48 rfl rfl rfl ?_
       refine rg_nil (fun _=>by kernel_rfl) ?_
       refine cI rfl (fun c54=>?_) (fun c54=>?_)
       ·skip
        have n54:=unT c54
        refine vc_seq ?_
        refine vc_region hm ?_
        refine gM trivial (.inr rfl) rfl rfl rfl ?_
        refine rg_nil nofun ?_
        refine vc_ret ?_
        exact ⟨idm,ends0 (.inr rfl) rfl (eqB (okI_at p16 (by first|exact stepI_1 (by assumption)|exact stepI_2 (by assumption)|exact stepI_3 (by assumption)|exact stepI_4 (by assumption)|exact stepI_5 (by assumption)))) rfl rfl rfl⟩
       ·skip
        have n54:=unF c54
        refine vc_skip ?_
        refine vc_seq ?_
        refine vc_region hm ?_
        refine gL trivial rfl rfl rfl rfl rfl rfl rfl wPl ?_
        refine gL trivial rfl rfl rfl rfl rfl rfl rfl wPl ?_
        refine gC0 [] (put_c (wrP T j) (ofP (at_ T (j:Int)).w) true) trivial rfl rfl rfl rfl (by trivial) rfl rfl (vPl_flat _) rfl rfl ?_
        refine gT trivial rfl rfl rfl rfl rfl rfl rfl rfl rfl rfl zPl pPl ?_
        refine rg_nil nofun ?_
        refine vc_region hm ?_
        refine gL trivial rfl rfl rfl rfl rfl rfl rfl wPl ?_
        refine gL trivial rfl rfl rfl rfl rfl rfl rfl wPl ?_
        refine gC0 [] (put_c (anyP T j) (ofP (at_ T (j:Int)).w) true) trivial rfl rfl rfl rfl (by trivial) rfl rfl (vPl_flat _) rfl rfl ?_
        refine gL trivial rfl rfl rfl rfl rfl rfl rfl wPl ?_
        refine gC0 [] (put_c (putP (anyP T j) (ofP (at_ T (j:Int)).w) true) (ofP (at_ T (j:Int)).r) true) trivial rfl rfl rfl rfl (by trivial) rfl rfl (vPl_flat _) rfl rfl ?_
        refine gT trivial rfl rfl rfl rfl rfl rfl rfl rfl rfl rfl zPl pPl ?_
        refine rg_nil (fun _=>by kernel_rfl) ?_
        refine vc_region hm ?_
        refine gA trivial rfl rfl rfl rfl rfl rfl (by omega) ?_
        refine gM trivial (.inl rfl) rfl rfl rfl ?_
        refine rg_nil nofun ?_
        exact lp_nextT ⟨j + 1,(by omega),(all_step ha (stepI_6 n23 n28 n41 n48 n54)),rfl,rfl⟩ (by omega) (re_nil (ms:=[0,1,2,3]) (C:=999) rfl ⟨⟨⟨rfl,rfl⟩,rfl⟩,⟨⟨rfl,rfl⟩,rfl⟩,⟨⟨rfl,rfl⟩,rfl⟩,⟨⟨rfl,rfl⟩,rfl⟩,⟨⟨rfl,rfl⟩,rfl⟩,trivial⟩ ⟨ktTab (k:=kk) rfl rfl (.inr (.inl rfl)) id rfl rfl,ktIn rfl id rfl,ktFlat (plL_flat _) (eqH (any_next p16)) (.inr (.inl rfl)) id rfl,ktFlat (plL_flat _) (eqH (wr_next p16)) (.inr (.inl rfl)) id rfl,trivial⟩ rfl rfl (rig_of rfl) rfl)
  ·skip
   have p16:=of_decide_eq_false c16
   refine vc_exit ?_
   refine vc_seq ?_
   refine vc_region hm ?_
   refine gM trivial (.inr rfl) rfl rfl rfl ?_
   refine rg_nil nofun ?_
   refine vc_ret ?_
   exact ⟨idm,ends0 (.inr rfl) rfl (eqB (okI_all p12 hj p16 ha)) rfl rfl rfl⟩
theorem spec_l4Copy_c {T:List Ho} {kk cc:Nat} (hT:T.length≤1048576) (hB:∀ h ∈ T,h.r.length≤1048576∧h.w.length≤1048576):FDoes Try.prog 58 [.slice (some ⟨0,kk,none⟩) T.length cc] (hp [(0,false,one ⟨hls kk (rHv (tabV 1 zo T)),46,0⟩),(1,false,inF zo 28 0 T)]) (mkF (.slice (some ⟨2,0,none⟩) T.length 0) [0,1] [] [(2,one ⟨rHv (tabV 3 zo T),46,2⟩),(3,inF zo 28 77 T)]):=by
 have hm:Try.prog.follows .mixedOrders=true:=by kernel_rfl
 have hd_:∀ x_ ∈ ([(0,false,one ⟨hls kk (rHv (tabV 1 zo T)),46,0⟩),(1,false,inF zo 28 0 T)]:List (Nat × Bool × Fam)),∀ k_ y_,x_.2.2 k_=some y_→DetB (lt 2) y_:=by
  intro x_ hx k_ y_ e
  simp only [List.mem_cons,List.not_mem_nil,or_false] at hx
  rcases hx with rfl|rfl
  ·exact det_tab (k0:=kk) rfl e
  ·exact det_in e
 refine fn_exact (u0:=2) Try.func58 rfl rfl (gets rfl rfl rfl hd_ rfl) ?_
 clear hd_
 refine vc_seq ?_
 refine vc_region hm ?_
 refine gM trivial (.inr rfl) rfl rfl rfl ?_
 refine rg_nil nofun ?_
 refine vc_seq ?_
 refine vc_region hm ?_
 refine gR (u':=3) trivial rfl rfl rfl rfl rfl rfl rfl rfl rfl rfl rfl rfl rfl rfl ?_
 refine gM trivial (.inr rfl) rfl rfl rfl ?_
 refine rg_nil nofun ?_
 refine vc_seq ?_
 refine vc_seq ?_
 refine vc_region hm ?_
 refine gM trivial (.inr rfl) rfl rfl rfl ?_
 refine rg_nil nofun ?_
 refine vc_block ?_
 refine vc_loopT (fun n_ S_=>∃ (j:Nat),j≤T.length∧n_=T.length - j∧S_=⟨4,[(0,.slice (some ⟨0,kk,none⟩) T.length cc),(3,.slice (some ⟨2,0,none⟩) j 0),(4,.int .i64 j)],[(0,false,one ⟨hls kk (rHv (tabV 1 zo T)),46,0⟩),(1,false,inF zo 28 0 T),(2,true,one ⟨rHv (tabV 3 zo (T.take j)),46,2⟩),(3,true,inF zo 28 77 (T.take j))]⟩) ⟨0,Nat.zero_le _,rfl,rfl⟩ (re_nil (ms:=[0,1,2,3]) (C:=3) rfl ⟨⟨⟨rfl,rfl⟩,rfl⟩,⟨⟨rfl,rfl⟩,rfl⟩,⟨⟨rfl,rfl⟩,rfl⟩,trivial⟩ ⟨ktTab (k:=kk) rfl rfl (.inr (.inl rfl)) id rfl rfl,ktIn rfl id rfl,ktTabN (n:=0) rfl rfl (.inr (.inl rfl)) id rfl rfl,ktInN (n:=0) rfl (by decide) rfl,trivial⟩ rfl rfl (rig_of rfl) rfl) ?_
 rintro n_ S_ ⟨j,hj,rfl,rfl⟩
 refine vc_seq ?_
 refine vc_seq ?_
 refine vc_region hm ?_
 refine gM trivial (.inl rfl) rfl rfl rfl ?_
 refine gM trivial (.inl rfl) rfl rfl rfl ?_
 refine gK trivial rfl rfl rfl rfl rfl rfl (hls_nil tabV_nil) ?_
 refine gI trivial rfl rfl rfl rfl rfl rfl ?_
 refine rg_nil nofun ?_
 refine cI rfl (fun c9=>?_) (fun c9=>?_)
 ·skip
  have p9:=of_decide_eq_true c9
  refine vc_skip ?_
  refine vc_seq ?_
  refine vc_block ?_
  refine vc_region hm ?_
  refine gM trivial (.inl rfl) rfl rfl rfl ?_
  refine gR (u':=5) trivial rfl rfl rfl rfl rfl rfl rfl rfl rfl rfl rfl rfl rfl rfl ?_
  refine gM trivial (.inl rfl) rfl rfl rfl ?_
  refine gM trivial (.inl rfl) rfl rfl rfl ?_
  refine gX trivial rfl rfl rfl rfl rfl rfl rfl rfl (by omega) p9 (fun h=>hls_ne (tabV_ne h)) ?_
  refine gF trivial rfl rfl rfl rfl rfl ?_
  refine gL trivial rfl rfl rfl rfl rfl rfl rfl (lH0k (by omega) p9) ?_
  refine gApi (u':=6) trivial rfl rfl rfl rfl rfl rfl rfl rfl rfl rfl rfl rfl (inF_0 (by omega) p9) rfl (cp_len _) (cp_leaf _) (show (0 + (at_ T (j:Int)).r.length) * (16 + 1)≤140737488355328 by have:=hB _ (at_mem (by omega) p9);omega) (cp_eq _) (Nat.zero_add _) ?_
  refine gR (u':=7) trivial rfl rfl rfl rfl rfl rfl rfl rfl rfl rfl rfl rfl rfl rfl ?_
  refine gM trivial (.inl rfl) rfl rfl rfl ?_
  refine gM trivial (.inl rfl) rfl rfl rfl ?_
  refine gX trivial rfl rfl rfl rfl rfl rfl rfl rfl (by omega) p9 (fun h=>hls_ne (tabV_ne h)) ?_
  refine gF trivial rfl rfl rfl rfl rfl ?_
  refine gL trivial rfl rfl rfl rfl rfl rfl rfl (lH1k (by omega) p9) ?_
  refine gApi (u':=8) trivial rfl rfl rfl rfl rfl rfl rfl rfl rfl rfl rfl rfl (inF_1 (by omega) p9) rfl (cp_len _) (cp_leaf _) (show (0 + (at_ T (j:Int)).w.length) * (16 + 1)≤140737488355328 by have:=hB _ (at_mem (by omega) p9);omega) (cp_eq _) (Nat.zero_add _) ?_
  refine gU trivial rfl rfl rfl rfl rfl rfl rfl rfl ?_
  refine gR (u':=9) trivial rfl rfl rfl rfl rfl rfl rfl rfl rfl rfl rfl rfl rfl rfl ?_
  refine gAp (u':=10) trivial rfl rfl rfl rfl rfl rfl rfl rfl rfl rfl rfl rfl (by rw [rowL_len (n:=2) (fun _=>rfl),tabV_len,take_len' (by omega)]) (Nat.le_refl _) rfl (show (j + 1) * (48 + 1)≤140737488355328 by omega) (row_snoc (enc:=eHv) (x:=⟨.slice (some ⟨5,0,none⟩) (at_ T (j:Int)).r.length 0,.slice (some ⟨7,0,none⟩) (at_ T (j:Int)).w.length 0⟩)) rfl ?_
  refine gM trivial (.inr rfl) rfl rfl rfl ?_
  refine rg_nil (fun _=>by kernel_rfl) ?_
  refine vc_region hm ?_
  refine gM trivial (.inl rfl) rfl rfl rfl ?_
  refine gA trivial rfl rfl rfl rfl rfl rfl (by omega) ?_
  refine gM trivial (.inr rfl) rfl rfl rfl ?_
  refine rg_nil nofun ?_
  exact lp_nextT ⟨j + 1,(by omega),rfl,rfl⟩ (by omega) (re_fold (ms:=[0,1,9,3]) (C:=3) (C':=3) (i:=2 * (j)) (a:=5) (b:=7) rfl ⟨⟨⟨rfl,rfl⟩,rfl⟩,⟨⟨rfl,rfl⟩,rfl⟩,⟨⟨rfl,rfl⟩,rfl⟩,trivial⟩ ⟨ktTab (k:=kk) rfl rfl (.inr (.inl rfl)) id rfl rfl,ktIn rfl id rfl,ktTabC rfl (ap_x p9) (fun _=>ap_i p9) (fun i h h'=>ap_j p9 h h') (.inr (.inl rfl)) id rfl rfl,kPutC (fun i h h'=>ap_g p9 h h') (ap_ho p9) rfl rfl rfl (.inr ⟨.inl rfl,.inr ⟨by decide,by decide,by decide⟩,.inr ⟨by decide,by decide,by decide⟩⟩) (fun _=>⟨rfl,rfl,rfl⟩) rfl,trivial⟩ rfl rfl (rig_of rfl) rfl rfl)
 ·skip
  have p9:=of_decide_eq_false c9
  refine vc_exit ?_
  refine vc_seq ?_
  refine vc_region hm ?_
  refine gM trivial (.inl rfl) rfl rfl rfl ?_
  refine gM trivial (.inr rfl) rfl rfl rfl ?_
  refine rg_nil nofun ?_
  refine vc_ret ?_
  obtain rfl:j=T.length:=by omega
  rw [List.take_length]
  exact ⟨_,endsT [(2,2,one ⟨rHv (tabV 3 zo T),46,2⟩),(3,3,inF zo 28 77 T)] (.inr rfl) (.tmp rfl rfl .nil) rfl rfl trivial ⟨asTab rfl rfl rfl,asIn rfl,trivial⟩ rfl⟩
theorem spec_l4Put_c {T:List Ho} {who:Int} {h:Ho} {kk cc:Nat} (hT:T.length≤1048576) (hB:∀ h ∈ T,h.r.length≤1048576∧h.w.length≤1048576) (hr:h.r.length≤1048576) (hw:h.w.length≤1048576) (hwho:0≤who∧who<3) (hT3:T.length=3):FDoes Try.prog 65 [.slice (some ⟨0,kk,none⟩) T.length cc,.int .i64 who,.agg #[.slice (some ⟨2,0,none⟩) h.r.length 0,.slice (some ⟨3,0,none⟩) h.w.length 0]] (hp [(0,false,one ⟨hls kk (rHv (tabV 1 zo T)),46,0⟩),(1,false,inF zo 28 0 T),(2,false,one ⟨rSp h.r,28,0⟩),(3,false,one ⟨rSp h.w,28,0⟩)]) (mkF (.tuple #[.slice (some ⟨4,0,none⟩) (repT T who h).length 0,.bool (lockOk (setH T who h))]) [0,1,2,3] [] [(4,one ⟨rHv (tabV 5 zo (repT T who h)),46,2⟩),(5,inF zo 28 77 (repT T who h))]):=by
 have hm:Try.prog.follows .mixedOrders=true:=by kernel_rfl
 have hd_:∀ x_ ∈ ([(0,false,one ⟨hls kk (rHv (tabV 1 zo T)),46,0⟩),(1,false,inF zo 28 0 T),(2,false,one ⟨rSp h.r,28,0⟩),(3,false,one ⟨rSp h.w,28,0⟩)]:List (Nat × Bool × Fam)),∀ k_ y_,x_.2.2 k_=some y_→DetB (lt 4) y_:=by
  intro x_ hx k_ y_ e
  simp only [List.mem_cons,List.not_mem_nil,or_false] at hx
  rcases hx with rfl|rfl|rfl|rfl
  ·exact det_tab (k0:=kk) rfl e
  ·exact det_in e
  ·exact det_row (rSp_flat h.r) e
  ·exact det_row (rSp_flat h.w) e
 refine fn_exact (u0:=4) Try.func65 rfl rfl (gets rfl rfl rfl hd_ rfl) ?_
 clear hd_
 refine vc_seq ?_
 refine vc_region hm ?_
 refine gB (u':=5) trivial rfl rfl rfl rfl rfl rfl rfl rfl ?_
 refine gM trivial (.inr rfl) rfl rfl rfl ?_
 refine gM trivial (.inr rfl) rfl rfl rfl ?_
 refine rg_nil nofun ?_
 refine vc_seq ?_
 refine vc_region hm ?_
 refine gM trivial (.inl rfl) rfl rfl rfl ?_
 refine gCT (as':=[(5,one ⟨rHv (tabV 6 zo T),46,2⟩),(6,inF zo 28 77 T)]) (v':=.slice (some ⟨5,0,none⟩) T.length 0) 7 [nA (nm 0 (0)),nF 1,nF 5,nF 6] [0,1] (spec_l4Copy_c (T:=T) hT hB) trivial rfl rfl rfl rfl rfl ⟨aTab (k:=kk) rfl rfl rfl rfl (.inl rfl) (.inl rfl) rfl rfl,aIn rfl rfl (.inl rfl) (.inl rfl) rfl,trivial⟩ ⟨rTab rfl rfl rfl,rIn rfl,trivial⟩ ⟨rfl,rfl⟩ rfl rfl rfl ?_
 refine gM trivial (.inr rfl) rfl rfl rfl ?_
 refine rg_nil nofun ?_
 refine vc_seq ?_
 refine vc_region hm ?_
 refine gM trivial (.inl rfl) rfl rfl rfl ?_
 refine gM trivial (.inl rfl) rfl rfl rfl ?_
 refine gL trivial rfl rfl rfl rfl rfl rfl rfl rfl ?_
 refine gX trivial rfl rfl rfl rfl rfl rfl rfl rfl (by omega) (by omega) tabV_ne ?_
 refine gT trivial rfl rfl rfl rfl rfl rfl rfl rfl rfl rfl (show 0 + who.toNat * 2 + 2≤_ from by rw [rowL_len (n:=2) (fun _=>rfl),tabV_len];omega) (tab_put (i:=who.toNat) (show 0 + who.toNat * 2=who.toNat * 2 by omega) (by rw [tabV_len];omega)) ?_
 refine rg_nil nofun ?_
 refine vc_seq ?_
 refine vc_seq ?_
 refine vc_region hm ?_
 refine gM trivial (.inl rfl) rfl rfl rfl ?_
 refine gCT0 [nA (nm 5 (0)),nX 6 (2 * who.toNat) 2 3] [5,6,2,3] (spec_LockOk_c (T:=(setH T who h)) (by rw [setH_len];exact hT) (setH_B hB ⟨hr,hw⟩)) trivial rfl rfl rfl (by rw [setH_len];rfl) rfl ⟨aTabX rfl rfl rfl rfl set_xl (fun q=>set_i hwho.1 q) (fun j q q'=>set_j q q') (.inl rfl) (.inl rfl) rfl rfl,aInX rfl rfl rfl rfl (fun j q _=>set_g q) (set_at (by omega)) rfl,trivial⟩ rfl rfl rfl rfl ?_
 refine gN trivial rfl rfl rfl rfl ?_
 refine rg_nil nofun ?_
 refine cI rfl (fun c17=>?_) (fun c17=>?_)
 ·skip
  have n17:=unT c17
  refine vc_seq ?_
  refine vc_region hm ?_
  refine gM trivial (.inl rfl) rfl rfl rfl ?_
  refine gCT (as':=[(7,one ⟨rHv (tabV 8 zo T),46,2⟩),(8,inF zo 28 77 T)]) (v':=.slice (some ⟨7,0,none⟩) T.length 0) 9 [nA (nm 0 (0)),nF 1,nF 7,nF 8] [0,1] (spec_l4Copy_c (T:=T) hT hB) trivial rfl rfl rfl rfl rfl ⟨aTab (k:=kk) rfl rfl rfl rfl (.inl rfl) (.inl rfl) rfl rfl,aIn rfl rfl (.inl rfl) (.inl rfl) rfl,trivial⟩ ⟨rTab rfl rfl rfl,rIn rfl,trivial⟩ ⟨rfl,rfl⟩ rfl rfl rfl ?_
  refine gM trivial (.inr rfl) rfl rfl rfl ?_
  refine gM trivial (.inr rfl) rfl rfl rfl ?_
  refine rg_nil nofun ?_
  refine vc_ret ?_
  rw [repT_F n17,n17]
  exact ⟨_,endsT [(4,7,one ⟨rHv (tabV 5 zo T),46,2⟩),(5,8,inF zo 28 77 T)] (.inr rfl) (.tmp rfl rfl (.tmp rfl rfl .nil)) rfl rfl trivial ⟨asTab rfl rfl rfl,asIn rfl,trivial⟩ rfl⟩
 ·skip
  have n17:=unF c17
  refine vc_skip ?_
  refine vc_seq ?_
  refine vc_region hm ?_
  refine gM trivial (.inl rfl) rfl rfl rfl ?_
  refine gCT (as':=[(7,one ⟨rHv (tabV 8 zo (setH T who h)),46,2⟩),(8,inF zo 28 77 (setH T who h))]) (v':=.slice (some ⟨7,0,none⟩) (setH T who h).length 0) 9 [nA (nm 5 (0)),nX 6 (2 * who.toNat) 2 3,nF 7,nF 8] [5,6,2,3] (spec_l4Copy_c (T:=(setH T who h)) (by rw [setH_len];exact hT) (setH_B hB ⟨hr,hw⟩)) trivial rfl rfl rfl (by rw [setH_len];rfl) rfl ⟨aTabX rfl rfl rfl rfl set_xl (fun q=>set_i hwho.1 q) (fun j q q'=>set_j q q') (.inl rfl) (.inl rfl) rfl rfl,aInX rfl rfl rfl rfl (fun j q _=>set_g q) (set_at (by omega)) rfl,trivial⟩ ⟨rTab rfl rfl rfl,rIn rfl,trivial⟩ ⟨rfl,rfl⟩ rfl rfl rfl ?_
  refine gM trivial (.inr rfl) rfl rfl rfl ?_
  refine gM trivial (.inr rfl) rfl rfl rfl ?_
  refine rg_nil nofun ?_
  refine vc_ret ?_
  rw [repT_T n17,n17]
  exact ⟨_,endsT [(4,7,one ⟨rHv (tabV 5 zo (setH T who h)),46,2⟩),(5,8,inF zo 28 77 (setH T who h))] (.inr rfl) (.tmp rfl rfl (.tmp rfl rfl .nil)) rfl rfl trivial ⟨asTab rfl rfl rfl,asIn rfl,trivial⟩ rfl⟩
theorem spec_l4Who_c (who:Int):FDoes Try.prog 54 [.int .i64 who] (hp []) { v:=.bool (whoOk who) }:=by
 have hm:Try.prog.follows .mixedOrders=true:=by kernel_rfl
 have hd_:∀ x ∈ ([]:List (Nat × Bool × Fam)),∀ k y,x.2.2 k=some y→DetB (lt 0) y:=fun x_ hx=>(by cases hx)
 refine fn_exact (u0:=0) Try.func54 rfl rfl (gets rfl rfl rfl hd_ rfl) ?_
 clear hd_
 refine vc_seq ?_
 refine vc_region hm ?_
 refine gM trivial (.inr rfl) rfl rfl rfl ?_
 refine rg_nil nofun ?_
 refine vc_seq ?_
 refine vc_region hm ?_
 refine gM trivial (.inl rfl) rfl rfl rfl ?_
 refine gI trivial rfl rfl rfl rfl rfl rfl ?_
 refine gM trivial (.inl rfl) rfl rfl rfl ?_
 refine gI2 (d:=5) rfl (fun c5=>?_) (fun c5=>?_)
 ·skip
  have p5:=of_decide_eq_true c5
  refine gM ⟨_,_,rfl,rfl,c5⟩ (.inl rfl) rfl rfl rfl ?_
  refine gI ⟨_,_,rfl,rfl,c5⟩ rfl rfl rfl rfl rfl rfl ?_
  refine gPT trivial rfl rfl c5 rfl rfl rfl ?_
  refine gM trivial (.inr rfl) rfl rfl rfl ?_
  refine rg_nil nofun ?_
  refine vc_ret ?_
  exact ⟨idm,ends0 (.inr rfl) rfl (eqB (by unfold whoOk;first|exact decide_eq_true (by omega)|exact decide_eq_false (by omega)|exact decide_eq_decide.2 (by omega))) rfl rfl rfl⟩
 ·skip
  have p5:=of_decide_eq_false c5
  refine gO ⟨_,_,rfl,rfl,c5⟩ rfl rfl ?_
  refine gO ⟨_,_,rfl,rfl,c5⟩ rfl rfl ?_
  refine gPF trivial rfl rfl c5 rfl rfl rfl ?_
  refine gM trivial (.inr rfl) rfl rfl rfl ?_
  refine rg_nil nofun ?_
  refine vc_ret ?_
  exact ⟨idm,ends0 (.inr rfl) rfl (eqB (by unfold whoOk;first|exact decide_eq_true (by omega)|exact decide_eq_false (by omega)|exact decide_eq_decide.2 (by omega))) rfl rfl rfl⟩
theorem client_c (who:Int):FDoes Try.prog 51 [.int .i64 who] (hp []) { v:=.bool (whoOk who) }:=by
 have hm:Try.prog.follows .mixedOrders=true:=by kernel_rfl
 have hd_:∀ x ∈ ([]:List (Nat × Bool × Fam)),∀ k y,x.2.2 k=some y→DetB (lt 0) y:=fun x_ hx=>(by cases hx)
 refine fn_exact (u0:=0) Try.func51 rfl rfl (gets rfl rfl rfl hd_ rfl) ?_
 clear hd_
 refine vc_seq ?_
 refine vc_region hm ?_
 refine gM trivial (.inr rfl) rfl rfl rfl ?_
 refine rg_nil nofun ?_
 refine vc_seq ?_
 refine vc_region hm ?_
 refine gM trivial (.inl rfl) rfl rfl rfl ?_
 refine gI trivial rfl rfl rfl rfl rfl rfl ?_
 refine gM trivial (.inl rfl) rfl rfl rfl ?_
 refine gI2 (d:=5) rfl (fun c5=>?_) (fun c5=>?_)
 ·skip
  have p5:=of_decide_eq_true c5
  refine gM ⟨_,_,rfl,rfl,c5⟩ (.inl rfl) rfl rfl rfl ?_
  refine gI ⟨_,_,rfl,rfl,c5⟩ rfl rfl rfl rfl rfl rfl ?_
  refine gPT trivial rfl rfl c5 rfl rfl rfl ?_
  refine gM trivial (.inr rfl) rfl rfl rfl ?_
  refine rg_nil nofun ?_
  refine vc_ret ?_
  exact ⟨idm,ends0 (.inr rfl) rfl (eqB (by unfold whoOk;first|exact decide_eq_true (by omega)|exact decide_eq_false (by omega)|exact decide_eq_decide.2 (by omega))) rfl rfl rfl⟩
 ·skip
  have p5:=of_decide_eq_false c5
  refine gO ⟨_,_,rfl,rfl,c5⟩ rfl rfl ?_
  refine gO ⟨_,_,rfl,rfl,c5⟩ rfl rfl ?_
  refine gPF trivial rfl rfl c5 rfl rfl rfl ?_
  refine gM trivial (.inr rfl) rfl rfl rfl ?_
  refine rg_nil nofun ?_
  refine vc_ret ?_
  exact ⟨idm,ends0 (.inr rfl) rfl (eqB (by unfold whoOk;first|exact decide_eq_true (by omega)|exact decide_eq_false (by omega)|exact decide_eq_decide.2 (by omega))) rfl rfl rfl⟩
theorem spec_l4Bars_c {T:List Ho} {who:Int} {write:Bool} {s:Sp} {kk cc:Nat} (hT:T.length≤1048576) (hB:∀ h ∈ T,h.r.length≤1048576∧h.w.length≤1048576):FDoes Try.prog 68 [.slice (some ⟨0,kk,none⟩) T.length cc,.int .i64 who,.bool write,vSp s] (hp [(0,false,one ⟨hls kk (rHv (tabV 1 zo T)),46,0⟩),(1,false,inF zo 28 0 T)]) (mkF (.slice (some ⟨2,0,none⟩) (barsL T who write s T.length).length 0) [0,1] [] [(2,one ⟨rI (barsL T who write s T.length),3,1⟩)]):=by
 have hm:Try.prog.follows .mixedOrders=true:=by kernel_rfl
 have hd_:∀ x_ ∈ ([(0,false,one ⟨hls kk (rHv (tabV 1 zo T)),46,0⟩),(1,false,inF zo 28 0 T)]:List (Nat × Bool × Fam)),∀ k_ y_,x_.2.2 k_=some y_→DetB (lt 2) y_:=by
  intro x_ hx k_ y_ e
  simp only [List.mem_cons,List.not_mem_nil,or_false] at hx
  rcases hx with rfl|rfl
  ·exact det_tab (k0:=kk) rfl e
  ·exact det_in e
 refine fn_exact (u0:=2) Try.func68 rfl rfl (gets rfl rfl rfl hd_ rfl) ?_
 clear hd_
 refine vc_seq ?_
 refine vc_region hm ?_
 refine gB (u':=3) trivial rfl rfl rfl rfl rfl rfl rfl rfl ?_
 refine gM trivial (.inr rfl) rfl rfl rfl ?_
 refine rg_nil nofun ?_
 refine vc_seq ?_
 refine vc_region hm ?_
 refine gR (u':=4) trivial rfl rfl rfl rfl rfl rfl rfl rfl rfl rfl rfl rfl rfl rfl ?_
 refine gM trivial (.inr rfl) rfl rfl rfl ?_
 refine rg_nil nofun ?_
 refine vc_seq ?_
 refine vc_region hm ?_
 refine gL trivial rfl rfl rfl rfl rfl rfl rfl rfl ?_
 refine gR (u':=5) (out:=rSp [s]) trivial rfl rfl rfl rfl rfl rfl rfl rfl rfl rfl rfl rfl rfl rfl ?_
 refine gM trivial (.inr rfl) rfl rfl rfl ?_
 refine rg_nil nofun ?_
 refine vc_seq ?_
 refine vc_seq ?_
 refine vc_region hm ?_
 refine gM trivial (.inr rfl) rfl rfl rfl ?_
 refine rg_nil nofun ?_
 refine vc_block ?_
 refine vc_loopT (fun n_ S_=>∃ (j:Nat),j≤T.length∧n_=T.length - j∧S_=⟨5,[(0,.slice (some ⟨0,kk,none⟩) T.length cc),(1,.int .i64 who),(2,.bool write),(7,.pointer (some ⟨2,0,none⟩)),(9,.slice (some ⟨3,0,none⟩) (barsL T who write s j).length 0),(10,.slice (some ⟨4,0,none⟩) 1 0),(11,.int .i64 j)],[(0,false,one ⟨hls kk (rHv (tabV 1 zo T)),46,0⟩),(1,false,inF zo 28 0 T),(2,true,one ⟨[.int .i64 s.lo,.int .i64 s.hi],28,2⟩),(3,true,one ⟨rI (barsL T who write s j),3,1⟩),(4,true,one ⟨rSp [s],28,2⟩)]⟩) ⟨0,Nat.zero_le _,rfl,rfl⟩ (re_nil (ms:=[0,1,2,3,4]) (C:=999) rfl ⟨⟨⟨rfl,rfl⟩,rfl⟩,⟨⟨rfl,rfl⟩,rfl⟩,⟨⟨rfl,rfl⟩,rfl⟩,⟨⟨rfl,rfl⟩,rfl⟩,⟨⟨rfl,rfl⟩,rfl⟩,⟨⟨rfl,rfl⟩,rfl⟩,⟨⟨rfl,rfl⟩,rfl⟩,trivial⟩ ⟨ktTab (k:=kk) rfl rfl (.inr (.inl rfl)) id rfl rfl,ktIn rfl id rfl,ktFlat rfl rfl (.inr (.inl rfl)) id rfl,ktFlat rfl rfl (.inr (.inl rfl)) id rfl,ktFlat (rSp_flat _) rfl (.inr (.inl rfl)) id rfl,trivial⟩ rfl rfl (rig_of rfl) rfl) ?_
 rintro n_ S_ ⟨j,hj,rfl,rfl⟩
 refine vc_seq ?_
 refine vc_seq ?_
 refine vc_region hm ?_
 refine gM trivial (.inl rfl) rfl rfl rfl ?_
 refine gM trivial (.inl rfl) rfl rfl rfl ?_
 refine gK trivial rfl rfl rfl rfl rfl rfl (hls_nil tabV_nil) ?_
 refine gI trivial rfl rfl rfl rfl rfl rfl ?_
 refine rg_nil nofun ?_
 refine cI rfl (fun c18=>?_) (fun c18=>?_)
 ·skip
  have p18:=of_decide_eq_true c18
  refine vc_skip ?_
  refine vc_seq ?_
  refine vc_block ?_
  refine vc_seq ?_
  refine vc_region hm ?_
  refine gM trivial (.inl rfl) rfl rfl rfl ?_
  refine gM trivial (.inl rfl) rfl rfl rfl ?_
  refine gI trivial rfl rfl rfl rfl rfl rfl ?_
  refine gM trivial (.inl rfl) rfl rfl rfl ?_
  refine gI2 (d:=24) rfl (fun c24=>?_) (fun c24=>?_)
  ·skip
   have p24:=bne_iff_ne.1 c24
   refine gM ⟨_,_,rfl,rfl,c24⟩ (.inl rfl) rfl rfl rfl ?_
   refine gM ⟨_,_,rfl,rfl,c24⟩ (.inl rfl) rfl rfl rfl ?_
   refine gX ⟨_,_,rfl,rfl,c24⟩ rfl rfl rfl rfl rfl rfl rfl rfl (by omega) p18 (fun h=>hls_ne (tabV_ne h)) ?_
   refine gF ⟨_,_,rfl,rfl,c24⟩ rfl rfl rfl rfl rfl ?_
   refine gL ⟨_,_,rfl,rfl,c24⟩ rfl rfl rfl rfl rfl rfl rfl (lH1k (by omega) p18) ?_
   refine gM ⟨_,_,rfl,rfl,c24⟩ (.inl rfl) rfl rfl rfl ?_
   refine gCT0 [nA (nm 1 (2 * ((j:Int)).toNat + 1)),nA (nm 4 (0))] [1,4] (spec_l4Clear_c (a:=(at_ T (j:Int)).w) (b:=[s]) (hB _ (at_mem (by omega) p18)).2 (show 1≤1048576 by decide)) ⟨_,_,rfl,rfl,c24⟩ rfl rfl rfl rfl rfl ⟨aRow rfl (rSp_flat _) rfl (inF_1 (by omega) p18) (.inl rfl) (.inl rfl) rfl,aRow rfl (rSp_flat [s]) rfl rfl (.inl rfl) (.inl rfl) rfl,trivial⟩ rfl rfl rfl rfl ?_
   refine gN ⟨_,_,rfl,rfl,c24⟩ rfl rfl rfl rfl ?_
   refine gM ⟨_,_,rfl,rfl,c24⟩ (.inl rfl) rfl rfl rfl ?_
   refine gI2 (d:=33) rfl (fun c33=>?_) (fun c33=>?_)
   ·skip
    have n33:=unT c33
    refine gO ⟨_,_,rfl,rfl,c33⟩ rfl rfl ?_
    refine gO ⟨_,_,rfl,rfl,c33⟩ rfl rfl ?_
    refine gO ⟨_,_,rfl,rfl,trivial⟩ rfl rfl ?_
    refine gO ⟨_,_,rfl,rfl,trivial⟩ rfl rfl ?_
    refine gO ⟨_,_,rfl,rfl,trivial⟩ rfl rfl ?_
    refine gO ⟨_,_,rfl,rfl,trivial⟩ rfl rfl ?_
    refine gO ⟨_,_,rfl,rfl,trivial⟩ rfl rfl ?_
    refine gO ⟨_,_,rfl,rfl,trivial⟩ rfl rfl ?_
    refine gO ⟨_,_,rfl,rfl,trivial⟩ rfl rfl ?_
    refine gO ⟨_,_,rfl,rfl,trivial⟩ rfl rfl ?_
    refine gO ⟨_,_,rfl,rfl,c33⟩ rfl rfl ?_
    refine gPT ⟨_,_,rfl,rfl,c24⟩ rfl rfl c33 rfl rfl rfl ?_
    refine gPT trivial rfl rfl c24 rfl rfl rfl ?_
    refine rg_nil nofun ?_
    refine cT rfl rfl ?_
    refine vc_region hm ?_
    refine gM trivial (.inl rfl) rfl rfl rfl ?_
    refine gM trivial (.inl rfl) rfl rfl rfl ?_
    refine gR (u':=6) (out:=rI [(j:Int)]) trivial rfl rfl rfl rfl rfl rfl rfl rfl rfl rfl rfl rfl rfl rfl ?_
    refine gAp (u':=7) trivial rfl rfl rfl rfl rfl rfl rfl rfl rfl rfl rfl rfl (by rw [rowL_len (n:=1) (fun _=>rfl)]) (Nat.le_refl _) rfl (show ((barsL T who write s j).length + 1) * (8 + 1)≤140737488355328 by have:=bars_len (T:=T) (who:=who) (write:=write) (s:=s) j;omega) (row_snoc (enc:=eI) (x:=(j:Int))) rfl ?_
    refine gM trivial (.inr rfl) rfl rfl rfl ?_
    refine rg_nil nofun ?_
    refine vc_region hm ?_
    refine gM trivial (.inl rfl) rfl rfl rfl ?_
    refine gA trivial rfl rfl rfl rfl rfl rfl (by omega) ?_
    refine gM trivial (.inr rfl) rfl rfl rfl ?_
    refine rg_nil nofun ?_
    exact lp_nextT ⟨j + 1,(by omega),rfl,rfl⟩ (by omega) (re_nil (ms:=[0,1,2,6,4]) (C:=999) rfl ⟨⟨⟨rfl,rfl⟩,rfl⟩,⟨⟨rfl,rfl⟩,rfl⟩,⟨⟨rfl,rfl⟩,rfl⟩,⟨⟨rfl,rfl⟩,rfl⟩,⟨⟨rfl,eqSl (by rw [← bars_T (barS_2 p24 n33)];simp)⟩,rfl⟩,⟨⟨rfl,rfl⟩,rfl⟩,⟨⟨rfl,rfl⟩,rfl⟩,trivial⟩ ⟨ktTab (k:=kk) rfl rfl (.inr (.inl rfl)) id rfl rfl,ktIn rfl id rfl,ktFlat rfl rfl (.inr (.inl rfl)) id rfl,ktFlat (rI_flat _) (eqH (congrArg rI (bars_T (barS_2 p24 n33)))) (.inr (.inl rfl)) id rfl,ktFlat (rSp_flat _) rfl (.inr (.inl rfl)) id rfl,trivial⟩ rfl rfl (rig_of rfl) rfl)
   ·skip
    have n33:=unF c33
    refine gM ⟨_,_,rfl,rfl,c33⟩ (.inl rfl) rfl rfl rfl ?_
    refine gM ⟨_,_,rfl,rfl,c33⟩ (.inl rfl) rfl rfl rfl ?_
    refine gI2 (d:=35) rfl (fun c35=>?_) (fun c35=>?_)
    ·skip
     refine gM ⟨_,_,rfl,rfl,c35⟩ (.inl rfl) rfl rfl rfl ?_
     refine gM ⟨_,_,rfl,rfl,c35⟩ (.inl rfl) rfl rfl rfl ?_
     refine gX ⟨_,_,rfl,rfl,c35⟩ rfl rfl rfl rfl rfl rfl rfl rfl (by omega) p18 (fun h=>hls_ne (tabV_ne h)) ?_
     refine gF ⟨_,_,rfl,rfl,c35⟩ rfl rfl rfl rfl rfl ?_
     refine gL ⟨_,_,rfl,rfl,c35⟩ rfl rfl rfl rfl rfl rfl rfl (lH0k (by omega) p18) ?_
     refine gM ⟨_,_,rfl,rfl,c35⟩ (.inl rfl) rfl rfl rfl ?_
     refine gCT0 [nA (nm 1 (2 * ((j:Int)).toNat)),nA (nm 4 (0))] [1,4] (spec_l4Clear_c (a:=(at_ T (j:Int)).r) (b:=[s]) (hB _ (at_mem (by omega) p18)).1 (show 1≤1048576 by decide)) ⟨_,_,rfl,rfl,c35⟩ rfl rfl rfl rfl rfl ⟨aRow rfl (rSp_flat _) rfl (inF_0 (by omega) p18) (.inl rfl) (.inl rfl) rfl,aRow rfl (rSp_flat [s]) rfl rfl (.inl rfl) (.inl rfl) rfl,trivial⟩ rfl rfl rfl rfl ?_
     refine gN ⟨_,_,rfl,rfl,c35⟩ rfl rfl rfl rfl ?_
     refine gPT ⟨_,_,rfl,rfl,c33⟩ rfl rfl c35 rfl rfl rfl ?_
     refine gPF ⟨_,_,rfl,rfl,c24⟩ rfl rfl c33 rfl rfl rfl ?_
     refine gPT trivial rfl rfl c24 rfl rfl rfl ?_
     refine rg_nil nofun ?_
     refine cI rfl (fun c46=>?_) (fun c46=>?_)
     ·skip
      have n46:=unT c46
      refine vc_region hm ?_
      refine gM trivial (.inl rfl) rfl rfl rfl ?_
      refine gM trivial (.inl rfl) rfl rfl rfl ?_
      refine gR (u':=6) (out:=rI [(j:Int)]) trivial rfl rfl rfl rfl rfl rfl rfl rfl rfl rfl rfl rfl rfl rfl ?_
      refine gAp (u':=7) trivial rfl rfl rfl rfl rfl rfl rfl rfl rfl rfl rfl rfl (by rw [rowL_len (n:=1) (fun _=>rfl)]) (Nat.le_refl _) rfl (show ((barsL T who write s j).length + 1) * (8 + 1)≤140737488355328 by have:=bars_len (T:=T) (who:=who) (write:=write) (s:=s) j;omega) (row_snoc (enc:=eI) (x:=(j:Int))) rfl ?_
      refine gM trivial (.inr rfl) rfl rfl rfl ?_
      refine rg_nil nofun ?_
      refine vc_region hm ?_
      refine gM trivial (.inl rfl) rfl rfl rfl ?_
      refine gA trivial rfl rfl rfl rfl rfl rfl (by omega) ?_
      refine gM trivial (.inr rfl) rfl rfl rfl ?_
      refine rg_nil nofun ?_
      exact lp_nextT ⟨j + 1,(by omega),rfl,rfl⟩ (by omega) (re_nil (ms:=[0,1,2,6,4]) (C:=999) rfl ⟨⟨⟨rfl,rfl⟩,rfl⟩,⟨⟨rfl,rfl⟩,rfl⟩,⟨⟨rfl,rfl⟩,rfl⟩,⟨⟨rfl,rfl⟩,rfl⟩,⟨⟨rfl,eqSl (by rw [← bars_T (barS_4 p24 c35 n46)];simp)⟩,rfl⟩,⟨⟨rfl,rfl⟩,rfl⟩,⟨⟨rfl,rfl⟩,rfl⟩,trivial⟩ ⟨ktTab (k:=kk) rfl rfl (.inr (.inl rfl)) id rfl rfl,ktIn rfl id rfl,ktFlat rfl rfl (.inr (.inl rfl)) id rfl,ktFlat (rI_flat _) (eqH (congrArg rI (bars_T (barS_4 p24 c35 n46)))) (.inr (.inl rfl)) id rfl,ktFlat (rSp_flat _) rfl (.inr (.inl rfl)) id rfl,trivial⟩ rfl rfl (rig_of rfl) rfl)
     ·skip
      have n46:=unF c46
      refine vc_skip ?_
      refine vc_region hm ?_
      refine gM trivial (.inl rfl) rfl rfl rfl ?_
      refine gA trivial rfl rfl rfl rfl rfl rfl (by omega) ?_
      refine gM trivial (.inr rfl) rfl rfl rfl ?_
      refine rg_nil nofun ?_
      exact lp_nextT ⟨j + 1,(by omega),rfl,rfl⟩ (by omega) (re_nil (ms:=[0,1,2,3,4]) (C:=999) rfl ⟨⟨⟨rfl,rfl⟩,rfl⟩,⟨⟨rfl,rfl⟩,rfl⟩,⟨⟨rfl,rfl⟩,rfl⟩,⟨⟨rfl,rfl⟩,rfl⟩,⟨⟨rfl,eqSl (by rw [← bars_F (barS_5 n33 n46)])⟩,rfl⟩,⟨⟨rfl,rfl⟩,rfl⟩,⟨⟨rfl,rfl⟩,rfl⟩,trivial⟩ ⟨ktTab (k:=kk) rfl rfl (.inr (.inl rfl)) id rfl rfl,ktIn rfl id rfl,ktFlat rfl rfl (.inr (.inl rfl)) id rfl,ktFlat (rI_flat _) (eqH (congrArg rI (bars_F (barS_5 n33 n46)))) (.inr (.inl rfl)) id rfl,ktFlat (rSp_flat _) rfl (.inr (.inl rfl)) id rfl,trivial⟩ rfl rfl (rig_of rfl) rfl)
    ·skip
     refine gO ⟨_,_,rfl,rfl,c35⟩ rfl rfl ?_
     refine gO ⟨_,_,rfl,rfl,c35⟩ rfl rfl ?_
     refine gO ⟨_,_,rfl,rfl,c35⟩ rfl rfl ?_
     refine gO ⟨_,_,rfl,rfl,c35⟩ rfl rfl ?_
     refine gO ⟨_,_,rfl,rfl,c35⟩ rfl rfl ?_
     refine gO ⟨_,_,rfl,rfl,c35⟩ rfl rfl ?_
     refine gO ⟨_,_,rfl,rfl,c35⟩ rfl rfl ?_
     refine gO ⟨_,_,rfl,rfl,c35⟩ rfl rfl ?_
     refine gPF ⟨_,_,rfl,rfl,c33⟩ rfl rfl c35 rfl rfl rfl ?_
     refine gPF ⟨_,_,rfl,rfl,c24⟩ rfl rfl c33 rfl rfl rfl ?_
     refine gPT trivial rfl rfl c24 rfl rfl rfl ?_
     refine rg_nil nofun ?_
     refine cF rfl rfl ?_
     refine vc_skip ?_
     refine vc_region hm ?_
     refine gM trivial (.inl rfl) rfl rfl rfl ?_
     refine gA trivial rfl rfl rfl rfl rfl rfl (by omega) ?_
     refine gM trivial (.inr rfl) rfl rfl rfl ?_
     refine rg_nil nofun ?_
     exact lp_nextT ⟨j + 1,(by omega),rfl,rfl⟩ (by omega) (re_nil (ms:=[0,1,2,3,4]) (C:=999) rfl ⟨⟨⟨rfl,rfl⟩,rfl⟩,⟨⟨rfl,rfl⟩,rfl⟩,⟨⟨rfl,rfl⟩,rfl⟩,⟨⟨rfl,rfl⟩,rfl⟩,⟨⟨rfl,eqSl (by rw [← bars_F (barS_3 n33 c35)])⟩,rfl⟩,⟨⟨rfl,rfl⟩,rfl⟩,⟨⟨rfl,rfl⟩,rfl⟩,trivial⟩ ⟨ktTab (k:=kk) rfl rfl (.inr (.inl rfl)) id rfl rfl,ktIn rfl id rfl,ktFlat rfl rfl (.inr (.inl rfl)) id rfl,ktFlat (rI_flat _) (eqH (congrArg rI (bars_F (barS_3 n33 c35)))) (.inr (.inl rfl)) id rfl,ktFlat (rSp_flat _) rfl (.inr (.inl rfl)) id rfl,trivial⟩ rfl rfl (rig_of rfl) rfl)
  ·skip
   have p24:=bne_eq_false_iff_eq.1 c24
   refine gO ⟨_,_,rfl,rfl,c24⟩ rfl rfl ?_
   refine gO ⟨_,_,rfl,rfl,c24⟩ rfl rfl ?_
   refine gO ⟨_,_,rfl,rfl,c24⟩ rfl rfl ?_
   refine gO ⟨_,_,rfl,rfl,c24⟩ rfl rfl ?_
   refine gO ⟨_,_,rfl,rfl,c24⟩ rfl rfl ?_
   refine gO ⟨_,_,rfl,rfl,c24⟩ rfl rfl ?_
   refine gO ⟨_,_,rfl,rfl,c24⟩ rfl rfl ?_
   refine gO ⟨_,_,rfl,rfl,c24⟩ rfl rfl ?_
   refine gO ⟨_,_,rfl,rfl,c24⟩ rfl rfl ?_
   refine gO ⟨_,_,rfl,rfl,trivial⟩ rfl rfl ?_
   refine gO ⟨_,_,rfl,rfl,trivial⟩ rfl rfl ?_
   refine gO ⟨_,_,rfl,rfl,trivial⟩ rfl rfl ?_
   refine gO ⟨_,_,rfl,rfl,trivial⟩ rfl rfl ?_
   refine gO ⟨_,_,rfl,rfl,trivial⟩ rfl rfl ?_
   refine gO ⟨_,_,rfl,rfl,trivial⟩ rfl rfl ?_
   refine gO ⟨_,_,rfl,rfl,trivial⟩ rfl rfl ?_
   refine gO ⟨_,_,rfl,rfl,trivial⟩ rfl rfl ?_
   refine gO ⟨_,_,rfl,rfl,trivial⟩ rfl rfl ?_
   refine gO ⟨_,_,rfl,rfl,trivial⟩ rfl rfl ?_
   refine gO ⟨_,_,rfl,rfl,trivial⟩ rfl rfl ?_
   refine gO ⟨_,_,rfl,rfl,c24⟩ rfl rfl ?_
   refine gPF trivial rfl rfl c24 rfl rfl rfl ?_
   refine rg_nil nofun ?_
   refine cF rfl rfl ?_
   refine vc_skip ?_
   refine vc_region hm ?_
   refine gM trivial (.inl rfl) rfl rfl rfl ?_
   refine gA trivial rfl rfl rfl rfl rfl rfl (by omega) ?_
   refine gM trivial (.inr rfl) rfl rfl rfl ?_
   refine rg_nil nofun ?_
   exact lp_nextT ⟨j + 1,(by omega),rfl,rfl⟩ (by omega) (re_nil (ms:=[0,1,2,3,4]) (C:=999) rfl ⟨⟨⟨rfl,rfl⟩,rfl⟩,⟨⟨rfl,rfl⟩,rfl⟩,⟨⟨rfl,rfl⟩,rfl⟩,⟨⟨rfl,rfl⟩,rfl⟩,⟨⟨rfl,eqSl (by rw [← bars_F (barS_1 p24)])⟩,rfl⟩,⟨⟨rfl,rfl⟩,rfl⟩,⟨⟨rfl,rfl⟩,rfl⟩,trivial⟩ ⟨ktTab (k:=kk) rfl rfl (.inr (.inl rfl)) id rfl rfl,ktIn rfl id rfl,ktFlat rfl rfl (.inr (.inl rfl)) id rfl,ktFlat (rI_flat _) (eqH (congrArg rI (bars_F (barS_1 p24)))) (.inr (.inl rfl)) id rfl,ktFlat (rSp_flat _) rfl (.inr (.inl rfl)) id rfl,trivial⟩ rfl rfl (rig_of rfl) rfl)
 ·skip
  have p18:=of_decide_eq_false c18
  refine vc_exit ?_
  refine vc_seq ?_
  refine vc_region hm ?_
  refine gM trivial (.inl rfl) rfl rfl rfl ?_
  refine gM trivial (.inr rfl) rfl rfl rfl ?_
  refine rg_nil nofun ?_
  refine vc_ret ?_
  obtain rfl:j=T.length:=by omega
  exact ⟨_,endsT [(2,3,one ⟨rI (barsL T who write s T.length),3,1⟩)] (.inr rfl) (.tmp rfl rfl .nil) rfl rfl trivial ⟨asFlat rfl (rI_flat _),trivial⟩ rfl⟩
theorem spec_l4Without_c {a b:List Sp} (hn:a.length≤1048576) (hm:b.length≤1048576) (hb:spansOk b=true):FDoes Try.prog 70 [.slice (some ⟨0,0,none⟩) a.length 0,.slice (some ⟨1,0,none⟩) b.length 0] (hp [(0,false,one ⟨rSp a,28,0⟩),(1,false,one ⟨rSp b,28,0⟩)]) (mkE (.slice (some ⟨2,0,none⟩) (withoutL a b).length 0) [0,1] [] [(2,⟨rSp (withoutL a b),28,2⟩)]):=by
 have hm:Try.prog.follows .mixedOrders=true:=by kernel_rfl
 have hd_:∀ x_ ∈ ([(0,false,one ⟨rSp a,28,0⟩),(1,false,one ⟨rSp b,28,0⟩)]:List (Nat × Bool × Fam)),∀ k_ y_,x_.2.2 k_=some y_→DetB (lt 2) y_:=by
  intro x_ hx k_ y_ e
  simp only [List.mem_cons,List.not_mem_nil,or_false] at hx
  rcases hx with rfl|rfl
  ·exact det_row (rSp_flat a) e
  ·exact det_row (rSp_flat b) e
 refine fn_exact (u0:=2) Try.func70 rfl rfl (gets rfl rfl rfl hd_ rfl) ?_
 clear hd_
 refine vc_seq ?_
 refine vc_region hm ?_
 refine gM trivial (.inr rfl) rfl rfl rfl ?_
 refine rg_nil nofun ?_
 refine vc_seq ?_
 refine vc_region hm ?_
 refine gM trivial (.inl rfl) rfl rfl rfl ?_
 refine gCn 3 [0,2] (spec_l1Places_c (l:=a) hn) trivial rfl rfl rfl rfl ⟨rFlat (rSp_flat a) rfl (.inl rfl) rfl,trivial⟩ ⟨plL_flat _,trivial⟩ rfl rfl rfl rfl ?_
 refine gCn 4 [2,3] (spec_l1Of_c (fun x=>l1In a (x:Int))) trivial rfl rfl rfl rfl ⟨rFlat (plL_flat _) rfl (.inl rfl) rfl,trivial⟩ ⟨rSp_flat _,trivial⟩ rfl rfl rfl rfl ?_
 refine gM trivial (.inr rfl) rfl rfl rfl ?_
 refine rg_nil nofun ?_
 refine vc_seq ?_
 refine vc_seq ?_
 refine vc_region hm ?_
 refine gM trivial (.inr rfl) rfl rfl rfl ?_
 refine rg_nil nofun ?_
 refine vc_block ?_
 refine vc_loop' (fun n_ S_=>∃ (j:Nat),j≤b.length∧n_=b.length - j∧S_=⟨3,[(1,.slice (some ⟨1,0,none⟩) b.length 0),(5,.slice (some ⟨2,0,none⟩) (l1ofP fun x=>l1In a (x:Int) && !ofP (b.take j) x).length 0),(6,.int .i64 j)],[(0,false,one ⟨rSp a,28,0⟩),(1,false,one ⟨rSp b,28,0⟩),(2,true,one ⟨rSp (l1ofP fun x=>l1In a (x:Int) && !ofP (b.take j) x),28,2⟩)]⟩) (m0:=(mp [0,1,3])) ⟨0,Nat.zero_le _,rfl,rfl⟩ (le_mk rfl ⟨⟨rfl,rfl⟩,⟨eqSl (by rw [← wo_0 (b:=b)]),rfl⟩,⟨rfl,rfl⟩,trivial⟩ ⟨kFlat (rSp_flat a) rfl id rfl,kFlat (rSp_flat b) rfl id rfl,kFlat (rSp_flat _) (eqH (congrArg _ wo_0)) id rfl,trivial⟩ rfl (rig_of rfl)) ?_
 rintro n_ S_ ⟨j,hj,rfl,rfl⟩
 refine vc_seq ?_
 refine vc_seq ?_
 refine vc_region hm ?_
 refine gM trivial (.inl rfl) rfl rfl rfl ?_
 refine gM trivial (.inl rfl) rfl rfl rfl ?_
 refine gK trivial rfl rfl rfl rfl rfl rfl rSp_nil ?_
 refine gI trivial rfl rfl rfl rfl rfl rfl ?_
 refine rg_nil nofun ?_
 refine cI rfl (fun c13=>?_) (fun c13=>?_)
 ·skip
  have p13:=of_decide_eq_true c13
  refine vc_skip ?_
  refine vc_seq ?_
  refine vc_block ?_
  refine vc_region hm ?_
  refine gM trivial (.inl rfl) rfl rfl rfl ?_
  refine gM trivial (.inl rfl) rfl rfl rfl ?_
  refine gM trivial (.inl rfl) rfl rfl rfl ?_
  refine gX trivial rfl rfl rfl rfl rfl rfl rfl rfl (by omega) p13 rSp_ne ?_
  refine gL trivial rfl rfl rfl rfl rfl rfl rfl (aSp (by omega) p13) ?_
  refine gCn 4 [2,3] (spec_l1Cut_c (l:=(l1ofP fun x=>l1In a (x:Int) && !ofP (b.take j) x)) (s:=at_ b (j:Int)) l48 (spanOk_in (spansOk_at hb _ (at_mem (by omega) p13)))) trivial rfl rfl rfl rfl ⟨rFlat (rSp_flat _) rfl (.inl rfl) rfl,trivial⟩ ⟨rSp_flat _,trivial⟩ rfl rfl rfl rfl ?_
  refine gM trivial (.inr rfl) rfl rfl rfl ?_
  refine rg_nil nofun ?_
  refine vc_region hm ?_
  refine gM trivial (.inl rfl) rfl rfl rfl ?_
  refine gA trivial rfl rfl rfl rfl rfl rfl (by omega) ?_
  refine gM trivial (.inr rfl) rfl rfl rfl ?_
  refine rg_nil nofun ?_
  exact lp_next (m:=(mp [0,1,3])) ⟨j + 1,(by omega),rfl,rfl⟩ (by omega) (le_mk rfl ⟨⟨rfl,rfl⟩,⟨eqSl (by rw [← wo_step p13]),rfl⟩,⟨rfl,rfl⟩,trivial⟩ ⟨kFlat (rSp_flat a) rfl id rfl,kFlat (rSp_flat b) rfl id rfl,kFlat (rSp_flat _) (eqH (congrArg _ (wo_step p13))) id rfl,trivial⟩ rfl (rig_of rfl))
 ·skip
  have p13:=of_decide_eq_false c13
  refine vc_exit ?_
  refine vc_seq ?_
  refine vc_region hm ?_
  refine gM trivial (.inl rfl) rfl rfl rfl ?_
  refine gM trivial (.inr rfl) rfl rfl rfl ?_
  refine rg_nil nofun ?_
  refine vc_ret ?_
  rw [wo_end hj p13]
  exact ⟨_,endsG [(2,2,⟨rSp (withoutL a b),28,2⟩)] (.inr rfl) (.tmp rfl rfl .nil) rfl rfl trivial ⟨⟨rfl,rSp_flat _⟩,trivial⟩ rfl⟩
theorem spec_LockDrop_c {T:List Ho} {who:Int} {s:Sp} {kk cc:Nat} (hT:T.length≤1048576) (hB:∀ h ∈ T,h.r.length≤1048576∧h.w.length≤1048576):FDoes Try.prog 26 [.slice (some ⟨0,kk,none⟩) T.length cc,.int .i64 who,vSp s] (hp [(0,false,one ⟨hls kk (rHv (tabV 1 zo T)),46,0⟩),(1,false,inF zo 28 0 T)]) (mkF (.tuple #[.slice (some ⟨2,0,none⟩) (resT T (goK who s true) who (dropH (at_ T who) s)).length 0,.bool (resB T (goK who s true) who (dropH (at_ T who) s))]) [0,1] [] [(2,one ⟨rHv (tabV 3 zo (resT T (goK who s true) who (dropH (at_ T who) s))),46,2⟩),(3,inF zo 28 77 (resT T (goK who s true) who (dropH (at_ T who) s)))]):=by
 have hm:Try.prog.follows .mixedOrders=true:=by kernel_rfl
 have hd_:∀ x_ ∈ ([(0,false,one ⟨hls kk (rHv (tabV 1 zo T)),46,0⟩),(1,false,inF zo 28 0 T)]:List (Nat × Bool × Fam)),∀ k_ y_,x_.2.2 k_=some y_→DetB (lt 2) y_:=by
  intro x_ hx k_ y_ e
  simp only [List.mem_cons,List.not_mem_nil,or_false] at hx
  rcases hx with rfl|rfl
  ·exact det_tab (k0:=kk) rfl e
  ·exact det_in e
 refine fn_exact (u0:=2) Try.func26 rfl rfl (gets rfl rfl rfl hd_ rfl) ?_
 clear hd_
 refine vc_seq ?_
 refine vc_region hm ?_
 refine gB (u':=3) trivial rfl rfl rfl rfl rfl rfl rfl rfl ?_
 refine gM trivial (.inr rfl) rfl rfl rfl ?_
 refine gM trivial (.inr rfl) rfl rfl rfl ?_
 refine rg_nil nofun ?_
 refine vc_seq ?_
 refine vc_seq ?_
 refine vc_region hm ?_
 refine gM trivial (.inl rfl) rfl rfl rfl ?_
 refine gCT0 [nA (nm 0 (0)),nF 1] [0,1] (spec_LockOk_c (T:=T) hT hB) trivial rfl rfl rfl rfl rfl ⟨aTab (k:=kk) rfl rfl rfl rfl (.inl rfl) (.inl rfl) rfl rfl,aIn rfl rfl (.inl rfl) (.inl rfl) rfl,trivial⟩ rfl rfl rfl rfl ?_
 refine gN trivial rfl rfl rfl rfl ?_
 refine rg_nil nofun ?_
 refine cI rfl (fun c10=>?_) (fun c10=>?_)
 ·skip
  have n10:=unT c10
  refine vc_seq ?_
  refine vc_region hm ?_
  refine gR (u':=4) trivial rfl rfl rfl rfl rfl rfl rfl rfl rfl rfl rfl rfl rfl rfl ?_
  refine gM trivial (.inr rfl) rfl rfl rfl ?_
  refine gM trivial (.inr rfl) rfl rfl rfl ?_
  refine rg_nil nofun ?_
  refine vc_re (S2:=⟨5,[(6,.slice (some ⟨3,0,none⟩) 0 0),(7,.bool false)],[(0,false,one ⟨hls kk (rHv (tabV 1 zo T)),46,0⟩),(1,false,inF zo 28 0 T),(3,true,one ⟨rHv (tabV 4 zo []),46,2⟩),(4,true,inF zo 28 77 [])]⟩) (re_nil (ms:=[0,1,2,3]) (C:=4) rfl ⟨⟨⟨rfl,rfl⟩,rfl⟩,⟨⟨rfl,rfl⟩,rfl⟩,trivial⟩ ⟨ktTab (k:=kk) rfl rfl (.inr (.inl rfl)) id rfl rfl,ktIn rfl id rfl,ktFlat rfl rfl (.inr (.inl rfl)) id rfl,ktInN (n:=0) rfl (by decide) rfl,trivial⟩ rfl rfl (rig_of rfl) rfl) ?_
  refine vc_ret ?_
  rw [(res_no (by assumption)).1,(res_no (by assumption)).2]
  exact ⟨_,endsT [(2,3,one ⟨rHv (tabV 3 zo []),46,2⟩),(3,4,inF zo 28 77 [])] (.inr rfl) (.tmp rfl rfl (.tmp rfl rfl .nil)) rfl rfl trivial ⟨asTab rfl rfl rfl,asIn rfl,trivial⟩ rfl⟩
 ·skip
  have n10:=unF c10
  refine vc_skip ?_
  refine vc_seq ?_
  refine vc_seq ?_
  refine vc_region hm ?_
  refine gM trivial (.inl rfl) rfl rfl rfl ?_
  refine gC0 [] (spec_l4Who_c who) trivial rfl rfl rfl rfl (by trivial) rfl rfl rfl rfl rfl ?_
  refine gN trivial rfl rfl rfl rfl ?_
  refine gM trivial (.inl rfl) rfl rfl rfl ?_
  refine gI2 (d:=15) rfl (fun c15=>?_) (fun c15=>?_)
  ·skip
   have n15:=unT c15
   refine gO ⟨_,_,rfl,rfl,c15⟩ rfl rfl ?_
   refine gO ⟨_,_,rfl,rfl,c15⟩ rfl rfl ?_
   refine gO ⟨_,_,rfl,rfl,c15⟩ rfl rfl ?_
   refine gPT trivial rfl rfl c15 rfl rfl rfl ?_
   refine rg_nil nofun ?_
   refine cT rfl rfl ?_
   refine vc_seq ?_
   refine vc_region hm ?_
   refine gM trivial (.inl rfl) rfl rfl rfl ?_
   refine gCT (as':=[(3,one ⟨rHv (tabV 4 zo T),46,2⟩),(4,inF zo 28 77 T)]) (v':=.slice (some ⟨3,0,none⟩) T.length 0) 5 [nA (nm 0 (0)),nF 1,nF 3,nF 4] [0,1] (spec_l4Copy_c (T:=T) hT hB) trivial rfl rfl rfl rfl rfl ⟨aTab (k:=kk) rfl rfl rfl rfl (.inl rfl) (.inl rfl) rfl rfl,aIn rfl rfl (.inl rfl) (.inl rfl) rfl,trivial⟩ ⟨rTab rfl rfl rfl,rIn rfl,trivial⟩ ⟨rfl,rfl⟩ rfl rfl rfl ?_
   refine gM trivial (.inr rfl) rfl rfl rfl ?_
   refine gM trivial (.inr rfl) rfl rfl rfl ?_
   refine rg_nil nofun ?_
   refine vc_ret ?_
   rw [(res_stay (by assumption) (by first|exact goK_1 (by assumption)|exact goK_2 (by assumption)|exact goK_3 (by assumption))).1,(res_stay (by assumption) (by first|exact goK_1 (by assumption)|exact goK_2 (by assumption)|exact goK_3 (by assumption))).2]
   exact ⟨_,endsT [(2,3,one ⟨rHv (tabV 3 zo T),46,2⟩),(3,4,inF zo 28 77 T)] (.inr rfl) (.tmp rfl rfl (.tmp rfl rfl .nil)) rfl rfl trivial ⟨asTab rfl rfl rfl,asIn rfl,trivial⟩ rfl⟩
  ·skip
   have n15:=unF c15
   refine gL ⟨_,_,rfl,rfl,c15⟩ rfl rfl rfl rfl rfl rfl rfl rfl ?_
   refine gC0 [] (spec_SpanOk_c s) ⟨_,_,rfl,rfl,c15⟩ rfl rfl rfl rfl (by trivial) rfl rfl rfl rfl rfl ?_
   refine gN ⟨_,_,rfl,rfl,c15⟩ rfl rfl rfl rfl ?_
   refine gPF trivial rfl rfl c15 rfl rfl rfl ?_
   refine rg_nil nofun ?_
   refine cI rfl (fun c19=>?_) (fun c19=>?_)
   ·skip
    have n19:=unT c19
    refine vc_seq ?_
    refine vc_region hm ?_
    refine gM trivial (.inl rfl) rfl rfl rfl ?_
    refine gCT (as':=[(3,one ⟨rHv (tabV 4 zo T),46,2⟩),(4,inF zo 28 77 T)]) (v':=.slice (some ⟨3,0,none⟩) T.length 0) 5 [nA (nm 0 (0)),nF 1,nF 3,nF 4] [0,1] (spec_l4Copy_c (T:=T) hT hB) trivial rfl rfl rfl rfl rfl ⟨aTab (k:=kk) rfl rfl rfl rfl (.inl rfl) (.inl rfl) rfl rfl,aIn rfl rfl (.inl rfl) (.inl rfl) rfl,trivial⟩ ⟨rTab rfl rfl rfl,rIn rfl,trivial⟩ ⟨rfl,rfl⟩ rfl rfl rfl ?_
    refine gM trivial (.inr rfl) rfl rfl rfl ?_
    refine gM trivial (.inr rfl) rfl rfl rfl ?_
    refine rg_nil nofun ?_
    refine vc_ret ?_
    rw [(res_stay (by assumption) (by first|exact goK_1 (by assumption)|exact goK_2 (by assumption)|exact goK_3 (by assumption))).1,(res_stay (by assumption) (by first|exact goK_1 (by assumption)|exact goK_2 (by assumption)|exact goK_3 (by assumption))).2]
    exact ⟨_,endsT [(2,3,one ⟨rHv (tabV 3 zo T),46,2⟩),(3,4,inF zo 28 77 T)] (.inr rfl) (.tmp rfl rfl (.tmp rfl rfl .nil)) rfl rfl trivial ⟨asTab rfl rfl rfl,asIn rfl,trivial⟩ rfl⟩
   ·skip
    have n19:=unF c19
    refine vc_skip ?_
    refine vc_seq ?_
    refine vc_region hm ?_
    refine gM trivial (.inl rfl) rfl rfl rfl ?_
    refine gM trivial (.inl rfl) rfl rfl rfl ?_
    refine gM trivial (.inl rfl) rfl rfl rfl ?_
    refine gM trivial (.inl rfl) rfl rfl rfl ?_
    refine gX trivial rfl rfl rfl rfl rfl rfl rfl rfl (by have:=whoOk_in (who:=who) (by assumption);have:=ok_3 (T:=T) (by assumption);omega) (by have:=whoOk_in (who:=who) (by assumption);have:=ok_3 (T:=T) (by assumption);omega) (fun h=>hls_ne (tabV_ne h)) ?_
    refine gF trivial rfl rfl rfl rfl rfl ?_
    refine gL trivial rfl rfl rfl rfl rfl rfl rfl (lH0k (by have:=whoOk_in (who:=who) (by assumption);have:=ok_3 (T:=T) (by assumption);omega) (by have:=whoOk_in (who:=who) (by assumption);have:=ok_3 (T:=T) (by assumption);omega)) ?_
    refine gL trivial rfl rfl rfl rfl rfl rfl rfl rfl ?_
    refine gCT (as':=[(3,one ⟨rSp (cutL (at_ T who).r s),28,2⟩)]) (v':=.slice (some ⟨3,0,none⟩) (cutL (at_ T who).r s).length 0) 4 [nA (nm 1 (2 * (who).toNat)),nF 3] [1] (spec_l1Cut_c (l:=(at_ T who).r) (s:=s) (hB _ (at_mem (by have:=whoOk_in (who:=who) (by assumption);have:=ok_3 (T:=T) (by assumption);omega) (by have:=whoOk_in (who:=who) (by assumption);have:=ok_3 (T:=T) (by assumption);omega))).1 (spanOk_in (by assumption))) trivial rfl rfl rfl rfl rfl ⟨aRow rfl (rSp_flat _) rfl (inF_0 (by have:=whoOk_in (who:=who) (by assumption);have:=ok_3 (T:=T) (by assumption);omega) (by have:=whoOk_in (who:=who) (by assumption);have:=ok_3 (T:=T) (by assumption);omega)) (.inl rfl) (.inl rfl) rfl,trivial⟩ ⟨rFlatT (rSp_flat _) rfl,trivial⟩ ⟨rfl,rfl⟩ rfl rfl rfl ?_
    refine gM trivial (.inl rfl) rfl rfl rfl ?_
    refine gM trivial (.inl rfl) rfl rfl rfl ?_
    refine gX trivial rfl rfl rfl rfl rfl rfl rfl rfl (by have:=whoOk_in (who:=who) (by assumption);have:=ok_3 (T:=T) (by assumption);omega) (by have:=whoOk_in (who:=who) (by assumption);have:=ok_3 (T:=T) (by assumption);omega) (fun h=>hls_ne (tabV_ne h)) ?_
    refine gF trivial rfl rfl rfl rfl rfl ?_
    refine gL trivial rfl rfl rfl rfl rfl rfl rfl (lH1k (by have:=whoOk_in (who:=who) (by assumption);have:=ok_3 (T:=T) (by assumption);omega) (by have:=whoOk_in (who:=who) (by assumption);have:=ok_3 (T:=T) (by assumption);omega)) ?_
    refine gL trivial rfl rfl rfl rfl rfl rfl rfl rfl ?_
    refine gCT (as':=[(4,one ⟨rSp (cutL (at_ T who).w s),28,2⟩)]) (v':=.slice (some ⟨4,0,none⟩) (cutL (at_ T who).w s).length 0) 5 [nA (nm 1 (2 * (who).toNat + 1)),nF 4] [1] (spec_l1Cut_c (l:=(at_ T who).w) (s:=s) (hB _ (at_mem (by have:=whoOk_in (who:=who) (by assumption);have:=ok_3 (T:=T) (by assumption);omega) (by have:=whoOk_in (who:=who) (by assumption);have:=ok_3 (T:=T) (by assumption);omega))).2 (spanOk_in (by assumption))) trivial rfl rfl rfl rfl rfl ⟨aRow rfl (rSp_flat _) rfl (inF_1 (by have:=whoOk_in (who:=who) (by assumption);have:=ok_3 (T:=T) (by assumption);omega) (by have:=whoOk_in (who:=who) (by assumption);have:=ok_3 (T:=T) (by assumption);omega)) (.inl rfl) (.inl rfl) rfl,trivial⟩ ⟨rFlatT (rSp_flat _) rfl,trivial⟩ ⟨rfl,rfl⟩ rfl rfl rfl ?_
    refine gU trivial rfl rfl rfl rfl rfl rfl rfl rfl ?_
    refine gCT (as':=[(5,one ⟨rHv (tabV 6 zo (repT T who (dropH (at_ T who) s))),46,2⟩),(6,inF zo 28 77 (repT T who (dropH (at_ T who) s)))]) (v':=.tuple #[.slice (some ⟨5,0,none⟩) (repT T who (dropH (at_ T who) s)).length 0,.bool (lockOk (setH T who (dropH (at_ T who) s)))]) 7 [nA (nm 0 (0)),nF 1,nA (nm 3 (0)),nA (nm 4 (0)),nF 5,nF 6] [0,1,3,4] (spec_l4Put_c (T:=T) (who:=who) (h:=(dropH (at_ T who) s)) hT hB l48 l48 (whoOk_in (by assumption)) (ok_3 (by assumption))) trivial rfl rfl rfl rfl rfl ⟨aTab (k:=kk) rfl rfl rfl rfl (.inl rfl) (.inl rfl) rfl rfl,aIn rfl rfl (.inl rfl) (.inl rfl) rfl,aRow rfl (rSp_flat _) rfl rfl (.inl rfl) (.inl rfl) rfl,aRow rfl (rSp_flat _) rfl rfl (.inl rfl) (.inl rfl) rfl,trivial⟩ ⟨rTab rfl rfl rfl,rIn rfl,trivial⟩ ⟨rfl,rfl⟩ rfl rfl rfl ?_
    refine gE trivial rfl rfl rfl rfl rfl rfl ?_
    refine gE trivial rfl rfl rfl rfl rfl rfl ?_
    refine gM trivial (.inr rfl) rfl rfl rfl ?_
    refine gM trivial (.inr rfl) rfl rfl rfl ?_
    refine rg_nil (fun _=>by kernel_rfl) ?_
    refine vc_ret ?_
    rw [(res_go (by assumption) (goK_4 (by assumption) (by assumption) rfl)).1,(res_go (by assumption) (goK_4 (by assumption) (by assumption) rfl)).2]
    exact ⟨_,endsT [(2,5,one ⟨rHv (tabV 3 zo (repT T who (dropH (at_ T who) s))),46,2⟩),(3,6,inF zo 28 77 (repT T who (dropH (at_ T who) s)))] (.inr rfl) (.tmp rfl rfl (.tmp rfl rfl .nil)) rfl rfl trivial ⟨asTab rfl rfl rfl,asIn rfl,trivial⟩ rfl⟩
theorem spec_LockGive_c {T:List Ho} {who:Int} {write:Bool} {s:Sp} {kk cc:Nat} (hT:T.length≤1048576) (hB:∀ h ∈ T,h.r.length≤1048576∧h.w.length≤1048576):FDoes Try.prog 32 [.slice (some ⟨0,kk,none⟩) T.length cc,.int .i64 who,.bool write,vSp s] (hp [(0,false,one ⟨hls kk (rHv (tabV 1 zo T)),46,0⟩),(1,false,inF zo 28 0 T)]) (mkF (.tuple #[.slice (some ⟨2,0,none⟩) (resT T (goK who s (decide (((lockBars T who write s).length:Int)=0))) who (giveH (at_ T who) write s)).length 0,.bool (resB T (goK who s (decide (((lockBars T who write s).length:Int)=0))) who (giveH (at_ T who) write s))]) [0,1] [] [(2,one ⟨rHv (tabV 3 zo (resT T (goK who s (decide (((lockBars T who write s).length:Int)=0))) who (giveH (at_ T who) write s))),46,2⟩),(3,inF zo 28 77 (resT T (goK who s (decide (((lockBars T who write s).length:Int)=0))) who (giveH (at_ T who) write s)))]):=by
 have hm:Try.prog.follows .mixedOrders=true:=by kernel_rfl
 have hd_:∀ x_ ∈ ([(0,false,one ⟨hls kk (rHv (tabV 1 zo T)),46,0⟩),(1,false,inF zo 28 0 T)]:List (Nat × Bool × Fam)),∀ k_ y_,x_.2.2 k_=some y_→DetB (lt 2) y_:=by
  intro x_ hx k_ y_ e
  simp only [List.mem_cons,List.not_mem_nil,or_false] at hx
  rcases hx with rfl|rfl
  ·exact det_tab (k0:=kk) rfl e
  ·exact det_in e
 refine fn_exact (u0:=2) Try.func32 rfl rfl (gets rfl rfl rfl hd_ rfl) ?_
 clear hd_
 refine vc_seq ?_
 refine vc_region hm ?_
 refine gB (u':=3) trivial rfl rfl rfl rfl rfl rfl rfl rfl ?_
 refine gM trivial (.inr rfl) rfl rfl rfl ?_
 refine gM trivial (.inr rfl) rfl rfl rfl ?_
 refine rg_nil nofun ?_
 refine vc_seq ?_
 refine vc_seq ?_
 refine vc_region hm ?_
 refine gM trivial (.inl rfl) rfl rfl rfl ?_
 refine gCT0 [nA (nm 0 (0)),nF 1] [0,1] (spec_LockOk_c (T:=T) hT hB) trivial rfl rfl rfl rfl rfl ⟨aTab (k:=kk) rfl rfl rfl rfl (.inl rfl) (.inl rfl) rfl rfl,aIn rfl rfl (.inl rfl) (.inl rfl) rfl,trivial⟩ rfl rfl rfl rfl ?_
 refine gN trivial rfl rfl rfl rfl ?_
 refine rg_nil nofun ?_
 refine cI rfl (fun c13=>?_) (fun c13=>?_)
 ·skip
  have n13:=unT c13
  refine vc_seq ?_
  refine vc_region hm ?_
  refine gR (u':=4) trivial rfl rfl rfl rfl rfl rfl rfl rfl rfl rfl rfl rfl rfl rfl ?_
  refine gM trivial (.inr rfl) rfl rfl rfl ?_
  refine gM trivial (.inr rfl) rfl rfl rfl ?_
  refine rg_nil nofun ?_
  refine vc_re (S2:=⟨5,[(8,.slice (some ⟨3,0,none⟩) 0 0),(9,.bool false)],[(0,false,one ⟨hls kk (rHv (tabV 1 zo T)),46,0⟩),(1,false,inF zo 28 0 T),(3,true,one ⟨rHv (tabV 4 zo []),46,2⟩),(4,true,inF zo 28 77 [])]⟩) (re_nil (ms:=[0,1,2,3]) (C:=4) rfl ⟨⟨⟨rfl,rfl⟩,rfl⟩,⟨⟨rfl,rfl⟩,rfl⟩,trivial⟩ ⟨ktTab (k:=kk) rfl rfl (.inr (.inl rfl)) id rfl rfl,ktIn rfl id rfl,ktFlat rfl rfl (.inr (.inl rfl)) id rfl,ktInN (n:=0) rfl (by decide) rfl,trivial⟩ rfl rfl (rig_of rfl) rfl) ?_
  refine vc_ret ?_
  rw [(res_no (by assumption)).1,(res_no (by assumption)).2]
  exact ⟨_,endsT [(2,3,one ⟨rHv (tabV 3 zo []),46,2⟩),(3,4,inF zo 28 77 [])] (.inr rfl) (.tmp rfl rfl (.tmp rfl rfl .nil)) rfl rfl trivial ⟨asTab rfl rfl rfl,asIn rfl,trivial⟩ rfl⟩
 ·skip
  have n13:=unF c13
  refine vc_skip ?_
  refine vc_seq ?_
  refine vc_seq ?_
  refine vc_region hm ?_
  refine gM trivial (.inl rfl) rfl rfl rfl ?_
  refine gC0 [] (spec_l4Who_c who) trivial rfl rfl rfl rfl (by trivial) rfl rfl rfl rfl rfl ?_
  refine gN trivial rfl rfl rfl rfl ?_
  refine gM trivial (.inl rfl) rfl rfl rfl ?_
  refine gI2 (d:=18) rfl (fun c18=>?_) (fun c18=>?_)
  ·skip
   have n18:=unT c18
   refine gO ⟨_,_,rfl,rfl,c18⟩ rfl rfl ?_
   refine gO ⟨_,_,rfl,rfl,c18⟩ rfl rfl ?_
   refine gO ⟨_,_,rfl,rfl,c18⟩ rfl rfl ?_
   refine gPT trivial rfl rfl c18 rfl rfl rfl ?_
   refine gM trivial (.inl rfl) rfl rfl rfl ?_
   refine gO ⟨_,_,rfl,rfl,rfl⟩ rfl rfl ?_
   refine gO ⟨_,_,rfl,rfl,rfl⟩ rfl rfl ?_
   refine gO ⟨_,_,rfl,rfl,rfl⟩ rfl rfl ?_
   refine gO ⟨_,_,rfl,rfl,rfl⟩ rfl rfl ?_
   refine gO ⟨_,_,rfl,rfl,rfl⟩ rfl rfl ?_
   refine gO ⟨_,_,rfl,rfl,rfl⟩ rfl rfl ?_
   refine gO ⟨_,_,rfl,rfl,rfl⟩ rfl rfl ?_
   refine gPT trivial rfl rfl rfl rfl rfl rfl ?_
   refine rg_nil nofun ?_
   refine cT rfl rfl ?_
   refine vc_seq ?_
   refine vc_region hm ?_
   refine gM trivial (.inl rfl) rfl rfl rfl ?_
   refine gCT (as':=[(3,one ⟨rHv (tabV 4 zo T),46,2⟩),(4,inF zo 28 77 T)]) (v':=.slice (some ⟨3,0,none⟩) T.length 0) 5 [nA (nm 0 (0)),nF 1,nF 3,nF 4] [0,1] (spec_l4Copy_c (T:=T) hT hB) trivial rfl rfl rfl rfl rfl ⟨aTab (k:=kk) rfl rfl rfl rfl (.inl rfl) (.inl rfl) rfl rfl,aIn rfl rfl (.inl rfl) (.inl rfl) rfl,trivial⟩ ⟨rTab rfl rfl rfl,rIn rfl,trivial⟩ ⟨rfl,rfl⟩ rfl rfl rfl ?_
   refine gM trivial (.inr rfl) rfl rfl rfl ?_
   refine gM trivial (.inr rfl) rfl rfl rfl ?_
   refine rg_nil nofun ?_
   refine vc_ret ?_
   rw [(res_stay (by assumption) (by first|exact goK_1 (by assumption)|exact goK_2 (by assumption)|exact goK_3 (give_no (by assumption) (by assumption) (by assumption) (by assumption)))).1,(res_stay (by assumption) (by first|exact goK_1 (by assumption)|exact goK_2 (by assumption)|exact goK_3 (give_no (by assumption) (by assumption) (by assumption) (by assumption)))).2]
   exact ⟨_,endsT [(2,3,one ⟨rHv (tabV 3 zo T),46,2⟩),(3,4,inF zo 28 77 T)] (.inr rfl) (.tmp rfl rfl (.tmp rfl rfl .nil)) rfl rfl trivial ⟨asTab rfl rfl rfl,asIn rfl,trivial⟩ rfl⟩
  ·skip
   have n18:=unF c18
   refine gL ⟨_,_,rfl,rfl,c18⟩ rfl rfl rfl rfl rfl rfl rfl rfl ?_
   refine gC0 [] (spec_SpanOk_c s) ⟨_,_,rfl,rfl,c18⟩ rfl rfl rfl rfl (by trivial) rfl rfl rfl rfl rfl ?_
   refine gN ⟨_,_,rfl,rfl,c18⟩ rfl rfl rfl rfl ?_
   refine gPF trivial rfl rfl c18 rfl rfl rfl ?_
   refine gM trivial (.inl rfl) rfl rfl rfl ?_
   refine gI2 (d:=23) rfl (fun c23=>?_) (fun c23=>?_)
   ·skip
    have n23:=unT c23
    refine gO ⟨_,_,rfl,rfl,c23⟩ rfl rfl ?_
    refine gO ⟨_,_,rfl,rfl,c23⟩ rfl rfl ?_
    refine gO ⟨_,_,rfl,rfl,c23⟩ rfl rfl ?_
    refine gO ⟨_,_,rfl,rfl,c23⟩ rfl rfl ?_
    refine gO ⟨_,_,rfl,rfl,c23⟩ rfl rfl ?_
    refine gO ⟨_,_,rfl,rfl,c23⟩ rfl rfl ?_
    refine gO ⟨_,_,rfl,rfl,c23⟩ rfl rfl ?_
    refine gPT trivial rfl rfl c23 rfl rfl rfl ?_
    refine rg_nil nofun ?_
    refine cT rfl rfl ?_
    refine vc_seq ?_
    refine vc_region hm ?_
    refine gM trivial (.inl rfl) rfl rfl rfl ?_
    refine gCT (as':=[(3,one ⟨rHv (tabV 4 zo T),46,2⟩),(4,inF zo 28 77 T)]) (v':=.slice (some ⟨3,0,none⟩) T.length 0) 5 [nA (nm 0 (0)),nF 1,nF 3,nF 4] [0,1] (spec_l4Copy_c (T:=T) hT hB) trivial rfl rfl rfl rfl rfl ⟨aTab (k:=kk) rfl rfl rfl rfl (.inl rfl) (.inl rfl) rfl rfl,aIn rfl rfl (.inl rfl) (.inl rfl) rfl,trivial⟩ ⟨rTab rfl rfl rfl,rIn rfl,trivial⟩ ⟨rfl,rfl⟩ rfl rfl rfl ?_
    refine gM trivial (.inr rfl) rfl rfl rfl ?_
    refine gM trivial (.inr rfl) rfl rfl rfl ?_
    refine rg_nil nofun ?_
    refine vc_ret ?_
    rw [(res_stay (by assumption) (by first|exact goK_1 (by assumption)|exact goK_2 (by assumption)|exact goK_3 (give_no (by assumption) (by assumption) (by assumption) (by assumption)))).1,(res_stay (by assumption) (by first|exact goK_1 (by assumption)|exact goK_2 (by assumption)|exact goK_3 (give_no (by assumption) (by assumption) (by assumption) (by assumption)))).2]
    exact ⟨_,endsT [(2,3,one ⟨rHv (tabV 3 zo T),46,2⟩),(3,4,inF zo 28 77 T)] (.inr rfl) (.tmp rfl rfl (.tmp rfl rfl .nil)) rfl rfl trivial ⟨asTab rfl rfl rfl,asIn rfl,trivial⟩ rfl⟩
   ·skip
    have n23:=unF c23
    refine gM ⟨_,_,rfl,rfl,c23⟩ (.inl rfl) rfl rfl rfl ?_
    refine gM ⟨_,_,rfl,rfl,c23⟩ (.inl rfl) rfl rfl rfl ?_
    refine gM ⟨_,_,rfl,rfl,c23⟩ (.inl rfl) rfl rfl rfl ?_
    refine gL ⟨_,_,rfl,rfl,c23⟩ rfl rfl rfl rfl rfl rfl rfl rfl ?_
    refine gCT (as':=[(3,one ⟨rI (barsL T who write s T.length),3,1⟩)]) (v':=.slice (some ⟨3,0,none⟩) (barsL T who write s T.length).length 0) 4 [nA (nm 0 (0)),nF 1,nF 3] [0,1] (spec_l4Bars_c (T:=T) (who:=who) (write:=write) (s:=s) hT hB) ⟨_,_,rfl,rfl,c23⟩ rfl rfl rfl rfl rfl ⟨aTab (k:=kk) rfl rfl rfl rfl (.inl rfl) (.inl rfl) rfl rfl,aIn rfl rfl (.inl rfl) (.inl rfl) rfl,trivial⟩ ⟨rFlatT (rI_flat _) rfl,trivial⟩ ⟨rfl,rfl⟩ rfl rfl rfl ?_
    refine gK ⟨_,_,rfl,rfl,c23⟩ rfl rfl rfl rfl rfl rfl rI_nil ?_
    refine gI ⟨_,_,rfl,rfl,c23⟩ rfl rfl rfl rfl rfl rfl ?_
    refine gPF trivial rfl rfl c23 rfl rfl rfl ?_
    refine rg_nil nofun ?_
    refine cI rfl (fun c31=>?_) (fun c31=>?_)
    ·skip
     have p31:=of_decide_eq_true c31
     refine vc_seq ?_
     refine vc_region hm ?_
     refine gM trivial (.inl rfl) rfl rfl rfl ?_
     refine gCT (as':=[(4,one ⟨rHv (tabV 5 zo T),46,2⟩),(5,inF zo 28 77 T)]) (v':=.slice (some ⟨4,0,none⟩) T.length 0) 6 [nA (nm 0 (0)),nF 1,nF 4,nF 5] [0,1] (spec_l4Copy_c (T:=T) hT hB) trivial rfl rfl rfl rfl rfl ⟨aTab (k:=kk) rfl rfl rfl rfl (.inl rfl) (.inl rfl) rfl rfl,aIn rfl rfl (.inl rfl) (.inl rfl) rfl,trivial⟩ ⟨rTab rfl rfl rfl,rIn rfl,trivial⟩ ⟨rfl,rfl⟩ rfl rfl rfl ?_
     refine gM trivial (.inr rfl) rfl rfl rfl ?_
     refine gM trivial (.inr rfl) rfl rfl rfl ?_
     refine rg_nil nofun ?_
     refine vc_ret ?_
     rw [(res_stay (by assumption) (by first|exact goK_1 (by assumption)|exact goK_2 (by assumption)|exact goK_3 (give_no (by assumption) (by assumption) (by assumption) (by assumption)))).1,(res_stay (by assumption) (by first|exact goK_1 (by assumption)|exact goK_2 (by assumption)|exact goK_3 (give_no (by assumption) (by assumption) (by assumption) (by assumption)))).2]
     exact ⟨_,endsT [(2,4,one ⟨rHv (tabV 3 zo T),46,2⟩),(3,5,inF zo 28 77 T)] (.inr rfl) (.tmp rfl rfl (.tmp rfl rfl .nil)) rfl rfl trivial ⟨asTab rfl rfl rfl,asIn rfl,trivial⟩ rfl⟩
    ·skip
     have p31:=of_decide_eq_false c31
     refine vc_skip ?_
     refine vc_seq ?_
     refine vc_region hm ?_
     refine gM trivial (.inl rfl) rfl rfl rfl ?_
     refine gM trivial (.inl rfl) rfl rfl rfl ?_
     refine gX trivial rfl rfl rfl rfl rfl rfl rfl rfl (by have:=whoOk_in (who:=who) (by assumption);have:=ok_3 (T:=T) (by assumption);omega) (by have:=whoOk_in (who:=who) (by assumption);have:=ok_3 (T:=T) (by assumption);omega) (fun h=>hls_ne (tabV_ne h)) ?_
     refine gL trivial rfl rfl rfl rfl rfl rfl rfl (aHk (by have:=whoOk_in (who:=who) (by assumption);have:=ok_3 (T:=T) (by assumption);omega) (by have:=whoOk_in (who:=who) (by assumption);have:=ok_3 (T:=T) (by assumption);omega)) ?_
     refine gZ (u':=5) trivial rfl rfl rfl rfl rfl rfl rfl rfl ?_
     refine gT trivial rfl rfl rfl rfl rfl rfl rfl rfl rfl rfl (Nat.le_of_ble_eq_true rfl) rfl ?_
     refine rg_nil nofun ?_
     refine vc_seq ?_
     refine vc_seq ?_
     refine vc_region hm ?_
     refine gM trivial (.inl rfl) rfl rfl rfl ?_
     refine rg_nil nofun ?_
     refine cI rfl (fun c38=>?_) (fun c38=>?_)
     ·skip
      refine vc_seq ?_
      refine vc_region hm ?_
      refine gM trivial (.inl rfl) rfl rfl rfl ?_
      refine gM trivial (.inl rfl) rfl rfl rfl ?_
      refine gF trivial rfl rfl rfl rfl rfl ?_
      refine gL trivial rfl rfl rfl rfl rfl rfl rfl rfl ?_
      refine gL trivial rfl rfl rfl rfl rfl rfl rfl rfl ?_
      refine gCT (as':=[(5,one ⟨rSp (cutL (at_ T who).r s),28,2⟩)]) (v':=.slice (some ⟨5,0,none⟩) (cutL (at_ T who).r s).length 0) 6 [nA (nm 1 (2 * (who).toNat)),nF 5] [1] (spec_l1Cut_c (l:=(at_ T who).r) (s:=s) (hB _ (at_mem (by have:=whoOk_in (who:=who) (by assumption);have:=ok_3 (T:=T) (by assumption);omega) (by have:=whoOk_in (who:=who) (by assumption);have:=ok_3 (T:=T) (by assumption);omega))).1 (spanOk_in (by assumption))) trivial rfl rfl rfl rfl rfl ⟨aRow rfl (rSp_flat _) rfl (inF_0 (by have:=whoOk_in (who:=who) (by assumption);have:=ok_3 (T:=T) (by assumption);omega) (by have:=whoOk_in (who:=who) (by assumption);have:=ok_3 (T:=T) (by assumption);omega)) (.inl rfl) (.inl rfl) rfl,trivial⟩ ⟨rFlatT (rSp_flat _) rfl,trivial⟩ ⟨rfl,rfl⟩ rfl rfl rfl ?_
      refine gF trivial rfl rfl rfl rfl rfl ?_
      refine gL trivial rfl rfl rfl rfl rfl rfl rfl rfl ?_
      refine gL trivial rfl rfl rfl rfl rfl rfl rfl rfl ?_
      refine gCT (as':=[(6,one ⟨rSp (addL (at_ T who).w s),28,2⟩)]) (v':=.slice (some ⟨6,0,none⟩) (addL (at_ T who).w s).length 0) 7 [nA (nm 1 (2 * (who).toNat + 1)),nF 6] [1] (spec_l1Add_c (l:=(at_ T who).w) (s:=s) (hB _ (at_mem (by have:=whoOk_in (who:=who) (by assumption);have:=ok_3 (T:=T) (by assumption);omega) (by have:=whoOk_in (who:=who) (by assumption);have:=ok_3 (T:=T) (by assumption);omega))).2 (spanOk_in (by assumption))) trivial rfl rfl rfl rfl rfl ⟨aRow rfl (rSp_flat _) rfl (inF_1 (by have:=whoOk_in (who:=who) (by assumption);have:=ok_3 (T:=T) (by assumption);omega) (by have:=whoOk_in (who:=who) (by assumption);have:=ok_3 (T:=T) (by assumption);omega)) (.inl rfl) (.inl rfl) rfl,trivial⟩ ⟨rFlatT (rSp_flat _) rfl,trivial⟩ ⟨rfl,rfl⟩ rfl rfl rfl ?_
      refine gU trivial rfl rfl rfl rfl rfl rfl rfl rfl ?_
      refine gCT (as':=[(7,one ⟨rHv (tabV 8 zo (repT T who ⟨cutL (at_ T who).r s,addL (at_ T who).w s⟩)),46,2⟩),(8,inF zo 28 77 (repT T who ⟨cutL (at_ T who).r s,addL (at_ T who).w s⟩))]) (v':=.tuple #[.slice (some ⟨7,0,none⟩) (repT T who ⟨cutL (at_ T who).r s,addL (at_ T who).w s⟩).length 0,.bool (lockOk (setH T who ⟨cutL (at_ T who).r s,addL (at_ T who).w s⟩))]) 9 [nA (nm 0 (0)),nF 1,nA (nm 5 (0)),nA (nm 6 (0)),nF 7,nF 8] [0,1,5,6] (spec_l4Put_c (T:=T) (who:=who) (h:=⟨cutL (at_ T who).r s,addL (at_ T who).w s⟩) hT hB l48 l48 (whoOk_in (by assumption)) (ok_3 (by assumption))) trivial rfl rfl rfl rfl rfl ⟨aTab (k:=kk) rfl rfl rfl rfl (.inl rfl) (.inl rfl) rfl rfl,aIn rfl rfl (.inl rfl) (.inl rfl) rfl,aRow rfl (rSp_flat _) rfl rfl (.inl rfl) (.inl rfl) rfl,aRow rfl (rSp_flat _) rfl rfl (.inl rfl) (.inl rfl) rfl,trivial⟩ ⟨rTab rfl rfl rfl,rIn rfl,trivial⟩ ⟨rfl,rfl⟩ rfl rfl rfl ?_
      refine gE trivial rfl rfl rfl rfl rfl rfl ?_
      refine gE trivial rfl rfl rfl rfl rfl rfl ?_
      refine gM trivial (.inr rfl) rfl rfl rfl ?_
      refine gM trivial (.inr rfl) rfl rfl rfl ?_
      refine rg_nil (fun _=>by kernel_rfl) ?_
      refine vc_ret ?_
      rw [giveH_T c38]
      rw [(res_go (by assumption) (goK_4 (by assumption) (by assumption) (give_yes (by assumption) (by assumption) (by assumption) (by assumption)))).1,(res_go (by assumption) (goK_4 (by assumption) (by assumption) (give_yes (by assumption) (by assumption) (by assumption) (by assumption)))).2]
      exact ⟨_,endsT [(2,7,one ⟨rHv (tabV 3 zo (repT T who ⟨cutL (at_ T who).r s,addL (at_ T who).w s⟩)),46,2⟩),(3,8,inF zo 28 77 (repT T who ⟨cutL (at_ T who).r s,addL (at_ T who).w s⟩))] (.inr rfl) (.tmp rfl rfl (.tmp rfl rfl .nil)) rfl rfl trivial ⟨asTab rfl rfl rfl,asIn rfl,trivial⟩ rfl⟩
     ·skip
      refine vc_skip ?_
      refine vc_seq ?_
      refine vc_region hm ?_
      refine gM trivial (.inl rfl) rfl rfl rfl ?_
      refine gM trivial (.inl rfl) rfl rfl rfl ?_
      refine gF trivial rfl rfl rfl rfl rfl ?_
      refine gL trivial rfl rfl rfl rfl rfl rfl rfl rfl ?_
      refine gL trivial rfl rfl rfl rfl rfl rfl rfl rfl ?_
      refine gCT (as':=[(5,one ⟨rSp (addL (at_ T who).r s),28,2⟩)]) (v':=.slice (some ⟨5,0,none⟩) (addL (at_ T who).r s).length 0) 6 [nA (nm 1 (2 * (who).toNat)),nF 5] [1] (spec_l1Add_c (l:=(at_ T who).r) (s:=s) (hB _ (at_mem (by have:=whoOk_in (who:=who) (by assumption);have:=ok_3 (T:=T) (by assumption);omega) (by have:=whoOk_in (who:=who) (by assumption);have:=ok_3 (T:=T) (by assumption);omega))).1 (spanOk_in (by assumption))) trivial rfl rfl rfl rfl rfl ⟨aRow rfl (rSp_flat _) rfl (inF_0 (by have:=whoOk_in (who:=who) (by assumption);have:=ok_3 (T:=T) (by assumption);omega) (by have:=whoOk_in (who:=who) (by assumption);have:=ok_3 (T:=T) (by assumption);omega)) (.inl rfl) (.inl rfl) rfl,trivial⟩ ⟨rFlatT (rSp_flat _) rfl,trivial⟩ ⟨rfl,rfl⟩ rfl rfl rfl ?_
      refine gF trivial rfl rfl rfl rfl rfl ?_
      refine gL trivial rfl rfl rfl rfl rfl rfl rfl rfl ?_
      refine gCT (as':=[(6,one ⟨rSp (withoutL (addL (at_ T who).r s) (at_ T who).w),28,2⟩)]) (v':=.slice (some ⟨6,0,none⟩) (withoutL (addL (at_ T who).r s) (at_ T who).w).length 0) 7 [nA (nm 5 (0)),nA (nm 1 (2 * (who).toNat + 1)),nF 6] [5,1] (spec_l4Without_c (a:=addL (at_ T who).r s) (b:=(at_ T who).w) l48 (hB _ (at_mem (by have:=whoOk_in (who:=who) (by assumption);have:=ok_3 (T:=T) (by assumption);omega) (by have:=whoOk_in (who:=who) (by assumption);have:=ok_3 (T:=T) (by assumption);omega))).2 (okW (by assumption) (by assumption)).2) trivial rfl rfl rfl rfl rfl ⟨aRow rfl (rSp_flat _) rfl rfl (.inl rfl) (.inl rfl) rfl,aRow rfl (rSp_flat _) rfl (inF_1 (by have:=whoOk_in (who:=who) (by assumption);have:=ok_3 (T:=T) (by assumption);omega) (by have:=whoOk_in (who:=who) (by assumption);have:=ok_3 (T:=T) (by assumption);omega)) (.inl rfl) (.inl rfl) rfl,trivial⟩ ⟨rFlatT (rSp_flat _) rfl,trivial⟩ ⟨rfl,rfl⟩ rfl rfl rfl ?_
      refine gF trivial rfl rfl rfl rfl rfl ?_
      refine gL trivial rfl rfl rfl rfl rfl rfl rfl rfl ?_
      refine gU trivial rfl rfl rfl rfl rfl rfl rfl rfl ?_
      refine gCT (as':=[(7,one ⟨rHv (tabV 8 zo (repT T who ⟨withoutL (addL (at_ T who).r s) (at_ T who).w,(at_ T who).w⟩)),46,2⟩),(8,inF zo 28 77 (repT T who ⟨withoutL (addL (at_ T who).r s) (at_ T who).w,(at_ T who).w⟩))]) (v':=.tuple #[.slice (some ⟨7,0,none⟩) (repT T who ⟨withoutL (addL (at_ T who).r s) (at_ T who).w,(at_ T who).w⟩).length 0,.bool (lockOk (setH T who ⟨withoutL (addL (at_ T who).r s) (at_ T who).w,(at_ T who).w⟩))]) 9 [nA (nm 0 (0)),nF 1,nA (nm 6 (0)),nA (nm 1 (2 * (who).toNat + 1)),nF 7,nF 8] [0,1,6] (spec_l4Put_c (T:=T) (who:=who) (h:=⟨withoutL (addL (at_ T who).r s) (at_ T who).w,(at_ T who).w⟩) hT hB wo_len (hB _ (at_mem (by have:=whoOk_in (who:=who) (by assumption);have:=ok_3 (T:=T) (by assumption);omega) (by have:=whoOk_in (who:=who) (by assumption);have:=ok_3 (T:=T) (by assumption);omega))).2 (whoOk_in (by assumption)) (ok_3 (by assumption))) trivial rfl rfl rfl rfl rfl ⟨aTab (k:=kk) rfl rfl rfl rfl (.inl rfl) (.inl rfl) rfl rfl,aIn rfl rfl (.inl rfl) (.inl rfl) rfl,aRow rfl (rSp_flat _) rfl rfl (.inl rfl) (.inl rfl) rfl,aRow rfl (rSp_flat _) rfl (inF_1 (by have:=whoOk_in (who:=who) (by assumption);have:=ok_3 (T:=T) (by assumption);omega) (by have:=whoOk_in (who:=who) (by assumption);have:=ok_3 (T:=T) (by assumption);omega)) (.inl rfl) (.inl rfl) rfl,trivial⟩ ⟨rTab rfl rfl rfl,rIn rfl,trivial⟩ ⟨rfl,rfl⟩ rfl rfl rfl ?_
      refine gE trivial rfl rfl rfl rfl rfl rfl ?_
      refine gE trivial rfl rfl rfl rfl rfl rfl ?_
      refine gM trivial (.inr rfl) rfl rfl rfl ?_
      refine gM trivial (.inr rfl) rfl rfl rfl ?_
      refine rg_nil (fun _=>by kernel_rfl) ?_
      refine vc_ret ?_
      rw [giveH_F c38]
      rw [(res_go (by assumption) (goK_4 (by assumption) (by assumption) (give_yes (by assumption) (by assumption) (by assumption) (by assumption)))).1,(res_go (by assumption) (goK_4 (by assumption) (by assumption) (give_yes (by assumption) (by assumption) (by assumption) (by assumption)))).2]
      exact ⟨_,endsT [(2,7,one ⟨rHv (tabV 3 zo (repT T who ⟨withoutL (addL (at_ T who).r s) (at_ T who).w,(at_ T who).w⟩)),46,2⟩),(3,8,inF zo 28 77 (repT T who ⟨withoutL (addL (at_ T who).r s) (at_ T who).w,(at_ T who).w⟩))] (.inr rfl) (.tmp rfl rfl (.tmp rfl rfl .nil)) rfl rfl trivial ⟨asTab rfl rfl rfl,asIn rfl,trivial⟩ rfl⟩
theorem spec_LockDown_c {T:List Ho} {who:Int} {s:Sp} {kk cc:Nat} (hT:T.length≤1048576) (hB:∀ h ∈ T,h.r.length≤1048576∧h.w.length≤1048576):FDoes Try.prog 41 [.slice (some ⟨0,kk,none⟩) T.length cc,.int .i64 who,vSp s] (hp [(0,false,one ⟨hls kk (rHv (tabV 1 zo T)),46,0⟩),(1,false,inF zo 28 0 T)]) (mkF (.tuple #[.slice (some ⟨2,0,none⟩) (resT T (goK who s true) who (downH (at_ T who) s)).length 0,.bool (resB T (goK who s true) who (downH (at_ T who) s))]) [0,1] [] [(2,one ⟨rHv (tabV 3 zo (resT T (goK who s true) who (downH (at_ T who) s))),46,2⟩),(3,inF zo 28 77 (resT T (goK who s true) who (downH (at_ T who) s)))]):=by
 have hm:Try.prog.follows .mixedOrders=true:=by kernel_rfl
 have hd_:∀ x_ ∈ ([(0,false,one ⟨hls kk (rHv (tabV 1 zo T)),46,0⟩),(1,false,inF zo 28 0 T)]:List (Nat × Bool × Fam)),∀ k_ y_,x_.2.2 k_=some y_→DetB (lt 2) y_:=by
  intro x_ hx k_ y_ e
  simp only [List.mem_cons,List.not_mem_nil,or_false] at hx
  rcases hx with rfl|rfl
  ·exact det_tab (k0:=kk) rfl e
  ·exact det_in e
 refine fn_exact (u0:=2) Try.func41 rfl rfl (gets rfl rfl rfl hd_ rfl) ?_
 clear hd_
 refine vc_seq ?_
 refine vc_region hm ?_
 refine gB (u':=3) trivial rfl rfl rfl rfl rfl rfl rfl rfl ?_
 refine gM trivial (.inr rfl) rfl rfl rfl ?_
 refine gM trivial (.inr rfl) rfl rfl rfl ?_
 refine rg_nil nofun ?_
 refine vc_seq ?_
 refine vc_seq ?_
 refine vc_region hm ?_
 refine gM trivial (.inl rfl) rfl rfl rfl ?_
 refine gCT0 [nA (nm 0 (0)),nF 1] [0,1] (spec_LockOk_c (T:=T) hT hB) trivial rfl rfl rfl rfl rfl ⟨aTab (k:=kk) rfl rfl rfl rfl (.inl rfl) (.inl rfl) rfl rfl,aIn rfl rfl (.inl rfl) (.inl rfl) rfl,trivial⟩ rfl rfl rfl rfl ?_
 refine gN trivial rfl rfl rfl rfl ?_
 refine rg_nil nofun ?_
 refine cI rfl (fun c13=>?_) (fun c13=>?_)
 ·skip
  have n13:=unT c13
  refine vc_seq ?_
  refine vc_region hm ?_
  refine gR (u':=4) trivial rfl rfl rfl rfl rfl rfl rfl rfl rfl rfl rfl rfl rfl rfl ?_
  refine gM trivial (.inr rfl) rfl rfl rfl ?_
  refine gM trivial (.inr rfl) rfl rfl rfl ?_
  refine rg_nil nofun ?_
  refine vc_re (S2:=⟨5,[(6,.slice (some ⟨3,0,none⟩) 0 0),(7,.bool false)],[(0,false,one ⟨hls kk (rHv (tabV 1 zo T)),46,0⟩),(1,false,inF zo 28 0 T),(3,true,one ⟨rHv (tabV 4 zo []),46,2⟩),(4,true,inF zo 28 77 [])]⟩) (re_nil (ms:=[0,1,2,3]) (C:=4) rfl ⟨⟨⟨rfl,rfl⟩,rfl⟩,⟨⟨rfl,rfl⟩,rfl⟩,trivial⟩ ⟨ktTab (k:=kk) rfl rfl (.inr (.inl rfl)) id rfl rfl,ktIn rfl id rfl,ktFlat rfl rfl (.inr (.inl rfl)) id rfl,ktInN (n:=0) rfl (by decide) rfl,trivial⟩ rfl rfl (rig_of rfl) rfl) ?_
  refine vc_ret ?_
  rw [(res_no (by assumption)).1,(res_no (by assumption)).2]
  exact ⟨_,endsT [(2,3,one ⟨rHv (tabV 3 zo []),46,2⟩),(3,4,inF zo 28 77 [])] (.inr rfl) (.tmp rfl rfl (.tmp rfl rfl .nil)) rfl rfl trivial ⟨asTab rfl rfl rfl,asIn rfl,trivial⟩ rfl⟩
 ·skip
  have n13:=unF c13
  refine vc_skip ?_
  refine vc_seq ?_
  refine vc_seq ?_
  refine vc_region hm ?_
  refine gM trivial (.inl rfl) rfl rfl rfl ?_
  refine gC0 [] (spec_l4Who_c who) trivial rfl rfl rfl rfl (by trivial) rfl rfl rfl rfl rfl ?_
  refine gN trivial rfl rfl rfl rfl ?_
  refine gM trivial (.inl rfl) rfl rfl rfl ?_
  refine gI2 (d:=18) rfl (fun c18=>?_) (fun c18=>?_)
  ·skip
   have n18:=unT c18
   refine gO ⟨_,_,rfl,rfl,c18⟩ rfl rfl ?_
   refine gO ⟨_,_,rfl,rfl,c18⟩ rfl rfl ?_
   refine gO ⟨_,_,rfl,rfl,c18⟩ rfl rfl ?_
   refine gPT trivial rfl rfl c18 rfl rfl rfl ?_
   refine rg_nil nofun ?_
   refine cT rfl rfl ?_
   refine vc_seq ?_
   refine vc_region hm ?_
   refine gM trivial (.inl rfl) rfl rfl rfl ?_
   refine gCT (as':=[(3,one ⟨rHv (tabV 4 zo T),46,2⟩),(4,inF zo 28 77 T)]) (v':=.slice (some ⟨3,0,none⟩) T.length 0) 5 [nA (nm 0 (0)),nF 1,nF 3,nF 4] [0,1] (spec_l4Copy_c (T:=T) hT hB) trivial rfl rfl rfl rfl rfl ⟨aTab (k:=kk) rfl rfl rfl rfl (.inl rfl) (.inl rfl) rfl rfl,aIn rfl rfl (.inl rfl) (.inl rfl) rfl,trivial⟩ ⟨rTab rfl rfl rfl,rIn rfl,trivial⟩ ⟨rfl,rfl⟩ rfl rfl rfl ?_
   refine gM trivial (.inr rfl) rfl rfl rfl ?_
   refine gM trivial (.inr rfl) rfl rfl rfl ?_
   refine rg_nil nofun ?_
   refine vc_ret ?_
   rw [(res_stay (by assumption) (by first|exact goK_1 (by assumption)|exact goK_2 (by assumption)|exact goK_3 (by assumption))).1,(res_stay (by assumption) (by first|exact goK_1 (by assumption)|exact goK_2 (by assumption)|exact goK_3 (by assumption))).2]
   exact ⟨_,endsT [(2,3,one ⟨rHv (tabV 3 zo T),46,2⟩),(3,4,inF zo 28 77 T)] (.inr rfl) (.tmp rfl rfl (.tmp rfl rfl .nil)) rfl rfl trivial ⟨asTab rfl rfl rfl,asIn rfl,trivial⟩ rfl⟩
  ·skip
   have n18:=unF c18
   refine gL ⟨_,_,rfl,rfl,c18⟩ rfl rfl rfl rfl rfl rfl rfl rfl ?_
   refine gC0 [] (spec_SpanOk_c s) ⟨_,_,rfl,rfl,c18⟩ rfl rfl rfl rfl (by trivial) rfl rfl rfl rfl rfl ?_
   refine gN ⟨_,_,rfl,rfl,c18⟩ rfl rfl rfl rfl ?_
   refine gPF trivial rfl rfl c18 rfl rfl rfl ?_
   refine rg_nil nofun ?_
   refine cI rfl (fun c22=>?_) (fun c22=>?_)
   ·skip
    have n22:=unT c22
    refine vc_seq ?_
    refine vc_region hm ?_
    refine gM trivial (.inl rfl) rfl rfl rfl ?_
    refine gCT (as':=[(3,one ⟨rHv (tabV 4 zo T),46,2⟩),(4,inF zo 28 77 T)]) (v':=.slice (some ⟨3,0,none⟩) T.length 0) 5 [nA (nm 0 (0)),nF 1,nF 3,nF 4] [0,1] (spec_l4Copy_c (T:=T) hT hB) trivial rfl rfl rfl rfl rfl ⟨aTab (k:=kk) rfl rfl rfl rfl (.inl rfl) (.inl rfl) rfl rfl,aIn rfl rfl (.inl rfl) (.inl rfl) rfl,trivial⟩ ⟨rTab rfl rfl rfl,rIn rfl,trivial⟩ ⟨rfl,rfl⟩ rfl rfl rfl ?_
    refine gM trivial (.inr rfl) rfl rfl rfl ?_
    refine gM trivial (.inr rfl) rfl rfl rfl ?_
    refine rg_nil nofun ?_
    refine vc_ret ?_
    rw [(res_stay (by assumption) (by first|exact goK_1 (by assumption)|exact goK_2 (by assumption)|exact goK_3 (by assumption))).1,(res_stay (by assumption) (by first|exact goK_1 (by assumption)|exact goK_2 (by assumption)|exact goK_3 (by assumption))).2]
    exact ⟨_,endsT [(2,3,one ⟨rHv (tabV 3 zo T),46,2⟩),(3,4,inF zo 28 77 T)] (.inr rfl) (.tmp rfl rfl (.tmp rfl rfl .nil)) rfl rfl trivial ⟨asTab rfl rfl rfl,asIn rfl,trivial⟩ rfl⟩
   ·skip
    have n22:=unF c22
    refine vc_skip ?_
    refine vc_seq ?_
    refine vc_region hm ?_
    refine gM trivial (.inl rfl) rfl rfl rfl ?_
    refine gM trivial (.inl rfl) rfl rfl rfl ?_
    refine gX trivial rfl rfl rfl rfl rfl rfl rfl rfl (by have:=whoOk_in (who:=who) (by assumption);have:=ok_3 (T:=T) (by assumption);omega) (by have:=whoOk_in (who:=who) (by assumption);have:=ok_3 (T:=T) (by assumption);omega) (fun h=>hls_ne (tabV_ne h)) ?_
    refine gL trivial rfl rfl rfl rfl rfl rfl rfl (aHk (by have:=whoOk_in (who:=who) (by assumption);have:=ok_3 (T:=T) (by assumption);omega) (by have:=whoOk_in (who:=who) (by assumption);have:=ok_3 (T:=T) (by assumption);omega)) ?_
    refine gZ (u':=4) trivial rfl rfl rfl rfl rfl rfl rfl rfl ?_
    refine gT trivial rfl rfl rfl rfl rfl rfl rfl rfl rfl rfl (Nat.le_of_ble_eq_true rfl) rfl ?_
    refine rg_nil nofun ?_
    refine vc_seq ?_
    refine vc_region hm ?_
    refine gF trivial rfl rfl rfl rfl rfl ?_
    refine gL trivial rfl rfl rfl rfl rfl rfl rfl rfl ?_
    refine gCT (as':=[(4,one ⟨plL (fun x=>l1In (at_ T who).r (x:Int)),4,1⟩)]) (v':=.slice (some ⟨4,0,none⟩) 48 0) 5 [nA (nm 1 (2 * (who).toNat)),nF 4] [1] (spec_l1Places_c (l:=(at_ T who).r) (hB _ (at_mem (by have:=whoOk_in (who:=who) (by assumption);have:=ok_3 (T:=T) (by assumption);omega) (by have:=whoOk_in (who:=who) (by assumption);have:=ok_3 (T:=T) (by assumption);omega))).1) trivial rfl rfl rfl rfl rfl ⟨aRow rfl (rSp_flat _) rfl (inF_0 (by have:=whoOk_in (who:=who) (by assumption);have:=ok_3 (T:=T) (by assumption);omega) (by have:=whoOk_in (who:=who) (by assumption);have:=ok_3 (T:=T) (by assumption);omega)) (.inl rfl) (.inl rfl) rfl,trivial⟩ ⟨rFlatT (plL_flat _) rfl,trivial⟩ ⟨rfl,rfl⟩ rfl rfl rfl ?_
    refine gM trivial (.inr rfl) rfl rfl rfl ?_
    refine rg_nil nofun ?_
    refine vc_seq ?_
    refine vc_seq ?_
    refine vc_region hm ?_
    refine gF trivial rfl rfl rfl rfl rfl ?_
    refine gL trivial rfl rfl rfl rfl rfl rfl rfl rfl ?_
    refine gM trivial (.inr rfl) rfl rfl rfl ?_
    refine rg_nil nofun ?_
    refine vc_block ?_
    refine vc_loopT (fun n_ S_=>∃ (i:Int),s.lo≤i∧i≤s.hi∧n_=(s.hi - i).toNat∧S_=⟨5,[(0,.slice (some ⟨0,kk,none⟩) T.length cc),(1,.int .i64 who),(5,.pointer (some ⟨2,0,none⟩)),(8,.pointer (some ⟨3,0,none⟩)),(9,.slice (some ⟨4,0,none⟩) 48 0),(10,.int .i64 i)],[(0,false,one ⟨hls kk (rHv (tabV 1 zo T)),46,0⟩),(1,false,inF zo 28 0 T),(2,true,one ⟨[.int .i64 s.lo,.int .i64 s.hi],28,2⟩),(3,true,one ⟨[.slice (some ⟨nm 1 (2 * (who).toNat),0,none⟩) (at_ T who).r.length 0,.slice (some ⟨nm 1 (2 * (who).toNat + 1),0,none⟩) (at_ T who).w.length 0],46,2⟩),(4,true,one ⟨plL (dnP (at_ T who) s i),4,1⟩)]⟩) ⟨s.lo,Int.le_refl _,(by have:=spanOk_in (s:=s) (by assumption);omega),rfl,rfl⟩ (re_nil (ms:=[0,1,2,3,4]) (C:=999) rfl ⟨⟨⟨rfl,rfl⟩,rfl⟩,⟨⟨rfl,rfl⟩,rfl⟩,⟨⟨rfl,rfl⟩,rfl⟩,⟨⟨rfl,rfl⟩,rfl⟩,⟨⟨rfl,rfl⟩,rfl⟩,⟨⟨rfl,rfl⟩,rfl⟩,trivial⟩ ⟨ktTab (k:=kk) rfl rfl (.inr (.inl rfl)) id rfl rfl,ktIn rfl id rfl,ktFlat rfl rfl (.inr (.inl rfl)) id rfl,ktHv rfl rfl id rfl rfl,ktFlat (plL_flat _) (eqH dn_0) (.inr (.inl rfl)) id rfl,trivial⟩ rfl rfl (rig_of rfl) rfl) ?_
    rintro n_ S_ ⟨i,hi,hj,rfl,rfl⟩
    refine vc_seq ?_
    refine vc_seq ?_
    refine vc_region hm ?_
    refine gM trivial (.inl rfl) rfl rfl rfl ?_
    refine gF trivial rfl rfl rfl rfl rfl ?_
    refine gL trivial rfl rfl rfl rfl rfl rfl rfl rfl ?_
    refine gI trivial rfl rfl rfl rfl rfl rfl ?_
    refine rg_nil nofun ?_
    refine cI rfl (fun c37=>?_) (fun c37=>?_)
    ·skip
     have p37:=of_decide_eq_true c37
     refine vc_skip ?_
     refine vc_seq ?_
     refine vc_block ?_
     refine vc_region hm ?_
     refine gM trivial (.inl rfl) rfl rfl rfl ?_
     refine gM trivial (.inl rfl) rfl rfl rfl ?_
     refine gM trivial (.inl rfl) rfl rfl rfl ?_
     refine gM trivial (.inl rfl) rfl rfl rfl ?_
     refine gX trivial rfl rfl rfl rfl rfl rfl rfl rfl (by have:=spanOk_in (s:=s) (by assumption);omega) (by have:=spanOk_in (s:=s) (by assumption);omega) (fun _=>plL_ne) ?_
     refine gL trivial rfl rfl rfl rfl rfl rfl rfl (lPl (by have:=spanOk_in (s:=s) (by assumption);omega) (by have:=spanOk_in (s:=s) (by assumption);omega)) ?_
     refine gM trivial (.inl rfl) rfl rfl rfl ?_
     refine gI2 (d:=46) rfl (fun c46=>?_) (fun c46=>?_)
     ·skip
      refine gO ⟨_,_,rfl,rfl,c46⟩ rfl rfl ?_
      refine gO ⟨_,_,rfl,rfl,c46⟩ rfl rfl ?_
      refine gO ⟨_,_,rfl,rfl,c46⟩ rfl rfl ?_
      refine gO ⟨_,_,rfl,rfl,c46⟩ rfl rfl ?_
      refine gPT trivial rfl rfl c46 rfl rfl rfl ?_
      refine gX trivial rfl rfl rfl rfl rfl rfl rfl rfl (by have:=spanOk_in (s:=s) (by assumption);omega) (by have:=spanOk_in (s:=s) (by assumption);omega) (fun _=>plL_ne) ?_
      refine gT trivial rfl rfl rfl rfl rfl rfl rfl rfl rfl rfl (kPl (by have:=spanOk_in (s:=s) (by assumption);omega) (by have:=spanOk_in (s:=s) (by assumption);omega)) (sPl (by have:=spanOk_in (s:=s) (by assumption);omega) (by have:=spanOk_in (s:=s) (by assumption);omega)) ?_
      refine rg_nil nofun ?_
      refine vc_region hm ?_
      refine gM trivial (.inl rfl) rfl rfl rfl ?_
      refine gA trivial rfl rfl rfl rfl rfl rfl (by have:=spanOk_in (s:=s) (by assumption);omega) ?_
      refine gM trivial (.inr rfl) rfl rfl rfl ?_
      refine rg_nil nofun ?_
      exact lp_nextT ⟨i + 1,(by omega),(by omega),rfl,rfl⟩ (by omega) (re_nil (ms:=[0,1,2,3,4]) (C:=999) rfl ⟨⟨⟨rfl,rfl⟩,rfl⟩,⟨⟨rfl,rfl⟩,rfl⟩,⟨⟨rfl,rfl⟩,rfl⟩,⟨⟨rfl,rfl⟩,rfl⟩,⟨⟨rfl,rfl⟩,rfl⟩,⟨⟨rfl,rfl⟩,rfl⟩,trivial⟩ ⟨ktTab (k:=kk) rfl rfl (.inr (.inl rfl)) id rfl rfl,ktIn rfl id rfl,ktFlat rfl rfl (.inr (.inl rfl)) id rfl,ktHv rfl rfl id rfl rfl,ktFlat (plL_flat _) (eqH (dn_step (by have:=spanOk_in (s:=s) (by assumption);omega) hi (by first|exact dn_T (by assumption)|exact dn_F (by assumption)))) (.inr (.inl rfl)) id rfl,trivial⟩ rfl rfl (rig_of rfl) rfl)
     ·skip
      refine gF ⟨_,_,rfl,rfl,c46⟩ rfl rfl rfl rfl rfl ?_
      refine gL ⟨_,_,rfl,rfl,c46⟩ rfl rfl rfl rfl rfl rfl rfl rfl ?_
      refine gM ⟨_,_,rfl,rfl,c46⟩ (.inl rfl) rfl rfl rfl ?_
      refine gCT0 [nA (nm 1 (2 * (who).toNat + 1))] [1] (spec_l1In_c (l:=(at_ T who).w) (a:=i) (hB _ (at_mem (by have:=whoOk_in (who:=who) (by assumption);have:=ok_3 (T:=T) (by assumption);omega) (by have:=whoOk_in (who:=who) (by assumption);have:=ok_3 (T:=T) (by assumption);omega))).2) ⟨_,_,rfl,rfl,c46⟩ rfl rfl rfl rfl rfl ⟨aRow rfl (rSp_flat _) rfl (inF_1 (by have:=whoOk_in (who:=who) (by assumption);have:=ok_3 (T:=T) (by assumption);omega) (by have:=whoOk_in (who:=who) (by assumption);have:=ok_3 (T:=T) (by assumption);omega)) (.inl rfl) (.inl rfl) rfl,trivial⟩ rfl rfl rfl rfl ?_
      refine gPF trivial rfl rfl c46 rfl rfl rfl ?_
      refine gX trivial rfl rfl rfl rfl rfl rfl rfl rfl (by have:=spanOk_in (s:=s) (by assumption);omega) (by have:=spanOk_in (s:=s) (by assumption);omega) (fun _=>plL_ne) ?_
      refine gT trivial rfl rfl rfl rfl rfl rfl rfl rfl rfl rfl (kPl (by have:=spanOk_in (s:=s) (by assumption);omega) (by have:=spanOk_in (s:=s) (by assumption);omega)) (sPl (by have:=spanOk_in (s:=s) (by assumption);omega) (by have:=spanOk_in (s:=s) (by assumption);omega)) ?_
      refine rg_nil nofun ?_
      refine vc_region hm ?_
      refine gM trivial (.inl rfl) rfl rfl rfl ?_
      refine gA trivial rfl rfl rfl rfl rfl rfl (by have:=spanOk_in (s:=s) (by assumption);omega) ?_
      refine gM trivial (.inr rfl) rfl rfl rfl ?_
      refine rg_nil nofun ?_
      exact lp_nextT ⟨i + 1,(by omega),(by omega),rfl,rfl⟩ (by omega) (re_nil (ms:=[0,1,2,3,4]) (C:=999) rfl ⟨⟨⟨rfl,rfl⟩,rfl⟩,⟨⟨rfl,rfl⟩,rfl⟩,⟨⟨rfl,rfl⟩,rfl⟩,⟨⟨rfl,rfl⟩,rfl⟩,⟨⟨rfl,rfl⟩,rfl⟩,⟨⟨rfl,rfl⟩,rfl⟩,trivial⟩ ⟨ktTab (k:=kk) rfl rfl (.inr (.inl rfl)) id rfl rfl,ktIn rfl id rfl,ktFlat rfl rfl (.inr (.inl rfl)) id rfl,ktHv rfl rfl id rfl rfl,ktFlat (plL_flat _) (eqH (dn_step (by have:=spanOk_in (s:=s) (by assumption);omega) hi (by first|exact dn_T (by assumption)|exact dn_F (by assumption)))) (.inr (.inl rfl)) id rfl,trivial⟩ rfl rfl (rig_of rfl) rfl)
    ·skip
     have p37:=of_decide_eq_false c37
     refine vc_exit ?_
     refine vc_seq ?_
     refine vc_region hm ?_
     refine gM trivial (.inl rfl) rfl rfl rfl ?_
     refine gM trivial (.inl rfl) rfl rfl rfl ?_
     refine gM trivial (.inl rfl) rfl rfl rfl ?_
     refine gCn 6 [4,5] (spec_l1Of_c (dnP (at_ T who) s i)) trivial rfl rfl rfl rfl ⟨rFlat (plL_flat _) rfl (.inl rfl) rfl,trivial⟩ ⟨rSp_flat _,trivial⟩ rfl rfl rfl rfl ?_
     refine gF trivial rfl rfl rfl rfl rfl ?_
     refine gL trivial rfl rfl rfl rfl rfl rfl rfl rfl ?_
     refine gL trivial rfl rfl rfl rfl rfl rfl rfl rfl ?_
     refine gCT (as':=[(6,one ⟨rSp (cutL (at_ T who).w s),28,2⟩)]) (v':=.slice (some ⟨6,0,none⟩) (cutL (at_ T who).w s).length 0) 7 [nA (nm 1 (2 * (who).toNat + 1)),nF 6] [1] (spec_l1Cut_c (l:=(at_ T who).w) (s:=s) (hB _ (at_mem (by have:=whoOk_in (who:=who) (by assumption);have:=ok_3 (T:=T) (by assumption);omega) (by have:=whoOk_in (who:=who) (by assumption);have:=ok_3 (T:=T) (by assumption);omega))).2 (spanOk_in (by assumption))) trivial rfl rfl rfl rfl rfl ⟨aRow rfl (rSp_flat _) rfl (inF_1 (by have:=whoOk_in (who:=who) (by assumption);have:=ok_3 (T:=T) (by assumption);omega) (by have:=whoOk_in (who:=who) (by assumption);have:=ok_3 (T:=T) (by assumption);omega)) (.inl rfl) (.inl rfl) rfl,trivial⟩ ⟨rFlatT (rSp_flat _) rfl,trivial⟩ ⟨rfl,rfl⟩ rfl rfl rfl ?_
     refine gU trivial rfl rfl rfl rfl rfl rfl rfl rfl ?_
     refine gCT (as':=[(7,one ⟨rHv (tabV 8 zo (repT T who ⟨l1ofP (dnP (at_ T who) s i),cutL (at_ T who).w s⟩)),46,2⟩),(8,inF zo 28 77 (repT T who ⟨l1ofP (dnP (at_ T who) s i),cutL (at_ T who).w s⟩))]) (v':=.tuple #[.slice (some ⟨7,0,none⟩) (repT T who ⟨l1ofP (dnP (at_ T who) s i),cutL (at_ T who).w s⟩).length 0,.bool (lockOk (setH T who ⟨l1ofP (dnP (at_ T who) s i),cutL (at_ T who).w s⟩))]) 9 [nA (nm 0 (0)),nF 1,nA (nm 5 (0)),nA (nm 6 (0)),nF 7,nF 8] [0,1,5,6] (spec_l4Put_c (T:=T) (who:=who) (h:=⟨l1ofP (dnP (at_ T who) s i),cutL (at_ T who).w s⟩) hT hB l48 l48 (whoOk_in (by assumption)) (ok_3 (by assumption))) trivial rfl rfl rfl rfl rfl ⟨aTab (k:=kk) rfl rfl rfl rfl (.inl rfl) (.inl rfl) rfl rfl,aIn rfl rfl (.inl rfl) (.inl rfl) rfl,aRow rfl (rSp_flat _) rfl rfl (.inl rfl) (.inl rfl) rfl,aRow rfl (rSp_flat _) rfl rfl (.inl rfl) (.inl rfl) rfl,trivial⟩ ⟨rTab rfl rfl rfl,rIn rfl,trivial⟩ ⟨rfl,rfl⟩ rfl rfl rfl ?_
     refine gE trivial rfl rfl rfl rfl rfl rfl ?_
     refine gE trivial rfl rfl rfl rfl rfl rfl ?_
     refine gM trivial (.inr rfl) rfl rfl rfl ?_
     refine gM trivial (.inr rfl) rfl rfl rfl ?_
     refine rg_nil (fun _=>by kernel_rfl) ?_
     refine vc_ret ?_
     rw [down_eq p37 hj]
     rw [(res_go (by assumption) (goK_4 (by assumption) (by assumption) rfl)).1,(res_go (by assumption) (goK_4 (by assumption) (by assumption) rfl)).2]
     exact ⟨_,endsT [(2,7,one ⟨rHv (tabV 3 zo (repT T who ⟨l1ofP (dnP (at_ T who) s i),cutL (at_ T who).w s⟩)),46,2⟩),(3,8,inF zo 28 77 (repT T who ⟨l1ofP (dnP (at_ T who) s i),cutL (at_ T who).w s⟩))] (.inr rfl) (.tmp rfl rfl (.tmp rfl rfl .nil)) rfl rfl trivial ⟨asTab rfl rfl rfl,asIn rfl,trivial⟩ rfl⟩
abbrev T0:List Ho:=List.replicate 3 default
theorem resT_ok {T:List Ho} {go:Bool} {who:Int} {x:Ho} (h:lockOk T=true):lockOk (resT T go who x)=true:=by
 unfold resT
 rw [if_pos h]
 split
 ·unfold repT
  split
  ·assumption
  ·exact h
 ·exact h
theorem lk_B0 {T:List Ho} (h:lockOk T=true):∀ x ∈ T,x.r.length≤12∧x.w.length≤12:=fun x hx=>by
 obtain ⟨i,hi,rfl⟩:=List.mem_iff_getElem.1 hx
 have:=ok_at h (i:=i) hi
 rw [at_get hi]
 exact ⟨spansOk_len this.1,spansOk_len this.2.1⟩
theorem lk_T {T:List Ho} (h:lockOk T=true):T.length≤1048576:=by have:=ok_3 h;omega
theorem lk_B {T:List Ho} (h:lockOk T=true):∀ x ∈ T,x.r.length≤1048576∧x.w.length≤1048576:=fun x hx=>by have:=lk_B0 h x hx;omega
theorem l4None_c : ∃ E,FDoes Try.prog 76 [] (hp []) E∧∃ T:List Ho,lockOk T=true∧E=mkF (.slice (some ⟨0,0,none⟩) T.length 0) [] [] [(0,one ⟨rHv (tabV 1 zo T),46,77⟩),(1,inF zo 28 77 T)]:=by
 have hm:Try.prog.follows .mixedOrders=true:=by kernel_rfl
 have hd_:∀ x ∈ ([]:List (Nat × Bool × Fam)),∀ k y,x.2.2 k=some y→DetB (lt 0) y:=fun x_ hx=>(by cases hx)
 refine fn_some (u0:=0) Try.func76 rfl rfl (gets rfl rfl rfl hd_ rfl) ?_
 clear hd_
 refine vc_seq ?_
 refine vc_region hm ?_
 refine gM trivial (.inr rfl) rfl rfl rfl ?_
 refine rg_nil nofun ?_
 refine vc_seq ?_
 refine vc_region hm ?_
 refine gMk (u':=1) trivial rfl rfl rfl rfl rfl rfl rfl rfl rfl rfl rfl rfl rfl rfl ⟨by decide,by decide⟩ (zeros_row (enc:=eHv) (n:=2) (fun _=>rfl) (by decide) rfl 3) ?_
 refine gM trivial (.inr rfl) rfl rfl rfl ?_
 refine rg_nil nofun ?_
 refine vc_re (S2:=⟨2,[(0,.slice (some ⟨0,0,none⟩) T0.length 0)],[(0,true,one ⟨rHv (tabV 1 zo T0),46,77⟩),(1,true,inF zo 28 77 T0)]⟩) (re_nil (ms:=[0]) (C:=1) rfl ⟨⟨⟨rfl,rfl⟩,rfl⟩,trivial⟩ ⟨ktTabN (n:=3) rfl rfl (.inr (.inr ⟨by decide,by decide,by decide⟩)) id rfl rfl,ktInN (n:=3) rfl (by decide) rfl,trivial⟩ rfl rfl (rig_of rfl) rfl) ?_
 refine vc_ret ?_
 exact ⟨_,_,endsT (v:=.slice (some ⟨0,0,none⟩) T0.length 0) (ups:=[]) (rd:=[]) [(0,0,one ⟨rHv (tabV 1 zo T0),46,77⟩),(1,1,inF zo 28 77 T0)] (.inr rfl) (.tmp rfl rfl .nil) rfl rfl trivial ⟨asTab rfl rfl rfl,asIn rfl,trivial⟩ rfl,T0,rfl,rfl⟩
theorem l4Some_c {l:List Int} {k n t0:Nat} {p:Int} (hl:ByL l) (hn:n≤l.length) (hp0:0≤p) (hp1:p≤994000):∃ E,FDoes Try.prog 44 [.pointer (some ⟨1,0,none⟩)] (hp [(0,false,one ⟨hls k (rY l),t0,0⟩),(1,true,one ⟨[.slice (some ⟨0,k,none⟩) n 0,.int .i64 (p)],82,2⟩)]) E∧∃ (T:List Ho) (p2:Int),lockOk T=true∧p≤p2∧p2≤p + 70∧E=mkF (.slice (some ⟨2,0,none⟩) T.length 0) [0] [(1,one ⟨[.slice (some ⟨0,k,none⟩) n 0,.int .i64 (p2)],82,2⟩)] [(2,one ⟨rHv (tabV 3 zo T),46,77⟩),(3,inF zo 28 77 T)]:=by
 have hm:Try.prog.follows .mixedOrders=true:=by kernel_rfl
 have hd_:∀ x_ ∈ ([(0,false,one ⟨hls k (rY l),t0,0⟩),(1,true,one ⟨[.slice (some ⟨0,k,none⟩) n 0,.int .i64 (p)],82,2⟩)]:List (Nat × Bool × Fam)),∀ k_ y_,x_.2.2 k_=some y_→DetB (lt 2) y_:=by
  intro x_ hx k_ y_ e
  simp only [List.mem_cons,List.not_mem_nil,or_false] at hx
  rcases hx with rfl|rfl
  ·exact det_code e
  ·exact det_ok rfl e
 refine fn_some (u0:=2) Try.func44 rfl rfl (gets rfl rfl rfl hd_ rfl) ?_
 clear hd_
 refine vc_seq ?_
 refine vc_region hm ?_
 refine gM trivial (.inr rfl) rfl rfl rfl ?_
 refine rg_nil nofun ?_
 refine vc_seq ?_
 refine vc_region hm ?_
 obtain ⟨EN,hEN,TN,hkN,rfl⟩:=l4None_c
 refine gCT (as':=[(2,one ⟨rHv (tabV 3 zo TN),46,77⟩),(3,inF zo 28 77 TN)]) (v':=.slice (some ⟨2,0,none⟩) TN.length 0) 4 [nF 2,nF 3] [] (hEN) trivial rfl rfl rfl rfl rfl trivial ⟨rTab rfl rfl rfl,rIn rfl,trivial⟩ ⟨rfl,rfl⟩ rfl rfl rfl ?_
 refine gM trivial (.inr rfl) rfl rfl rfl ?_
 refine rg_nil nofun ?_
 refine vc_seq ?_
 refine vc_seq ?_
 refine vc_region hm ?_
 refine gM trivial (.inl rfl) rfl rfl rfl ?_
 refine gR (u':=5) (out:=rI [4,8,12,2,0]) trivial rfl rfl rfl rfl rfl rfl rfl rfl rfl rfl rfl rfl rfl rfl ?_
 obtain ⟨E1,hE1,x1,x1a,x1b,rfl⟩:=num_c (k:=k) (t0:=t0) (p:=p) hl hn (by omega) (by omega) (L:=[4,8,12,2,0]) (a:=0) (b:=12) (by decide) (by decide)
 refine gCF (ups':=[(1,one ⟨[.slice (some ⟨0,k,none⟩) n 0,.int .i64 (p + 1)],82,2⟩)]) (as':=[]) (v':=.int .i64 x1) 5 [0,1,4] hE1 trivial rfl rfl rfl rfl ⟨rCode rfl rfl,rCells rfl ⟨rfl,rfl,.inr rfl⟩ rfl,rFlat (rI_flat _) rfl (.inl rfl) rfl,trivial⟩ ⟨frOne rfl rfl,trivial⟩ trivial rfl rfl (ho1 ⟨_,rfl⟩) (hu1 rfl) rfl rfl ?_
 refine gM trivial (.inr rfl) rfl rfl rfl ?_
 refine rg_nil nofun ?_
 refine vc_block ?_
 refine vc_loopT (fun n_ S_=>∃ (T:List Ho) (i q:Int),lockOk T=true∧0≤i∧i≤12∧p≤q∧q≤p + 1 + 5 * (12 - i)∧n_=i.toNat∧S_=⟨4,[(0,.pointer (some ⟨1,0,none⟩)),(3,.slice (some ⟨2,0,none⟩) T.length 0),(4,.int .i64 i)],[(0,false,one ⟨hls k (rY l),t0,0⟩),(1,true,one ⟨[.slice (some ⟨0,k,none⟩) n 0,.int .i64 (q)],82,2⟩),(2,true,one ⟨rHv (tabV 3 zo T),46,77⟩),(3,true,inF zo 28 77 T)]⟩) ⟨TN,x1,p + 1,hkN,(by omega),(by omega),(by omega),(by omega),rfl,rfl⟩ (re_nil (ms:=[0,1,2,3]) (C:=999) rfl ⟨⟨⟨rfl,rfl⟩,rfl⟩,⟨⟨rfl,rfl⟩,rfl⟩,⟨⟨rfl,rfl⟩,rfl⟩,trivial⟩ ⟨ktCode rfl rfl,ktRow rfl rfl rfl (BlkW.refl _) id rfl,ktTab (k:=0) rfl rfl (.inr (.inl rfl)) id rfl rfl,ktIn rfl id rfl,trivial⟩ rfl rfl (rig_of rfl) rfl) ?_
 rintro n_ S_ ⟨T,i,q,hk,hi0,hi,hq,hr,rfl,rfl⟩
 refine vc_seq ?_
 refine vc_seq ?_
 refine vc_region hm ?_
 refine gM trivial (.inl rfl) rfl rfl rfl ?_
 refine gI trivial rfl rfl rfl rfl rfl rfl ?_
 refine rg_nil nofun ?_
 refine cI rfl (fun c12=>?_) (fun c12=>?_)
 ·skip
  have p12:=of_decide_eq_true c12
  refine vc_skip ?_
  refine vc_seq ?_
  refine vc_block ?_
  refine vc_seq ?_
  refine vc_region hm ?_
  refine gM trivial (.inl rfl) rfl rfl rfl ?_
  obtain ⟨E3,hE3,x3,x3a,x3b,rfl⟩:=pick_c (k:=k) (t0:=t0) (p:=q) hl hn (by omega) (by omega) (m:=3) (by omega) (by omega)
  refine gCF (ups':=[(1,one ⟨[.slice (some ⟨0,k,none⟩) n 0,.int .i64 (q + 1)],82,2⟩)]) (as':=[]) (v':=.int .i64 x3) 4 [0,1] hE3 trivial rfl rfl rfl rfl ⟨rCode rfl rfl,rCells rfl ⟨rfl,rfl,.inr rfl⟩ rfl,trivial⟩ ⟨frOne rfl rfl,trivial⟩ trivial rfl rfl (ho1 ⟨_,rfl⟩) (hu1 rfl) rfl rfl ?_
  refine gM trivial (.inr rfl) rfl rfl rfl ?_
  refine rg_nil nofun ?_
  refine vc_seq ?_
  refine vc_region hm ?_
  refine gM trivial (.inl rfl) rfl rfl rfl ?_
  obtain ⟨E4,hE4,s4,p4,s4a,s4b,s4c,q4a,q4b,rfl⟩:=span_c (k:=k) (t0:=t0) (p:=q + 1) hl hn (by omega) (by omega) 
  refine gCF (ups':=[(1,one ⟨[.slice (some ⟨0,k,none⟩) n 0,.int .i64 (p4)],82,2⟩)]) (as':=[]) (v':=vSp s4) 4 [0,1] hE4 trivial rfl rfl rfl rfl ⟨rCode rfl rfl,rCells rfl ⟨rfl,rfl,.inr rfl⟩ rfl,trivial⟩ ⟨frOne rfl rfl,trivial⟩ trivial rfl rfl (ho1 ⟨_,rfl⟩) (hu1 rfl) rfl rfl ?_
  refine gZ (u':=5) trivial rfl rfl rfl rfl rfl rfl rfl rfl ?_
  refine gT trivial rfl rfl rfl rfl rfl rfl rfl rfl rfl rfl (Nat.le_of_ble_eq_true rfl) rfl ?_
  refine rg_nil nofun ?_
  refine vc_seq ?_
  refine vc_region hm ?_
  refine gM trivial (.inl rfl) rfl rfl rfl ?_
  obtain ⟨E5,hE5,x5,x5a,x5b,rfl⟩:=pick_c (k:=k) (t0:=t0) (p:=p4) hl hn (by omega) (by omega) (m:=6) (by omega) (by omega)
  refine gCF (ups':=[(1,one ⟨[.slice (some ⟨0,k,none⟩) n 0,.int .i64 (p4 + 1)],82,2⟩)]) (as':=[]) (v':=.int .i64 x5) 5 [0,1] hE5 trivial rfl rfl rfl rfl ⟨rCode rfl rfl,rCells rfl ⟨rfl,rfl,.inr rfl⟩ rfl,trivial⟩ ⟨frOne rfl rfl,trivial⟩ trivial rfl rfl (ho1 ⟨_,rfl⟩) (hu1 rfl) rfl rfl ?_
  refine rg_nil nofun ?_
  refine vc_block ?_
  refine vc_seq ?_
  refine vc_region hm ?_
  refine gI trivial rfl rfl rfl rfl rfl rfl ?_
  refine gM trivial (.inr rfl) rfl rfl rfl ?_
  refine rg_nil nofun ?_
  refine cI rfl (fun c31=>?_) (fun c31=>?_)
  ·skip
   have p31:=eq_of_beq c31
   refine vc_region hm ?_
   refine gM trivial (.inl rfl) rfl rfl rfl ?_
   refine gM trivial (.inl rfl) rfl rfl rfl ?_
   refine gL trivial rfl rfl rfl rfl rfl rfl rfl rfl ?_
   refine gCT (as':=[(5,one ⟨rHv (tabV 6 zo (resT T (goK x3 s4 true) x3 (dropH (at_ T x3) s4))),46,2⟩),(6,inF zo 28 77 (resT T (goK x3 s4 true) x3 (dropH (at_ T x3) s4)))]) (v':=.tuple #[.slice (some ⟨5,0,none⟩) (resT T (goK x3 s4 true) x3 (dropH (at_ T x3) s4)).length 0,.bool (resB T (goK x3 s4 true) x3 (dropH (at_ T x3) s4))]) 7 [nA (nm 2 (0)),nF 3,nF 5,nF 6] [2,3] (spec_LockDrop_c (T:=T) (who:=x3) (s:=s4) (kk:=0) (cc:=0) (lk_T hk) (lk_B hk)) trivial rfl rfl rfl rfl rfl ⟨aTab (k:=0) rfl rfl rfl rfl (.inl rfl) (.inl rfl) rfl rfl,aIn rfl rfl (.inl rfl) (.inl rfl) rfl,trivial⟩ ⟨rTab rfl rfl rfl,rIn rfl,trivial⟩ ⟨rfl,rfl⟩ rfl rfl rfl ?_
   refine gM trivial (.inl rfl) rfl rfl rfl ?_
   refine gE trivial rfl rfl rfl rfl rfl rfl ?_
   refine gE trivial rfl rfl rfl rfl rfl rfl ?_
   refine gM trivial (.inr rfl) rfl rfl rfl ?_
   refine rg_nil nofun ?_
   refine vc_region hm ?_
   refine gM trivial (.inl rfl) rfl rfl rfl ?_
   refine gA trivial rfl rfl rfl rfl rfl rfl (by omega) ?_
   refine gM trivial (.inr rfl) rfl rfl rfl ?_
   refine rg_nil nofun ?_
   exact lp_nextT ⟨(resT T (goK x3 s4 true) x3 (dropH (at_ T x3) s4)),i - 1,p4 + 1,(resT_ok hk),(by omega),(by omega),(by omega),(by omega),rfl,rfl⟩ (by omega) (re_nil (ms:=[0,1,5,6]) (C:=999) rfl ⟨⟨⟨rfl,rfl⟩,rfl⟩,⟨⟨rfl,rfl⟩,rfl⟩,⟨⟨rfl,rfl⟩,rfl⟩,trivial⟩ ⟨ktCode rfl rfl,ktRow rfl rfl rfl (BlkW.refl _) id rfl,ktTab (k:=0) rfl rfl (.inr (.inr ⟨by decide,by decide,by decide⟩)) id rfl rfl,ktIn rfl id rfl,trivial⟩ rfl rfl (rig_of rfl) rfl)
  ·skip
   have p31:=ne_of_beq_false c31
   refine vc_seq ?_
   refine vc_region hm ?_
   refine gI trivial rfl rfl rfl rfl rfl rfl ?_
   refine gM trivial (.inr rfl) rfl rfl rfl ?_
   refine rg_nil nofun ?_
   refine cI rfl (fun c40=>?_) (fun c40=>?_)
   ·skip
    have p40:=eq_of_beq c40
    refine vc_region hm ?_
    refine gM trivial (.inl rfl) rfl rfl rfl ?_
    refine gM trivial (.inl rfl) rfl rfl rfl ?_
    refine gL trivial rfl rfl rfl rfl rfl rfl rfl rfl ?_
    refine gCT (as':=[(5,one ⟨rHv (tabV 6 zo (resT T (goK x3 s4 true) x3 (downH (at_ T x3) s4))),46,2⟩),(6,inF zo 28 77 (resT T (goK x3 s4 true) x3 (downH (at_ T x3) s4)))]) (v':=.tuple #[.slice (some ⟨5,0,none⟩) (resT T (goK x3 s4 true) x3 (downH (at_ T x3) s4)).length 0,.bool (resB T (goK x3 s4 true) x3 (downH (at_ T x3) s4))]) 7 [nA (nm 2 (0)),nF 3,nF 5,nF 6] [2,3] (spec_LockDown_c (T:=T) (who:=x3) (s:=s4) (kk:=0) (cc:=0) (lk_T hk) (lk_B hk)) trivial rfl rfl rfl rfl rfl ⟨aTab (k:=0) rfl rfl rfl rfl (.inl rfl) (.inl rfl) rfl rfl,aIn rfl rfl (.inl rfl) (.inl rfl) rfl,trivial⟩ ⟨rTab rfl rfl rfl,rIn rfl,trivial⟩ ⟨rfl,rfl⟩ rfl rfl rfl ?_
    refine gM trivial (.inl rfl) rfl rfl rfl ?_
    refine gE trivial rfl rfl rfl rfl rfl rfl ?_
    refine gE trivial rfl rfl rfl rfl rfl rfl ?_
    refine gM trivial (.inr rfl) rfl rfl rfl ?_
    refine rg_nil nofun ?_
    refine vc_region hm ?_
    refine gM trivial (.inl rfl) rfl rfl rfl ?_
    refine gA trivial rfl rfl rfl rfl rfl rfl (by omega) ?_
    refine gM trivial (.inr rfl) rfl rfl rfl ?_
    refine rg_nil nofun ?_
    exact lp_nextT ⟨(resT T (goK x3 s4 true) x3 (downH (at_ T x3) s4)),i - 1,p4 + 1,(resT_ok hk),(by omega),(by omega),(by omega),(by omega),rfl,rfl⟩ (by omega) (re_nil (ms:=[0,1,5,6]) (C:=999) rfl ⟨⟨⟨rfl,rfl⟩,rfl⟩,⟨⟨rfl,rfl⟩,rfl⟩,⟨⟨rfl,rfl⟩,rfl⟩,trivial⟩ ⟨ktCode rfl rfl,ktRow rfl rfl rfl (BlkW.refl _) id rfl,ktTab (k:=0) rfl rfl (.inr (.inr ⟨by decide,by decide,by decide⟩)) id rfl rfl,ktIn rfl id rfl,trivial⟩ rfl rfl (rig_of rfl) rfl)
   ·skip
    have p40:=ne_of_beq_false c40
    refine vc_region hm ?_
    refine gM trivial (.inl rfl) rfl rfl rfl ?_
    refine gM trivial (.inl rfl) rfl rfl rfl ?_
    refine gM trivial (.inl rfl) rfl rfl rfl ?_
    obtain ⟨E10,hE10,x10,x10a,x10b,rfl⟩:=pick_c (k:=k) (t0:=t0) (p:=p4 + 1) hl hn (by omega) (by omega) (m:=2) (by omega) (by omega)
    refine gCF (ups':=[(1,one ⟨[.slice (some ⟨0,k,none⟩) n 0,.int .i64 (p4 + 1 + 1)],82,2⟩)]) (as':=[]) (v':=.int .i64 x10) 5 [0,1] hE10 trivial rfl rfl rfl rfl ⟨rCode rfl rfl,rCells rfl ⟨rfl,rfl,.inr rfl⟩ rfl,trivial⟩ ⟨frOne rfl rfl,trivial⟩ trivial rfl rfl (ho1 ⟨_,rfl⟩) (hu1 rfl) rfl rfl ?_
    refine gI trivial rfl rfl rfl rfl rfl rfl ?_
    refine gL trivial rfl rfl rfl rfl rfl rfl rfl rfl ?_
    refine gCT (as':=[(5,one ⟨rHv (tabV 6 zo (resT T (goK x3 s4 (decide (((lockBars T x3 (x10 == 0) s4).length:Int)=0))) x3 (giveH (at_ T x3) (x10 == 0) s4))),46,2⟩),(6,inF zo 28 77 (resT T (goK x3 s4 (decide (((lockBars T x3 (x10 == 0) s4).length:Int)=0))) x3 (giveH (at_ T x3) (x10 == 0) s4)))]) (v':=.tuple #[.slice (some ⟨5,0,none⟩) (resT T (goK x3 s4 (decide (((lockBars T x3 (x10 == 0) s4).length:Int)=0))) x3 (giveH (at_ T x3) (x10 == 0) s4)).length 0,.bool (resB T (goK x3 s4 (decide (((lockBars T x3 (x10 == 0) s4).length:Int)=0))) x3 (giveH (at_ T x3) (x10 == 0) s4))]) 7 [nA (nm 2 (0)),nF 3,nF 5,nF 6] [2,3] (spec_LockGive_c (T:=T) (who:=x3) (write:=(x10 == 0)) (s:=s4) (kk:=0) (cc:=0) (lk_T hk) (lk_B hk)) trivial rfl rfl rfl rfl rfl ⟨aTab (k:=0) rfl rfl rfl rfl (.inl rfl) (.inl rfl) rfl rfl,aIn rfl rfl (.inl rfl) (.inl rfl) rfl,trivial⟩ ⟨rTab rfl rfl rfl,rIn rfl,trivial⟩ ⟨rfl,rfl⟩ rfl rfl rfl ?_
    refine gM trivial (.inl rfl) rfl rfl rfl ?_
    refine gE trivial rfl rfl rfl rfl rfl rfl ?_
    refine gE trivial rfl rfl rfl rfl rfl rfl ?_
    refine gM trivial (.inr rfl) rfl rfl rfl ?_
    refine rg_nil (fun _=>by kernel_rfl) ?_
    refine vc_region hm ?_
    refine gM trivial (.inl rfl) rfl rfl rfl ?_
    refine gA trivial rfl rfl rfl rfl rfl rfl (by omega) ?_
    refine gM trivial (.inr rfl) rfl rfl rfl ?_
    refine rg_nil nofun ?_
    exact lp_nextT ⟨(resT T (goK x3 s4 (decide (((lockBars T x3 (x10 == 0) s4).length:Int)=0))) x3 (giveH (at_ T x3) (x10 == 0) s4)),i - 1,p4 + 1 + 1,(resT_ok hk),(by omega),(by omega),(by omega),(by omega),rfl,rfl⟩ (by omega) (re_nil (ms:=[0,1,5,6]) (C:=999) rfl ⟨⟨⟨rfl,rfl⟩,rfl⟩,⟨⟨rfl,rfl⟩,rfl⟩,⟨⟨rfl,rfl⟩,rfl⟩,trivial⟩ ⟨ktCode rfl rfl,ktRow rfl rfl rfl (BlkW.refl _) id rfl,ktTab (k:=0) rfl rfl (.inr (.inr ⟨by decide,by decide,by decide⟩)) id rfl rfl,ktIn rfl id rfl,trivial⟩ rfl rfl (rig_of rfl) rfl)
 ·skip
  have p12:=of_decide_eq_false c12
  refine vc_exit ?_
  refine vc_seq ?_
  refine vc_region hm ?_
  refine gM trivial (.inl rfl) rfl rfl rfl ?_
  refine gM trivial (.inr rfl) rfl rfl rfl ?_
  refine rg_nil nofun ?_
  refine vc_ret ?_
  exact ⟨mkF (.slice (some ⟨2,0,none⟩) T.length 0) [0] [(1,one ⟨[.slice (some ⟨0,k,none⟩) n 0,.int .i64 (q)],82,2⟩)] [(2,one ⟨rHv (tabV 3 zo T),46,77⟩),(3,inF zo 28 77 T)],_,endsT [(2,2,one ⟨rHv (tabV 3 zo T),46,77⟩),(3,3,inF zo 28 77 T)] (.inr rfl) (.tmp rfl rfl .nil) rfl rfl ⟨upOne rfl rfl rfl,trivial⟩ ⟨asTab rfl rfl rfl,asIn rfl,trivial⟩ rfl,T,_,hk,(by omega),(by omega),rfl⟩
end Go.Proofs.Ytbgehlihpkefmaa.A
namespace Go.Proofs.Ytbgehlihpkefmaa.A
open Go Go.RowKit
def nLs (l:List Nat):Nat→Option Nat:=fun k=>l[k]?
def dropF (F:Fam) (i:Nat):Fam:=fun k=>if k=i then none else F k
theorem nodB_inj {l:List Nat} (h:nodB l=true) {k k' n:Nat} (h1:l[k]?=some n) (h2:l[k']?=some n):k=k':=by
 have hn:=nod_of h
 obtain ⟨a1,a2⟩:=List.getElem?_eq_some_iff.1 h1
 obtain ⟨b1,b2⟩:=List.getElem?_eq_some_iff.1 h2
 have hp:=List.pairwise_iff_getElem.1 hn
 rcases Nat.lt_trichotomy k k' with q|q|q
 ·exact absurd (a2.trans b2.symm) (hp k k' a1 b1 q)
 ·exact q
 ·exact absurd (b2.trans a2.symm) (hp k' k b1 a1 q)
theorem hg_one {ms:List Nat} {D i C:Nat} {h2:List (Nat × Bool × Fam)} (hl:∀ x ∈ h2,x.1=C→∀ k,x.2.2 k ≠ none→k=0) (ho:∀ y ∈ h2,y.1 ≠ C→mp ms y.1<1000∧(mp ms y.1=D→y.2.2 i=none)) (hD:D<1000):∀ x ∈ h2,x.1=C→(∀ k k' n',x.2.2 k ≠ none→x.2.2 k' ≠ none→nLs [nm D i] k=some n'→nLs [nm D i] k'=some n'→k=k')∧∀ k n',x.2.2 k ≠ none→nLs [nm D i] k=some n'→∀ y ∈ h2,y.1 ≠ C→∀ k',y.2.2 k' ≠ none→n' ≠ nm (mp ms y.1) k':=fun x hx ex=>by
 refine ⟨fun k k' n' h1 h2 _ _=>by rw [hl x hx ex k h1,hl x hx ex k' h2],fun k n' h1 q y hy hne k' hk' e=>?_⟩
 have:=hl x hx ex k h1
 subst this
 have q:nm D i=n':=Option.some.inj q
 obtain ⟨a1,a2⟩:=ho y hy hne
 have e1:D=mp ms y.1:=by
  have:=congrArg (· % 1000) (q.trans e)
  simpa [nm_mod hD,nm_mod a1] using this
 have e2:i=k':=by
  have:=congrArg (· / 1000) (q.trans e)
  simpa [nm_div hD,nm_div a1] using this
 exact hk' (e2 ▸ a2 e1.symm)
theorem re_list {r u1 u2 C:Nat} {ms l:List Nat} {t1 t2:List (Nat × Value)} {h1 h2:List (Nat × Bool × Fam)} (hr:(Nat.ble r u2 && Nat.ble r C && Nat.blt C 1000)=true) (ht:KeepTT (tmG ms C (nLs l)) u2 t1 t2) (hh:KeepHT (tmG ms C (nLs l)) u2 h1 h2)
  (hi:(h2.all fun x=>h2.all fun y=>x.1 == C || y.1 == C || !(mp ms x.1 == mp ms y.1) || x.1 == y.1)=true) (hlt:(h2.all fun x=>Nat.blt (mp ms x.1) 1000)=true) (hm:∀ b,b<r→mp ms b=b) (hnd:nodB (h2.map (·.1))=true) (hl:nodB l=true) (hck:(h2.all fun y=>y.1 == C || l.all fun n=>!(n % 1000 == mp ms y.1))=true):Re r ⟨u2,t2,h2⟩ ⟨u1,t1,h1⟩ :=
 re_mk hr ht hh hi hlt hm (fun x hx ex=>⟨fun k k' n' _ _ q1 q2=>nodB_inj hl q1 q2,fun k n' _ q y hy hne k' _ e=>by
  have a:=List.all_eq_true.1 hck y hy
  have b:=of_blt (List.all_eq_true.1 hlt y hy)
  rw [Bool.or_eq_true] at a
  rcases a with a|a
  ·exact hne (by simpa using a)
  ·have:=List.all_eq_true.1 a n' (List.mem_of_getElem? q)
   rw [e,nm_mod b] at this
   simp at this⟩) hnd
theorem ktSub {ms:List Nat} {C u2 b i:Nat} {g:Nat→Option Nat} {h1:List (Nat × Bool × Fam)} {o o':Bool} {F:Fam} (hf:∀ k y,F k=some y→y.cs.all flat1=true) (hl:h1.lookup (mp ms b)=some (o',F)) (ho:o=true→o'=true) (hb:(Nat.blt b u2 && Nat.blt b 1000 && Nat.blt (mp ms b) 1000 && !(b == C))=true):KeepBT (tmG ms C g) u2 h1 b o (dropF F i):=by
 obtain ⟨a1,a2,a3,a4⟩:=ktFam (o:=o) hf hl ho hb (ms:=ms) (g:=g)
 have sub:∀ k y,dropF F i k=some y→F k=some y:=fun k y h=>by
  unfold dropF at h
  split at h
  ·cases h
  ·exact h
 exact ⟨a1,a2,fun k y hy=>a3 k y (sub k y hy),fun k y hy=>a4 k y (sub k y hy)⟩
theorem ktCL {ms l:List Nat} {C u2 t:Nat} {h1:List (Nat × Bool × Fam)} {M:List Ho} (hA:∀ j,j<2 * M.length→∀ n',l[j]?=some n'→∃ F' y',h1.lookup (n' % 1000)=some (true,F')∧F' (n' / 1000)=some y'∧y'.cs=rSp (sel (at_ M ((j / 2:Nat):Int)) j)∧y'.t=t∧y'.e ≠ 0) (hN:∀ j,j<2 * M.length→l[j]?=none→sel (at_ M ((j / 2:Nat):Int)) j = []) (hb:(Nat.blt C u2 && Nat.blt C 1000)=true):KeepBT (tmG ms C (nLs l)) u2 h1 C true (inF zo t 77 M):=by
 refine ktC (fun k y hy=>inF_flat hy) (fun k y hy=>?_) hb
 unfold inF at hy
 obtain ⟨h,hh,rfl⟩:=Option.map_eq_some_iff.1 hy
 have hk:k<2 * M.length:=by
  have:=(List.getElem?_eq_some_iff.1 hh).1
  omega
 have ha:at_ M ((k / 2:Nat):Int)=h:=at_of hh
 refine ⟨fun q=>⟨?_,(by decide:77<100)⟩,fun n' q=>?_⟩
 ·have:=hN k hk q
  rw [ha] at this
  show hls (zo k) (rSp (sel h k)) = []
  rw [this]
  rfl
 ·obtain ⟨F',y',a1,a2,a3,a4,a5⟩:=hA k hk n' q
  rw [ha] at a3
  exact ⟨true,F',y',a1,a2,⟨.inl a3,fun _=>a4,.inr (.inr ⟨(by decide:77≤77),(by decide:77<100),a5⟩),fun q=>(by cases q)⟩,fun _=>rfl⟩
theorem asTabK {m:Nat→Nat} {u C C' j t e k0:Nat} {T:List Ho} {h:List (Nat × Bool × Fam)} (hl:h.lookup j=some (true,one ⟨hls k0 (rHv (tabV C' zo T)),t,e⟩)) (hm:m C=C') (hC:(Nat.blt C 1000 && Nat.blt C u)=true):h.lookup j=some (true,rnF m (one ⟨hls k0 (rHv (tabV C zo T)),t,e⟩))∧∀ k y,one ⟨hls k0 (rHv (tabV C zo T)),t,e⟩ k=some y→DetB (lt u) y:=by
 have h1:=hC
 rw [Bool.and_eq_true] at h1
 refine ⟨?_,fun k y h=>det_tab (k0:=k0) hC h⟩
 rw [hl,rnF_one]
 simp only [Blk.rn]
 rw [show (hls k0 (rHv (tabV C zo T))).map (rn1 m)=hls k0 ((rHv (tabV C zo T)).map (rn1 m)) by unfold hls;rw [List.map_append,List.map_replicate];rfl,tabV_rn (of_blt h1.1),hm]
theorem rTb {m:Nat→Nat} {hc:List (Nat × Bool × Fam)} {b c C' t e' k:Nat} {o':Bool} {T:List Ho} (hl:hc.lookup (m b)=some (o',one ⟨hls k (rHv (tabV C' zo T)),t,e'⟩)) (hm:m c=C') (hb:(Nat.blt (m b) 1000 && Nat.ble t capT && Nat.blt c 1000)=true):m b<1000∧∃ o' F',hc.lookup (m b)=some (o',F')∧FamLe (rnF m (one ⟨hls k (rHv (tabV c zo T)),t,0⟩)) F':=by
 simp only [Bool.and_eq_true] at hb
 refine rCells hl ⟨?_,rfl,.inl rfl⟩ (by rw [hb.1.1,hb.1.2];rfl)
 show hls k (rHv (tabV C' zo T))=(hls k (rHv (tabV c zo T))).map (rn1 m)
 rw [show (hls k (rHv (tabV c zo T))).map (rn1 m)=hls k ((rHv (tabV c zo T)).map (rn1 m)) by unfold hls;rw [List.map_append,List.map_replicate];rfl,tabV_rn (of_blt hb.2),hm]
theorem rInT {m:Nat→Nat} {hc:List (Nat × Bool × Fam)} {c t e':Nat} {o':Bool} {T:List Ho} (hl:hc.lookup (m c)=some (o',inF zo t e' T)) (hb:(Nat.blt (m c) 1000 && Nat.ble t capT)=true):m c<1000∧∃ o' F',hc.lookup (m c)=some (o',F')∧FamLe (rnF m (inF zo t 0 T)) F':=by
 simp only [Bool.and_eq_true] at hb
 refine ⟨of_blt hb.1,o',_,hl,?_⟩
 rw [rnF_in]
 intro k x hx
 unfold inF at hx ⊢
 obtain ⟨h,hh,rfl⟩:=Option.map_eq_some_iff.1 hx
 rw [hh]
 exact ⟨_,rfl,rfl,rfl,fun q=>absurd rfl q,fun _=>.inr (Nat.le_of_ble_eq_true hb.2)⟩
theorem frTab {m:Nat→Nat} {b c C C' t e k:Nat} {T:List Ho} (h:m b=c) (hm:m C=C') (hC:Nat.blt C 1000=true):m b=c∧rnF m (one ⟨hls k (rHv (tabV C zo T)),t,e⟩)=one ⟨hls k (rHv (tabV C' zo T)),t,e⟩:=by
 refine ⟨h,?_⟩
 rw [rnF_one]
 simp only [Blk.rn]
 rw [show (hls k (rHv (tabV C zo T))).map (rn1 m)=hls k ((rHv (tabV C zo T)).map (rn1 m)) by unfold hls;rw [List.map_append,List.map_replicate];rfl,tabV_rn (of_blt hC),hm]
theorem frIn {m:Nat→Nat} {b c t e:Nat} {off:Nat→Nat} {T:List Ho} (h:m b=c):m b=c∧rnF m (inF off t e T)=inF off t e T:=⟨h,rnF_in⟩
theorem len3 {α:Type} {T:List α} (h:T.length=3):∃ a b c,T = [a,b,c]:=by
 rcases T with _|⟨a,_|⟨b,_|⟨c,_|⟨d,T⟩⟩⟩⟩
 ·cases h
 ·cases h
 ·cases h
 ·exact ⟨a,b,c,rfl⟩
 ·simp at h
section
variable {P:Program} {nt:Nat} {ops:Array Oper} {draw:Bool} {rest:List Oper} {u d:Nat} {t:List (Nat × Value)} {h:List (Nat × Bool × Fam)} {acc:List Eff} {K:St→Prop} {o:Oper}
theorem gTailO {ty e:TypeId} {x y:Operand} {n len sz:Nat} {i:Int} {b:Blk} (hw:wantT (tl t) ops o) (hop:o.op = .slice ty x (some y) none none) (hu:P.underlying ty=some (.slice e)) (hz:szP P e=some sz) (hx:ev t x=some (.slice (some ⟨n,0,none⟩) len 0)) (hy:ev t y=some (.int .i64 i)) (hb:hat (hp h) n=some b) (h0:(Nat.blt 0 sz && Nat.blt sz 77 && b.e == sz)=true) (hs:o.dst=some d) (hn:Nat.blt d nt=true) (hl:b.cs.length=len * sz) (hi0:0≤i) (hi1:i<len)
  (k:RG P nt ops draw rest ⟨u,(d,.slice (some ⟨n,i.toNat * sz,none⟩) (len - i.toNat) i.toNat) :: t,h⟩ (acc ++ [{ v:=.slice (some ⟨n,i.toNat * sz,none⟩) (len - i.toNat) i.toNat,rd:=[n % 1000] }]) K):RG P nt ops draw (o :: rest) ⟨u,t,h⟩ acc K:=by
 simp only [Bool.and_eq_true,beq_iff_eq] at h0
 obtain ⟨⟨h0,h77⟩,he⟩:=h0
 have h0:=of_blt h0
 have h77:=of_blt h77
 refine gV (does_val hw (fun ρ ac w ht hah=>?_) fun U hU=>?_) hs hn k
 ·have hbl:=hat_at hb hah (.inl (.head _))
  have hne:b.cs ≠ []:=fun e=>by
   rw [e] at hl
   have:0<len * sz:=Nat.mul_pos (by omega) h0
   simp at hl
   omega
  obtain ⟨hnil,sl,z,_,_,hcap,_⟩:=blkAt_some hbl hne (by omega)
  have hcap:=(hcap (by omega)).2.1
  rw [hl,he] at hcap
  have hcap:len≤(ρ n).cap:=Nat.le_of_mul_le_mul_right (show len * sz≤(ρ n).cap * sz by omega) h0
  have e1:ac.eval x=r3 ρ (.slice (some ⟨n,0,none⟩) len 0):=ev_sound (ρ:=ρ) (by rw [hop];simp [Op.operands]) ht hx
  have e1:ac.eval x = .slice (some ⟨(ρ n).blk,0,none⟩) len (ρ n).cap:=by rw [e1];show (if (ρ n).nil=true then zv _ else _)=_;rw [if_neg (by rw [hnil];decide)];rfl
  have e2:ac.eval y = .int .i64 i:=ev_sound (ρ:=ρ) (by rw [hop];simp [Op.operands]) ht hy
  have e3:(Instr.sliceBounds true len (ρ n).cap (some (.int .i64 i)) none none).run P w = .ok (i.toNat,len,(ρ n).cap) w:=by
   simp [Instr.sliceBounds,Instr.sliceBound,asIntOf,hi0,show i≤(len:Int) by omega,Sem.run_pure,Sem.run_bind,Result.andThen_ok]
  have e4:¬ (ρ n).cap=i.toNat:=by omega
  have e5:r3 ρ (.slice (some ⟨n,i.toNat * sz,none⟩) (len - i.toNat) i.toNat) = .slice (some ⟨(ρ n).blk,i.toNat * sz,none⟩) (len - i.toNat) ((ρ n).cap - i.toNat):=by
   show (if (ρ n).nil=true then zv _ else _)=_
   rw [if_neg (by rw [hnil];decide)]
  rw [e5]
  simp [execOp,hop,e1,e2,Instr.sliceAt,Instr.slice,run_underlying hu,run_sizeOf hz,e3,e4,add_eq,Sem.run_pure,Sem.run_bind,Result.andThen_ok]
 ·intro ρ ρ' hρ
  have:=hρ n (hat_det hb hU (.inl (.head _))).1
  simp [r3,r2,r1,this]
end
end Go.Proofs.Ytbgehlihpkefmaa.A
namespace Go.Proofs.Ytbgehlihpkefmaa.A
open Go Go.RowKit
set_option maxHeartbeats 4000000
theorem tab2 {C:Nat} {a b:Ho}:rHv (tabV C zo [a,b]) = [.slice (some ⟨nm C 0,0,none⟩) a.r.length 0,.slice (some ⟨nm C 1,0,none⟩) a.w.length 0,.slice (some ⟨nm C 2,0,none⟩) b.r.length 0,.slice (some ⟨nm C 3,0,none⟩) b.w.length 0]:=rfl
theorem tab3 {C:Nat} {a b c:Ho}:rHv (tabV C zo [a,b,c]) = [.slice (some ⟨nm C 0,0,none⟩) a.r.length 0,.slice (some ⟨nm C 1,0,none⟩) a.w.length 0,.slice (some ⟨nm C 2,0,none⟩) b.r.length 0,.slice (some ⟨nm C 3,0,none⟩) b.w.length 0,.slice (some ⟨nm C 4,0,none⟩) c.r.length 0,.slice (some ⟨nm C 5,0,none⟩) c.w.length 0]:=rfl
theorem tab4 {C:Nat} {a b c d:Ho}:rHv (tabV C zo [a,b,c,d]) = [.slice (some ⟨nm C 0,0,none⟩) a.r.length 0,.slice (some ⟨nm C 1,0,none⟩) a.w.length 0,.slice (some ⟨nm C 2,0,none⟩) b.r.length 0,.slice (some ⟨nm C 3,0,none⟩) b.w.length 0,.slice (some ⟨nm C 4,0,none⟩) c.r.length 0,.slice (some ⟨nm C 5,0,none⟩) c.w.length 0,.slice (some ⟨nm C 6,0,none⟩) d.r.length 0,.slice (some ⟨nm C 7,0,none⟩) d.w.length 0]:=rfl
theorem bent_k {h0 h1 h2:Ho} {t u2:Nat} {h:List (Nat × Bool × Fam)} (hl:h.lookup 5=some (true,inF zo t 2 [h0,h1,h2])) (hu:Nat.blt 6 u2=true:=by rfl):KeepBT (tmG [0,1,2,3,4,5] 6 (nLs [nm 5 1])) u2 h 6 true (one ⟨rSp h0.w,t,2⟩):=by
 refine ktC (fun k y hy=>?_) (fun k y hy=>?_) (by rw [hu];rfl)
 ·obtain ⟨rfl,rfl⟩:=one_some hy
  exact rSp_flat _
 ·obtain ⟨rfl,rfl⟩:=one_some hy
  refine ⟨fun q=>(by cases q),fun n' q=>?_⟩
  cases q
  exact ⟨true,_,_,hl,rfl,BlkW.refl _,fun _=>rfl⟩
theorem bent_f {p:Prop} (h:p):p:=h
theorem nbq {a b:Nat} (h:Nat.beq a b=false):a ≠ b:=fun e=>by
 subst e
 rw [Nat.beq_refl] at h
 cases h
theorem holOf {cs cs':List Value} (h1:cs' = []→cs = []) (h2:∀ (i:Nat) (v:Value),cs[i]?=some v→v ≠ hole→cs'[i]?=some v):HolL cs cs':=⟨h1,h2⟩
theorem spec_l4Copy2_c {T:List Ho} {kk cc:Nat} (hT:T.length≤1048576) (hB:∀ h ∈ T,h.r.length≤1048576∧h.w.length≤1048576):FDoes Try.prog 58 [.slice (some ⟨0,kk,none⟩) T.length cc] (hp [(0,false,one ⟨hls kk (rHv (tabV 1 zo T)),46,0⟩),(1,false,inF zo 28 0 T)]) (mkF (.slice (some ⟨2,0,none⟩) T.length 0) [0,1] [] [(2,one ⟨rHv (tabV 3 zo T),46,2⟩),(3,inF zo 28 2 T)]):=by
 have hm:Try.prog.follows .mixedOrders=true:=by kernel_rfl
 have hd_:∀ x_ ∈ ([(0,false,one ⟨hls kk (rHv (tabV 1 zo T)),46,0⟩),(1,false,inF zo 28 0 T)]:List (Nat × Bool × Fam)),∀ k_ y_,x_.2.2 k_=some y_→DetB (lt 2) y_:=by
  intro x_ hx k_ y_ e
  simp only [List.mem_cons,List.not_mem_nil,or_false] at hx
  rcases hx with rfl|rfl
  ·exact det_tab (k0:=kk) rfl e
  ·exact det_in e
 refine fn_exact (u0:=2) Try.func58 rfl rfl (gets rfl rfl rfl hd_ rfl) ?_
 clear hd_
 refine vc_seq ?_
 refine vc_region hm ?_
 refine gM trivial (.inr rfl) rfl rfl rfl ?_
 refine rg_nil nofun ?_
 refine vc_seq ?_
 refine vc_region hm ?_
 refine gR (u':=3) trivial rfl rfl rfl rfl rfl rfl rfl rfl rfl rfl rfl rfl rfl rfl ?_
 refine gM trivial (.inr rfl) rfl rfl rfl ?_
 refine rg_nil nofun ?_
 refine vc_seq ?_
 refine vc_seq ?_
 refine vc_region hm ?_
 refine gM trivial (.inr rfl) rfl rfl rfl ?_
 refine rg_nil nofun ?_
 refine vc_block ?_
 refine vc_loopT (fun n_ S_=>∃ (j:Nat),j≤T.length∧n_=T.length - j∧S_=⟨4,[(0,.slice (some ⟨0,kk,none⟩) T.length cc),(3,.slice (some ⟨2,0,none⟩) j 0),(4,.int .i64 j)],[(0,false,one ⟨hls kk (rHv (tabV 1 zo T)),46,0⟩),(1,false,inF zo 28 0 T),(2,true,one ⟨rHv (tabV 3 zo (T.take j)),46,2⟩),(3,true,inF zo 28 2 (T.take j))]⟩) ⟨0,Nat.zero_le _,rfl,rfl⟩ (re_nil (ms:=[0,1,2,3]) (C:=3) rfl ⟨⟨⟨rfl,rfl⟩,rfl⟩,⟨⟨rfl,rfl⟩,rfl⟩,⟨⟨rfl,rfl⟩,rfl⟩,trivial⟩ ⟨ktTab (k:=kk) rfl rfl (.inr (.inl rfl)) id rfl rfl,ktIn rfl id rfl,ktTabN (n:=0) rfl rfl (.inr (.inl rfl)) id rfl rfl,ktInN (n:=0) rfl (by decide) rfl,trivial⟩ rfl rfl (rig_of rfl) rfl) ?_
 rintro n_ S_ ⟨j,hj,rfl,rfl⟩
 refine vc_seq ?_
 refine vc_seq ?_
 refine vc_region hm ?_
 refine gM trivial (.inl rfl) rfl rfl rfl ?_
 refine gM trivial (.inl rfl) rfl rfl rfl ?_
 refine gK trivial rfl rfl rfl rfl rfl rfl (hls_nil tabV_nil) ?_
 refine gI trivial rfl rfl rfl rfl rfl rfl ?_
 refine rg_nil nofun ?_
 refine cI rfl (fun c9=>?_) (fun c9=>?_)
 ·skip
  have p9:=of_decide_eq_true c9
  refine vc_skip ?_
  refine vc_seq ?_
  refine vc_block ?_
  refine vc_region hm ?_
  refine gM trivial (.inl rfl) rfl rfl rfl ?_
  refine gR (u':=5) trivial rfl rfl rfl rfl rfl rfl rfl rfl rfl rfl rfl rfl rfl rfl ?_
  refine gM trivial (.inl rfl) rfl rfl rfl ?_
  refine gM trivial (.inl rfl) rfl rfl rfl ?_
  refine gX trivial rfl rfl rfl rfl rfl rfl rfl rfl (by omega) p9 (fun h=>hls_ne (tabV_ne h)) ?_
  refine gF trivial rfl rfl rfl rfl rfl ?_
  refine gL trivial rfl rfl rfl rfl rfl rfl rfl (lH0k (by omega) p9) ?_
  refine gApi (u':=6) trivial rfl rfl rfl rfl rfl rfl rfl rfl rfl rfl rfl rfl (inF_0 (by omega) p9) rfl (cp_len _) (cp_leaf _) (show (0 + (at_ T (j:Int)).r.length) * (16 + 1)≤140737488355328 by have:=hB _ (at_mem (by omega) p9);omega) (cp_eq _) (Nat.zero_add _) ?_
  refine gR (u':=7) trivial rfl rfl rfl rfl rfl rfl rfl rfl rfl rfl rfl rfl rfl rfl ?_
  refine gM trivial (.inl rfl) rfl rfl rfl ?_
  refine gM trivial (.inl rfl) rfl rfl rfl ?_
  refine gX trivial rfl rfl rfl rfl rfl rfl rfl rfl (by omega) p9 (fun h=>hls_ne (tabV_ne h)) ?_
  refine gF trivial rfl rfl rfl rfl rfl ?_
  refine gL trivial rfl rfl rfl rfl rfl rfl rfl (lH1k (by omega) p9) ?_
  refine gApi (u':=8) trivial rfl rfl rfl rfl rfl rfl rfl rfl rfl rfl rfl rfl (inF_1 (by omega) p9) rfl (cp_len _) (cp_leaf _) (show (0 + (at_ T (j:Int)).w.length) * (16 + 1)≤140737488355328 by have:=hB _ (at_mem (by omega) p9);omega) (cp_eq _) (Nat.zero_add _) ?_
  refine gU trivial rfl rfl rfl rfl rfl rfl rfl rfl ?_
  refine gR (u':=9) trivial rfl rfl rfl rfl rfl rfl rfl rfl rfl rfl rfl rfl rfl rfl ?_
  refine gAp (u':=10) trivial rfl rfl rfl rfl rfl rfl rfl rfl rfl rfl rfl rfl (by rw [rowL_len (n:=2) (fun _=>rfl),tabV_len,take_len' (by omega)]) (Nat.le_refl _) rfl (show (j + 1) * (48 + 1)≤140737488355328 by omega) (row_snoc (enc:=eHv) (x:=⟨.slice (some ⟨5,0,none⟩) (at_ T (j:Int)).r.length 0,.slice (some ⟨7,0,none⟩) (at_ T (j:Int)).w.length 0⟩)) rfl ?_
  refine gM trivial (.inr rfl) rfl rfl rfl ?_
  refine rg_nil (fun _=>by kernel_rfl) ?_
  refine vc_region hm ?_
  refine gM trivial (.inl rfl) rfl rfl rfl ?_
  refine gA trivial rfl rfl rfl rfl rfl rfl (by omega) ?_
  refine gM trivial (.inr rfl) rfl rfl rfl ?_
  refine rg_nil nofun ?_
  exact lp_nextT ⟨j + 1,(by omega),rfl,rfl⟩ (by omega) (re_fold (ms:=[0,1,9,3]) (C:=3) (C':=3) (i:=2 * (j)) (a:=5) (b:=7) rfl ⟨⟨⟨rfl,rfl⟩,rfl⟩,⟨⟨rfl,rfl⟩,rfl⟩,⟨⟨rfl,rfl⟩,rfl⟩,trivial⟩ ⟨ktTab (k:=kk) rfl rfl (.inr (.inl rfl)) id rfl rfl,ktIn rfl id rfl,ktTabC rfl (ap_x p9) (fun _=>ap_i p9) (fun i h h'=>ap_j p9 h h') (.inr (.inl rfl)) id rfl rfl,kPutC (fun i h h'=>ap_g p9 h h') (ap_ho p9) rfl rfl rfl (.inr ⟨.inl rfl,.inl rfl,.inl rfl⟩) (fun _=>⟨rfl,rfl,rfl⟩) rfl,trivial⟩ rfl rfl (rig_of rfl) rfl rfl)
 ·skip
  have p9:=of_decide_eq_false c9
  refine vc_exit ?_
  refine vc_seq ?_
  refine vc_region hm ?_
  refine gM trivial (.inl rfl) rfl rfl rfl ?_
  refine gM trivial (.inr rfl) rfl rfl rfl ?_
  refine rg_nil nofun ?_
  refine vc_ret ?_
  obtain rfl:j=T.length:=by omega
  rw [List.take_length]
  exact ⟨_,endsT [(2,2,one ⟨rHv (tabV 3 zo T),46,2⟩),(3,3,inF zo 28 2 T)] (.inr rfl) (.tmp rfl rfl .nil) rfl rfl trivial ⟨asTab rfl rfl rfl,asIn rfl,trivial⟩ rfl⟩
theorem bent_c {l:List Int} {k n t0:Nat} {p:Int} (hl:ByL l) (hn:n≤l.length) (hp0:0≤p) (hp1:p≤993000) {T:List Ho} (hk:lockOk T=true):∃ E,FDoes Try.prog 43 [.pointer (some ⟨1,0,none⟩),.slice (some ⟨2,0,none⟩) T.length 0] (hp [(0,false,one ⟨hls k (rY l),t0,0⟩),(1,true,one ⟨[.slice (some ⟨0,k,none⟩) n 0,.int .i64 (p)],82,2⟩),(2,false,one ⟨rHv (tabV 3 zo T),46,0⟩),(3,false,inF zo 28 0 T)]) E∧∃ (M:List Ho) (kk cc:Nat) (p2:Int),M.length≤4∧(∀ h ∈ M,h.r.length≤100∧h.w.length≤100)∧p≤p2∧p2≤p + 100∧E=mkF (.slice (some ⟨4,kk,none⟩) M.length cc) [0,2,3] [(1,one ⟨[.slice (some ⟨0,k,none⟩) n 0,.int .i64 (p2)],82,2⟩)] [(4,one ⟨hls kk (rHv (tabV 5 zo M)),46,0⟩),(5,inF zo 28 77 M)]:=by
 have hm:Try.prog.follows .mixedOrders=true:=by kernel_rfl
 have hd_:∀ x_ ∈ ([(0,false,one ⟨hls k (rY l),t0,0⟩),(1,true,one ⟨[.slice (some ⟨0,k,none⟩) n 0,.int .i64 (p)],82,2⟩),(2,false,one ⟨rHv (tabV 3 zo T),46,0⟩),(3,false,inF zo 28 0 T)]:List (Nat × Bool × Fam)),∀ k_ y_,x_.2.2 k_=some y_→DetB (lt 4) y_:=by
  intro x_ hx k_ y_ e
  simp only [List.mem_cons,List.not_mem_nil,or_false] at hx
  rcases hx with rfl|rfl|rfl|rfl
  ·exact det_code e
  ·exact det_ok rfl e
  ·exact det_tab (k0:=0) rfl e
  ·exact det_in e
 obtain ⟨h0,h1,h2,rfl⟩:=len3 (ok_3 hk)
 have b0:=lk_B0 hk h0 (by simp)
 have b1:=lk_B0 hk h1 (by simp)
 have b2:=lk_B0 hk h2 (by simp)
 refine fn_some (u0:=4) Try.func43 rfl rfl (gets rfl rfl rfl hd_ rfl) ?_
 clear hd_
 refine vc_seq ?_
 refine vc_region hm ?_
 refine gM trivial (.inr rfl) rfl rfl rfl ?_
 refine rg_nil nofun ?_
 refine vc_seq ?_
 refine vc_region hm ?_
 refine gM trivial (.inl rfl) rfl rfl rfl ?_
 refine gCT (as':=[(4,one ⟨rHv (tabV 5 zo [h0,h1,h2]),46,2⟩),(5,inF zo 28 2 [h0,h1,h2])]) (v':=.slice (some ⟨4,0,none⟩) 3 0) 6 [nA (nm 2 (0)),nF 3,nF 4,nF 5] [2,3] (spec_l4Copy2_c (T:=[h0,h1,h2]) (kk:=0) (cc:=0) (lk_T hk) (lk_B hk)) trivial rfl rfl rfl rfl rfl ⟨aTab (k:=0) rfl rfl rfl rfl (.inl rfl) (.inl rfl) rfl rfl,aIn rfl rfl (.inl rfl) (.inl rfl) rfl,trivial⟩ ⟨rTab rfl rfl rfl,rIn rfl,trivial⟩ ⟨rfl,rfl⟩ rfl rfl rfl ?_
 refine gM trivial (.inr rfl) rfl rfl rfl ?_
 refine rg_nil nofun ?_
 refine vc_seq ?_
 refine vc_seq ?_
 refine vc_re (S2:=⟨7,[(0,.pointer (some ⟨1,0,none⟩)),(5,.slice (some ⟨4,0,none⟩) 3 0)],[(0,false,one ⟨hls k (rY l),t0,0⟩),(1,true,one ⟨[.slice (some ⟨0,k,none⟩) n 0,.int .i64 (p)],82,2⟩),(4,true,one ⟨[.slice (some ⟨5,0,none⟩) h0.r.length 0,.slice (some ⟨6,0,none⟩) h0.w.length 0,.slice (some ⟨2005,0,none⟩) h1.r.length 0,.slice (some ⟨3005,0,none⟩) h1.w.length 0,.slice (some ⟨4005,0,none⟩) h2.r.length 0,.slice (some ⟨5005,0,none⟩) h2.w.length 0],46,2⟩),(5,true,dropF (inF zo 28 2 [h0,h1,h2]) 1),(6,true,one ⟨rSp h0.w,28,2⟩)]⟩) (re_mk (ms:=[0,1,2,3,4,5]) (C:=6) (g:=nLs [nm 5 1]) rfl ⟨⟨⟨rfl,rfl⟩,rfl⟩,⟨⟨rfl,rfl⟩,rfl⟩,trivial⟩ ⟨ktCode rfl rfl,ktRow rfl rfl rfl (BlkW.refl _) id rfl,ktRow rfl rfl rfl ⟨.inl rfl,fun _=>rfl,.inr (.inl rfl),fun q=>(by cases q)⟩ id rfl,ktSub (fun k y hy=>inF_flat hy) rfl id rfl,bent_k rfl,trivial⟩ rfl rfl (rig_of rfl) (hg_one (by intro x hx;simp only [List.mem_cons,List.not_mem_nil,or_false] at hx;rcases hx with rfl|rfl|rfl|rfl|rfl <;> intro e k hk <;> first|(exact absurd e (nbq rfl))|(by_cases q:k=0 <;> simp_all [one])) (by intro x hx;simp only [List.mem_cons,List.not_mem_nil,or_false] at hx;rcases hx with rfl|rfl|rfl|rfl|rfl <;> intro hne <;> first|exact absurd rfl hne|exact ⟨of_blt rfl,fun e=>absurd e (nbq rfl)⟩|exact ⟨of_blt rfl,fun _=>rfl⟩) (by decide)) rfl) ?_
 refine vc_region hm ?_
 refine gM trivial (.inl rfl) rfl rfl rfl ?_
 obtain ⟨E1,hE1,x1,x1a,x1b,rfl⟩:=pick_c (k:=k) (t0:=t0) (p:=p) hl hn (by omega) (by omega) (m:=40) (by omega) (by omega)
 refine gCF (ups':=[(1,one ⟨[.slice (some ⟨0,k,none⟩) n 0,.int .i64 (p + 1)],82,2⟩)]) (as':=[]) (v':=.int .i64 x1) 7 [0,1] hE1 trivial rfl rfl rfl rfl ⟨rCode rfl rfl,rCells rfl ⟨rfl,rfl,.inr rfl⟩ rfl,trivial⟩ ⟨frOne rfl rfl,trivial⟩ trivial rfl rfl (ho1 ⟨_,rfl⟩) (hu1 rfl) rfl rfl ?_
 refine rg_nil nofun ?_
 refine vc_block ?_
 refine vc_seq ?_
 refine vc_region hm ?_
 refine gI trivial rfl rfl rfl rfl rfl rfl ?_
 refine gM trivial (.inr rfl) rfl rfl rfl ?_
 refine rg_nil nofun ?_
 refine cI rfl (fun c10=>?_) (fun c10=>?_)
 ·skip
  have p10:=eq_of_beq c10
  refine vc_seq ?_
  refine vc_region hm ?_
  refine gM trivial (.inl rfl) rfl rfl rfl ?_
  refine gTailO trivial rfl rfl rfl rfl rfl rfl rfl rfl rfl rfl (by decide) (by decide) ?_
  refine gM trivial (.inr rfl) rfl rfl rfl ?_
  refine rg_nil nofun ?_
  refine vc_re (S2:=⟨6,[(4,.slice (some ⟨4,2,none⟩) ([h1,h2]:List Ho).length 1)],[(1,true,one ⟨[.slice (some ⟨0,k,none⟩) n 0,.int .i64 (p + 1)],82,2⟩),(4,true,one ⟨hls 2 (rHv (tabV 5 zo ([h1,h2]:List Ho))),46,0⟩),(5,true,inF zo 28 77 ([h1,h2]:List Ho))]⟩) (re_list (ms:=[0,1,2,3,4]) (C:=5) (l:=[2005,3005,4005,5005]) rfl ⟨⟨⟨rfl,rfl⟩,rfl⟩,trivial⟩ ⟨ktRow rfl rfl rfl (BlkW.refl _) id rfl,(by rw [tab2];exact ktRow rfl rfl rfl ⟨.inr ⟨rfl,holOf (fun h=>absurd h (List.cons_ne_nil _ _)) (fun i v hv hh=>by rcases i with _|_|_|_|_|_|i <;> first|exact hv|exact absurd (Option.some.inj hv).symm hh|cases hv)⟩,fun q=>absurd rfl q,.inl rfl,fun _=>.inr (Nat.le_of_ble_eq_true rfl)⟩ id rfl),ktCL (fun j hj n' hn=>bent_f (by rcases j with _|_|_|_|_|_|_|_|j <;> first|(cases hn;exact ⟨_,_,rfl,rfl,rfl,rfl,nbq rfl⟩)|cases hn)) (fun j hj hn=>by rcases j with _|_|_|_|_|_|_|_|j <;> first|rfl|(exfalso;simp only [List.length_cons,List.length_nil] at hj;omega)|(cases hn;done)) rfl,trivial⟩ rfl rfl (rig_of rfl) rfl rfl rfl) ?_
  refine vc_ret ?_
  exact ⟨mkF (.slice (some ⟨4,2,none⟩) ([h1,h2]:List Ho).length 1) [0,2,3] [(1,one ⟨[.slice (some ⟨0,k,none⟩) n 0,.int .i64 (p + 1)],82,2⟩)] [(4,one ⟨hls 2 (rHv (tabV 5 zo ([h1,h2]:List Ho))),46,0⟩),(5,inF zo 28 77 ([h1,h2]:List Ho))],_,endsT [(4,4,one ⟨hls 2 (rHv (tabV 5 zo ([h1,h2]:List Ho))),46,0⟩),(5,5,inF zo 28 77 ([h1,h2]:List Ho))] (.inr rfl) (.tmp rfl rfl .nil) rfl rfl ⟨upOne rfl rfl rfl,trivial⟩ ⟨asTabK rfl rfl rfl,asIn rfl,trivial⟩ rfl,([h1,h2]:List Ho),2,1,_,(Nat.le_of_ble_eq_true rfl),(by intro x hx;simp only [List.mem_cons,List.not_mem_nil,or_false] at hx;rcases hx with rfl|rfl <;> refine ⟨?_,?_⟩ <;> (try dsimp only) <;> (try simp only [List.length_append,List.length_cons,List.length_nil]) <;> omega),(by omega),(by omega),rfl⟩
 ·skip
  have p10:=ne_of_beq_false c10
  refine vc_seq ?_
  refine vc_region hm ?_
  refine gI trivial rfl rfl rfl rfl rfl rfl ?_
  refine gM trivial (.inr rfl) rfl rfl rfl ?_
  refine rg_nil nofun ?_
  refine cI rfl (fun c14=>?_) (fun c14=>?_)
  ·skip
   have p14:=eq_of_beq c14
   refine vc_region hm ?_
   refine gM trivial (.inl rfl) rfl rfl rfl ?_
   refine gM trivial (.inl rfl) rfl rfl rfl ?_
   refine gX trivial rfl rfl rfl rfl rfl rfl rfl rfl (by decide) (by decide) (fun _ h=>nomatch h) ?_
   refine gF trivial rfl rfl rfl rfl rfl ?_
   refine gL trivial rfl rfl rfl rfl rfl rfl rfl rfl ?_
   refine gM trivial (.inl rfl) rfl rfl rfl ?_
   obtain ⟨E4,hE4,s4,p4,s4a,s4b,s4c,q4a,q4b,rfl⟩:=span_c (k:=k) (t0:=t0) (p:=p + 1) hl hn (by omega) (by omega) 
   refine gCF (ups':=[(1,one ⟨[.slice (some ⟨0,k,none⟩) n 0,.int .i64 (p4)],82,2⟩)]) (as':=[]) (v':=vSp s4) 7 [0,1] hE4 trivial rfl rfl rfl rfl ⟨rCode rfl rfl,rCells rfl ⟨rfl,rfl,.inr rfl⟩ rfl,trivial⟩ ⟨frOne rfl rfl,trivial⟩ trivial rfl rfl (ho1 ⟨_,rfl⟩) (hu1 rfl) rfl rfl ?_
   refine gR (u':=8) (out:=rSp [s4]) trivial rfl rfl rfl rfl rfl rfl rfl rfl rfl rfl rfl rfl rfl rfl ?_
   refine gAp (u':=9) trivial rfl rfl rfl rfl rfl rfl rfl rfl rfl rfl rfl rfl (by rw [rowL_len (n:=2) (fun _=>rfl)]) (Nat.le_refl _) rfl (show (h0.w.length + 1) * (16 + 1)≤140737488355328 by omega) (row_snoc (enc:=eSp) (x:=s4)) rfl ?_
   refine gX trivial rfl rfl rfl rfl rfl rfl rfl rfl (by decide) (by decide) (fun _ h=>nomatch h) ?_
   refine gF trivial rfl rfl rfl rfl rfl ?_
   refine gT trivial rfl rfl rfl rfl rfl rfl rfl rfl rfl rfl (Nat.le_of_ble_eq_true rfl) rfl ?_
   refine rg_nil (fun _=>by kernel_rfl) ?_
   refine vc_seq ?_
   refine vc_region hm ?_
   refine gM trivial (.inl rfl) rfl rfl rfl ?_
   refine gM trivial (.inr rfl) rfl rfl rfl ?_
   refine rg_nil nofun ?_
   have hw1:h0.w.length + 1=(h0.w ++ [s4]).length:=by rw [List.length_append];rfl
   rw [hw1]
   refine vc_re (S2:=⟨6,[(4,.slice (some ⟨4,0,none⟩) ([⟨h0.r,h0.w ++ [s4]⟩,h1,h2]:List Ho).length 0)],[(1,true,one ⟨[.slice (some ⟨0,k,none⟩) n 0,.int .i64 (p4)],82,2⟩),(4,true,one ⟨hls 0 (rHv (tabV 5 zo ([⟨h0.r,h0.w ++ [s4]⟩,h1,h2]:List Ho))),46,0⟩),(5,true,inF zo 28 77 ([⟨h0.r,h0.w ++ [s4]⟩,h1,h2]:List Ho))]⟩) (re_list (ms:=[0,1,2,3,4]) (C:=5) (l:=[5,8,2005,3005,4005,5005]) rfl ⟨⟨⟨rfl,rfl⟩,rfl⟩,trivial⟩ ⟨ktRow rfl rfl rfl (BlkW.refl _) id rfl,(by rw [tab3];exact ktRow rfl rfl rfl ⟨.inl rfl,fun q=>absurd rfl q,.inl rfl,fun _=>.inr (Nat.le_of_ble_eq_true rfl)⟩ id rfl),ktCL (fun j hj n' hn=>bent_f (by rcases j with _|_|_|_|_|_|_|_|j <;> first|(cases hn;exact ⟨_,_,rfl,rfl,rfl,rfl,nbq rfl⟩)|cases hn)) (fun j hj hn=>by rcases j with _|_|_|_|_|_|_|_|j <;> first|rfl|(exfalso;simp only [List.length_cons,List.length_nil] at hj;omega)|(cases hn;done)) rfl,trivial⟩ rfl rfl (rig_of rfl) rfl rfl rfl) ?_
   refine vc_ret ?_
   exact ⟨mkF (.slice (some ⟨4,0,none⟩) ([⟨h0.r,h0.w ++ [s4]⟩,h1,h2]:List Ho).length 0) [0,2,3] [(1,one ⟨[.slice (some ⟨0,k,none⟩) n 0,.int .i64 (p4)],82,2⟩)] [(4,one ⟨hls 0 (rHv (tabV 5 zo ([⟨h0.r,h0.w ++ [s4]⟩,h1,h2]:List Ho))),46,0⟩),(5,inF zo 28 77 ([⟨h0.r,h0.w ++ [s4]⟩,h1,h2]:List Ho))],_,endsT [(4,4,one ⟨hls 0 (rHv (tabV 5 zo ([⟨h0.r,h0.w ++ [s4]⟩,h1,h2]:List Ho))),46,0⟩),(5,5,inF zo 28 77 ([⟨h0.r,h0.w ++ [s4]⟩,h1,h2]:List Ho))] (.inr rfl) (.tmp rfl rfl .nil) rfl rfl ⟨upOne rfl rfl rfl,trivial⟩ ⟨asTabK rfl rfl rfl,asIn rfl,trivial⟩ rfl,([⟨h0.r,h0.w ++ [s4]⟩,h1,h2]:List Ho),0,0,_,(Nat.le_of_ble_eq_true rfl),(by intro x hx;simp only [List.mem_cons,List.not_mem_nil,or_false] at hx;rcases hx with rfl|rfl|rfl <;> refine ⟨?_,?_⟩ <;> (try dsimp only) <;> (try simp only [List.length_append,List.length_cons,List.length_nil]) <;> omega),(by omega),(by omega),rfl⟩
  ·skip
   have p14:=ne_of_beq_false c14
   refine vc_seq ?_
   refine vc_region hm ?_
   refine gI trivial rfl rfl rfl rfl rfl rfl ?_
   refine gM trivial (.inr rfl) rfl rfl rfl ?_
   refine rg_nil nofun ?_
   refine cI rfl (fun c27=>?_) (fun c27=>?_)
   ·skip
    have p27:=eq_of_beq c27
    refine vc_region hm ?_
    refine gM trivial (.inl rfl) rfl rfl rfl ?_
    refine gM trivial (.inl rfl) rfl rfl rfl ?_
    obtain ⟨E6,hE6,L6,p6,l6a,q6a,q6b,rfl⟩:=lists_c (k:=k) (t0:=t0) (p:=p + 1) hl hn (by omega) (by omega) 
    refine gCF (ups':=[(1,one ⟨[.slice (some ⟨0,k,none⟩) n 0,.int .i64 (p6)],82,2⟩)]) (as':=[(7,one ⟨rSp L6,28,2⟩)]) (v':=.slice (some ⟨7,0,none⟩) L6.length 0) 8 [0,1,7] hE6 trivial rfl rfl rfl rfl ⟨rCode rfl rfl,rCells rfl ⟨rfl,rfl,.inr rfl⟩ rfl,trivial⟩ ⟨frOne rfl rfl,trivial⟩ ⟨frFlat (rSp_flat _) rfl,trivial⟩ rfl rfl (ho1 ⟨_,rfl⟩) (hu1 rfl) rfl rfl ?_
    refine gX trivial rfl rfl rfl rfl rfl rfl rfl rfl (by decide) (by decide) (fun _ h=>nomatch h) ?_
    refine gF trivial rfl rfl rfl rfl rfl ?_
    refine gT trivial rfl rfl rfl rfl rfl rfl rfl rfl rfl rfl (Nat.le_of_ble_eq_true rfl) rfl ?_
    refine rg_nil nofun ?_
    refine vc_seq ?_
    refine vc_region hm ?_
    refine gM trivial (.inl rfl) rfl rfl rfl ?_
    refine gM trivial (.inr rfl) rfl rfl rfl ?_
    refine rg_nil nofun ?_
    refine vc_re (S2:=⟨6,[(4,.slice (some ⟨4,0,none⟩) ([h0,⟨L6,h1.w⟩,h2]:List Ho).length 0)],[(1,true,one ⟨[.slice (some ⟨0,k,none⟩) n 0,.int .i64 (p6)],82,2⟩),(4,true,one ⟨hls 0 (rHv (tabV 5 zo ([h0,⟨L6,h1.w⟩,h2]:List Ho))),46,0⟩),(5,true,inF zo 28 77 ([h0,⟨L6,h1.w⟩,h2]:List Ho))]⟩) (re_list (ms:=[0,1,2,3,4]) (C:=5) (l:=[5,6,7,3005,4005,5005]) rfl ⟨⟨⟨rfl,rfl⟩,rfl⟩,trivial⟩ ⟨ktRow rfl rfl rfl (BlkW.refl _) id rfl,(by rw [tab3];exact ktRow rfl rfl rfl ⟨.inl rfl,fun q=>absurd rfl q,.inl rfl,fun _=>.inr (Nat.le_of_ble_eq_true rfl)⟩ id rfl),ktCL (fun j hj n' hn=>bent_f (by rcases j with _|_|_|_|_|_|_|_|j <;> first|(cases hn;exact ⟨_,_,rfl,rfl,rfl,rfl,nbq rfl⟩)|cases hn)) (fun j hj hn=>by rcases j with _|_|_|_|_|_|_|_|j <;> first|rfl|(exfalso;simp only [List.length_cons,List.length_nil] at hj;omega)|(cases hn;done)) rfl,trivial⟩ rfl rfl (rig_of rfl) rfl rfl rfl) ?_
    refine vc_ret ?_
    exact ⟨mkF (.slice (some ⟨4,0,none⟩) ([h0,⟨L6,h1.w⟩,h2]:List Ho).length 0) [0,2,3] [(1,one ⟨[.slice (some ⟨0,k,none⟩) n 0,.int .i64 (p6)],82,2⟩)] [(4,one ⟨hls 0 (rHv (tabV 5 zo ([h0,⟨L6,h1.w⟩,h2]:List Ho))),46,0⟩),(5,inF zo 28 77 ([h0,⟨L6,h1.w⟩,h2]:List Ho))],_,endsT [(4,4,one ⟨hls 0 (rHv (tabV 5 zo ([h0,⟨L6,h1.w⟩,h2]:List Ho))),46,0⟩),(5,5,inF zo 28 77 ([h0,⟨L6,h1.w⟩,h2]:List Ho))] (.inr rfl) (.tmp rfl rfl .nil) rfl rfl ⟨upOne rfl rfl rfl,trivial⟩ ⟨asTabK rfl rfl rfl,asIn rfl,trivial⟩ rfl,([h0,⟨L6,h1.w⟩,h2]:List Ho),0,0,_,(Nat.le_of_ble_eq_true rfl),(by intro x hx;simp only [List.mem_cons,List.not_mem_nil,or_false] at hx;rcases hx with rfl|rfl|rfl <;> refine ⟨?_,?_⟩ <;> (try dsimp only) <;> (try simp only [List.length_append,List.length_cons,List.length_nil]) <;> omega),(by omega),(by omega),rfl⟩
   ·skip
    have p27:=ne_of_beq_false c27
    refine vc_seq ?_
    refine vc_region hm ?_
    refine gI trivial rfl rfl rfl rfl rfl rfl ?_
    refine gM trivial (.inr rfl) rfl rfl rfl ?_
    refine rg_nil nofun ?_
    refine cI rfl (fun c34=>?_) (fun c34=>?_)
    ·skip
     have p34:=eq_of_beq c34
     refine vc_region hm ?_
     refine gM trivial (.inl rfl) rfl rfl rfl ?_
     refine gU trivial rfl rfl rfl rfl rfl rfl rfl rfl ?_
     refine gR (u':=8) trivial rfl rfl rfl rfl rfl rfl rfl rfl rfl rfl rfl rfl rfl rfl ?_
     refine gAp (u':=9) trivial rfl rfl rfl rfl rfl rfl rfl rfl rfl rfl rfl rfl rfl (Nat.le_refl _) rfl (show (3 + 1) * (48 + 1)≤140737488355328 by decide) rfl rfl ?_
     refine gM trivial (.inr rfl) rfl rfl rfl ?_
     refine rg_nil nofun ?_
     refine vc_seq ?_
     refine vc_region hm ?_
     refine gM trivial (.inl rfl) rfl rfl rfl ?_
     refine gM trivial (.inr rfl) rfl rfl rfl ?_
     refine rg_nil nofun ?_
     refine vc_re (S2:=⟨6,[(4,.slice (some ⟨4,0,none⟩) ([h0,h1,h2,⟨[],[]⟩]:List Ho).length 0)],[(1,true,one ⟨[.slice (some ⟨0,k,none⟩) n 0,.int .i64 (p + 1)],82,2⟩),(4,true,one ⟨hls 0 (rHv (tabV 5 zo ([h0,h1,h2,⟨[],[]⟩]:List Ho))),46,0⟩),(5,true,inF zo 28 77 ([h0,h1,h2,⟨[],[]⟩]:List Ho))]⟩) (re_list (ms:=[0,1,2,3,8]) (C:=5) (l:=[5,6,2005,3005,4005,5005]) rfl ⟨⟨⟨rfl,rfl⟩,rfl⟩,trivial⟩ ⟨ktRow rfl rfl rfl (BlkW.refl _) id rfl,(by rw [tab4];exact ktRow rfl rfl rfl ⟨.inl rfl,fun q=>absurd rfl q,.inl rfl,fun _=>.inr (Nat.le_of_ble_eq_true rfl)⟩ id rfl),ktCL (fun j hj n' hn=>bent_f (by rcases j with _|_|_|_|_|_|_|_|j <;> first|(cases hn;exact ⟨_,_,rfl,rfl,rfl,rfl,nbq rfl⟩)|cases hn)) (fun j hj hn=>by rcases j with _|_|_|_|_|_|_|_|j <;> first|rfl|(exfalso;simp only [List.length_cons,List.length_nil] at hj;omega)|(cases hn;done)) rfl,trivial⟩ rfl rfl (rig_of rfl) rfl rfl rfl) ?_
     refine vc_ret ?_
     exact ⟨mkF (.slice (some ⟨4,0,none⟩) ([h0,h1,h2,⟨[],[]⟩]:List Ho).length 0) [0,2,3] [(1,one ⟨[.slice (some ⟨0,k,none⟩) n 0,.int .i64 (p + 1)],82,2⟩)] [(4,one ⟨hls 0 (rHv (tabV 5 zo ([h0,h1,h2,⟨[],[]⟩]:List Ho))),46,0⟩),(5,inF zo 28 77 ([h0,h1,h2,⟨[],[]⟩]:List Ho))],_,endsT [(4,4,one ⟨hls 0 (rHv (tabV 5 zo ([h0,h1,h2,⟨[],[]⟩]:List Ho))),46,0⟩),(5,5,inF zo 28 77 ([h0,h1,h2,⟨[],[]⟩]:List Ho))] (.inr rfl) (.tmp rfl rfl .nil) rfl rfl ⟨upOne rfl rfl rfl,trivial⟩ ⟨asTabK rfl rfl rfl,asIn rfl,trivial⟩ rfl,([h0,h1,h2,⟨[],[]⟩]:List Ho),0,0,_,(Nat.le_of_ble_eq_true rfl),(by intro x hx;simp only [List.mem_cons,List.not_mem_nil,or_false] at hx;rcases hx with rfl|rfl|rfl|rfl <;> refine ⟨?_,?_⟩ <;> (try dsimp only) <;> (try simp only [List.length_append,List.length_cons,List.length_nil]) <;> omega),(by omega),(by omega),rfl⟩
    ·skip
     have p34:=ne_of_beq_false c34
     refine vc_skip ?_
     refine vc_seq ?_
     refine vc_region hm ?_
     refine gM trivial (.inl rfl) rfl rfl rfl ?_
     refine gM trivial (.inr rfl) rfl rfl rfl ?_
     refine rg_nil nofun ?_
     refine vc_re (S2:=⟨6,[(4,.slice (some ⟨4,0,none⟩) ([h0,h1,h2]:List Ho).length 0)],[(1,true,one ⟨[.slice (some ⟨0,k,none⟩) n 0,.int .i64 (p + 1)],82,2⟩),(4,true,one ⟨hls 0 (rHv (tabV 5 zo ([h0,h1,h2]:List Ho))),46,0⟩),(5,true,inF zo 28 77 ([h0,h1,h2]:List Ho))]⟩) (re_list (ms:=[0,1,2,3,4]) (C:=5) (l:=[5,6,2005,3005,4005,5005]) rfl ⟨⟨⟨rfl,rfl⟩,rfl⟩,trivial⟩ ⟨ktRow rfl rfl rfl (BlkW.refl _) id rfl,(by rw [tab3];exact ktRow rfl rfl rfl ⟨.inl rfl,fun q=>absurd rfl q,.inl rfl,fun _=>.inr (Nat.le_of_ble_eq_true rfl)⟩ id rfl),ktCL (fun j hj n' hn=>bent_f (by rcases j with _|_|_|_|_|_|_|_|j <;> first|(cases hn;exact ⟨_,_,rfl,rfl,rfl,rfl,nbq rfl⟩)|cases hn)) (fun j hj hn=>by rcases j with _|_|_|_|_|_|_|_|j <;> first|rfl|(exfalso;simp only [List.length_cons,List.length_nil] at hj;omega)|(cases hn;done)) rfl,trivial⟩ rfl rfl (rig_of rfl) rfl rfl rfl) ?_
     refine vc_ret ?_
     exact ⟨mkF (.slice (some ⟨4,0,none⟩) ([h0,h1,h2]:List Ho).length 0) [0,2,3] [(1,one ⟨[.slice (some ⟨0,k,none⟩) n 0,.int .i64 (p + 1)],82,2⟩)] [(4,one ⟨hls 0 (rHv (tabV 5 zo ([h0,h1,h2]:List Ho))),46,0⟩),(5,inF zo 28 77 ([h0,h1,h2]:List Ho))],_,endsT [(4,4,one ⟨hls 0 (rHv (tabV 5 zo ([h0,h1,h2]:List Ho))),46,0⟩),(5,5,inF zo 28 77 ([h0,h1,h2]:List Ho))] (.inr rfl) (.tmp rfl rfl .nil) rfl rfl ⟨upOne rfl rfl rfl,trivial⟩ ⟨asTabK rfl rfl rfl,asIn rfl,trivial⟩ rfl,([h0,h1,h2]:List Ho),0,0,_,(Nat.le_of_ble_eq_true rfl),(by intro x hx;simp only [List.mem_cons,List.not_mem_nil,or_false] at hx;rcases hx with rfl|rfl|rfl <;> refine ⟨?_,?_⟩ <;> (try dsimp only) <;> (try simp only [List.length_append,List.length_cons,List.length_nil]) <;> omega),(by omega),(by omega),rfl⟩
theorem asRd {m:Nat→Nat} {u j:Nat} {x:Blk} {h:List (Nat × Bool × Fam)} (hl:h.lookup j=some (true,one (x.rn m))) (hk:x.cs.all (ok1 u)=true):h.lookup j=some (true,rnF m (one x))∧∀ k y,one x k=some y→DetB (lt u) y:=⟨by rw [rnF_one];exact hl,fun k y e=>det_ok (t:=x.t) (e:=x.e) hk e⟩
theorem open_c {l:List Int} {k:Nat} (hl:ByL l):∃ E,FDoes Try.prog 42 [.slice (some ⟨0,k,none⟩) l.length 0] (hp [(0,false,one ⟨hls k (rY l),capT + l.length,0⟩)]) E∧∃ n:Nat,n≤l.length∧E=mkF (.pointer (some ⟨1,0,none⟩)) [0] [] [(1,one ⟨[.slice (some ⟨0,k,none⟩) n 0,.int .i64 (0)],82,2⟩)]:=by
 have hm:Try.prog.follows .mixedOrders=true:=by kernel_rfl
 have hd_:∀ x_ ∈ ([(0,false,one ⟨hls k (rY l),capT + l.length,0⟩)]:List (Nat × Bool × Fam)),∀ k_ y_,x_.2.2 k_=some y_→DetB (lt 1) y_:=by
  intro x_ hx k_ y_ e
  simp only [List.mem_cons,List.not_mem_nil,or_false] at hx
  subst hx
  exact det_code e
 refine fn_some (u0:=1) Try.func42 rfl rfl (gets rfl rfl rfl hd_ rfl) ?_
 clear hd_
 refine vc_seq ?_
 refine vc_region hm ?_
 refine gM trivial (.inr rfl) rfl rfl rfl ?_
 refine rg_nil nofun ?_
 refine vc_seq ?_
 refine vc_seq ?_
 refine vc_region hm ?_
 refine gM trivial (.inl rfl) rfl rfl rfl ?_
 refine gK trivial rfl rfl rfl rfl rfl rfl (hls_nil fun e=>(by have:=rY_nil e;omega)) ?_
 refine gI trivial rfl rfl rfl rfl rfl rfl ?_
 refine rg_nil nofun ?_
 refine cI rfl (fun c5=>?_) (fun c5=>?_)
 ·skip
  have p5:=of_decide_eq_true c5
  refine vc_region hm ?_
  refine gM trivial (.inl rfl) rfl rfl rfl ?_
  refine gHead (m:=2000) trivial rfl rfl rfl rfl rfl rfl rfl rfl (hls_ne (rY_ne (by omega))) (by omega) ?_
  refine gM trivial (.inr rfl) rfl rfl rfl ?_
  refine rg_nil nofun ?_
  refine vc_seq ?_
  refine vc_region hm ?_
  refine gM trivial (.inl rfl) rfl rfl rfl ?_
  refine gU trivial rfl rfl rfl rfl rfl rfl rfl rfl ?_
  refine gB (u':=2) trivial rfl rfl rfl rfl rfl rfl rfl rfl ?_
  refine gM trivial (.inr rfl) rfl rfl rfl ?_
  refine rg_nil nofun ?_
  refine vc_ret ?_
  exact ⟨mkF (.pointer (some ⟨1,0,none⟩)) [0] [] [(1,one ⟨[.slice (some ⟨0,k,none⟩) 2000 0,.int .i64 0],82,2⟩)],_,endsT [(1,1,one ⟨[.slice (some ⟨0,k,none⟩) 2000 0,.int .i64 0],82,2⟩)] (.inr rfl) (.tmp rfl rfl .nil) rfl rfl trivial ⟨asRd rfl rfl,trivial⟩ rfl,2000,(by omega),rfl⟩
 ·skip
  have p5:=of_decide_eq_false c5
  refine vc_skip ?_
  refine vc_seq ?_
  refine vc_region hm ?_
  refine gM trivial (.inl rfl) rfl rfl rfl ?_
  refine gU trivial rfl rfl rfl rfl rfl rfl rfl rfl ?_
  refine gB (u':=2) trivial rfl rfl rfl rfl rfl rfl rfl rfl ?_
  refine gM trivial (.inr rfl) rfl rfl rfl ?_
  refine rg_nil nofun ?_
  refine vc_ret ?_
  exact ⟨mkF (.pointer (some ⟨1,0,none⟩)) [0] [] [(1,one ⟨[.slice (some ⟨0,k,none⟩) l.length 0,.int .i64 0],82,2⟩)],_,endsT [(1,1,one ⟨[.slice (some ⟨0,k,none⟩) l.length 0,.int .i64 0],82,2⟩)] (.inr rfl) (.tmp rfl rfl .nil) rfl rfl trivial ⟨asRd rfl rfl,trivial⟩ rfl,l.length,(by omega),rfl⟩
theorem res_rows4 {T:List Ho} {go:Bool} {who:Int} {h:Ho}:(resT T go who h).length≤4∧∀ x ∈ resT T go who h,x.r.length≤100∧x.w.length≤100:=⟨Nat.le_trans res_rows.1 (by decide),fun x hx=>by have:=res_rows.2 x hx;omega⟩
theorem drawSame_c {l:List Int} {k:Nat} (hl:ByL l):∃ E,FDoes Try.prog 21 [.slice (some ⟨0,k,none⟩) l.length 0] (hp [(0,false,one ⟨hls k (rY l),capT + l.length,0⟩)]) E∧∃ (A M:List Ho) (kk cc eB:Nat),lockOk A=true∧M.length≤4∧(∀ h ∈ M,h.r.length≤100∧h.w.length≤100)∧E=mkF (.tuple #[.slice (some ⟨1,0,none⟩) A.length 0,.slice (some ⟨3,kk,none⟩) M.length cc]) [0] [] [(1,one ⟨hls 0 (rHv (tabV 2 zo A)),46,77⟩),(2,inF zo 28 77 A),(3,one ⟨hls kk (rHv (tabV 4 zo M)),46,eB⟩),(4,inF zo 28 77 M)]:=by
 have hm:Try.prog.follows .mixedOrders=true:=by kernel_rfl
 have hd_:∀ x_ ∈ ([(0,false,one ⟨hls k (rY l),capT + l.length,0⟩)]:List (Nat × Bool × Fam)),∀ k_ y_,x_.2.2 k_=some y_→DetB (lt 1) y_:=by
  intro x_ hx k_ y_ e
  simp only [List.mem_cons,List.not_mem_nil,or_false] at hx
  subst hx
  exact det_code e
 refine fn_some (u0:=1) Try.func21 rfl rfl (gets rfl rfl rfl hd_ rfl) ?_
 clear hd_
 refine vc_seq ?_
 refine vc_region hm ?_
 refine gM trivial (.inr rfl) rfl rfl rfl ?_
 refine gM trivial (.inr rfl) rfl rfl rfl ?_
 refine rg_nil nofun ?_
 refine vc_seq ?_
 refine vc_region hm ?_
 refine gM trivial (.inl rfl) rfl rfl rfl ?_
 obtain ⟨En1,hEn1,n,hn,rfl⟩:=open_c (l:=l) (k:=k) hl
 have hp0:(0:Int)≤0:=Int.le_refl _
 refine gCF (ups':=[]) (as':=[(1,one ⟨[.slice (some ⟨0,k,none⟩) n 0,.int .i64 (0)],82,2⟩)]) (v':=.pointer (some ⟨1,0,none⟩)) 2 [0,1] hEn1 trivial rfl rfl rfl rfl ⟨rCode rfl rfl,trivial⟩ trivial ⟨frOne rfl rfl,trivial⟩ rfl rfl (fun x hx=>nomatch hx) (fun x hx=>nomatch hx) rfl rfl ?_
 refine gM trivial (.inr rfl) rfl rfl rfl ?_
 refine rg_nil nofun ?_
 refine vc_seq ?_
 refine vc_region hm ?_
 refine gM trivial (.inl rfl) rfl rfl rfl ?_
 obtain ⟨E2,hE2,T2,p2,k2,q2a,q2b,rfl⟩:=l4Some_c (k:=k) (t0:=capT + l.length) (p:=0) hl hn (by omega) (by omega) 
 refine gCF (ups':=[(1,one ⟨[.slice (some ⟨0,k,none⟩) n 0,.int .i64 (p2)],82,2⟩)]) (as':=[(2,one ⟨rHv (tabV 3 zo T2),46,77⟩),(3,inF zo 28 77 T2)]) (v':=.slice (some ⟨2,0,none⟩) T2.length 0) 4 [0,1,2,3] hE2 trivial rfl rfl rfl rfl ⟨rCode rfl rfl,rCells rfl ⟨rfl,rfl,.inr rfl⟩ rfl,trivial⟩ ⟨frOne rfl rfl,trivial⟩ ⟨frTab (k:=0) rfl rfl rfl,frIn rfl,trivial⟩ rfl rfl (ho1 ⟨_,rfl⟩) (hu1 rfl) rfl rfl ?_
 refine gM trivial (.inr rfl) rfl rfl rfl ?_
 refine rg_nil nofun ?_
 refine vc_seq ?_
 refine vc_seq ?_
 refine vc_region hm ?_
 refine gM trivial (.inl rfl) rfl rfl rfl ?_
 obtain ⟨E3,hE3,x3,x3a,x3b,rfl⟩:=pick_c (k:=k) (t0:=capT + l.length) (p:=p2) hl hn (by omega) (by omega) (m:=2) (by omega) (by omega)
 refine gCF (ups':=[(1,one ⟨[.slice (some ⟨0,k,none⟩) n 0,.int .i64 (p2 + 1)],82,2⟩)]) (as':=[]) (v':=.int .i64 x3) 4 [0,1] hE3 trivial rfl rfl rfl rfl ⟨rCode rfl rfl,rCells rfl ⟨rfl,rfl,.inr rfl⟩ rfl,trivial⟩ ⟨frOne rfl rfl,trivial⟩ trivial rfl rfl (ho1 ⟨_,rfl⟩) (hu1 rfl) rfl rfl ?_
 refine gI trivial rfl rfl rfl rfl rfl rfl ?_
 refine rg_nil nofun ?_
 refine cI rfl (fun c14=>?_) (fun c14=>?_)
 ·skip
  have p14:=eq_of_beq c14
  refine vc_seq ?_
  refine vc_region hm ?_
  refine gM trivial (.inl rfl) rfl rfl rfl ?_
  refine gM trivial (.inl rfl) rfl rfl rfl ?_
  obtain ⟨E5,hE5,x5,x5a,x5b,rfl⟩:=pick_c (k:=k) (t0:=capT + l.length) (p:=p2 + 1) hl hn (by omega) (by omega) (m:=3) (by omega) (by omega)
  refine gCF (ups':=[(1,one ⟨[.slice (some ⟨0,k,none⟩) n 0,.int .i64 (p2 + 1 + 1)],82,2⟩)]) (as':=[]) (v':=.int .i64 x5) 4 [0,1] hE5 trivial rfl rfl rfl rfl ⟨rCode rfl rfl,rCells rfl ⟨rfl,rfl,.inr rfl⟩ rfl,trivial⟩ ⟨frOne rfl rfl,trivial⟩ trivial rfl rfl (ho1 ⟨_,rfl⟩) (hu1 rfl) rfl rfl ?_
  refine gM trivial (.inl rfl) rfl rfl rfl ?_
  obtain ⟨E6,hE6,s6,p6,s6a,s6b,s6c,q6a,q6b,rfl⟩:=span_c (k:=k) (t0:=capT + l.length) (p:=p2 + 1 + 1) hl hn (by omega) (by omega) 
  refine gCF (ups':=[(1,one ⟨[.slice (some ⟨0,k,none⟩) n 0,.int .i64 (p6)],82,2⟩)]) (as':=[]) (v':=vSp s6) 4 [0,1] hE6 trivial rfl rfl rfl rfl ⟨rCode rfl rfl,rCells rfl ⟨rfl,rfl,.inr rfl⟩ rfl,trivial⟩ ⟨frOne rfl rfl,trivial⟩ trivial rfl rfl (ho1 ⟨_,rfl⟩) (hu1 rfl) rfl rfl ?_
  refine gCT (as':=[(4,one ⟨rHv (tabV 5 zo (resT T2 (goK x5 s6 true) x5 (dropH (at_ T2 x5) s6))),46,2⟩),(5,inF zo 28 77 (resT T2 (goK x5 s6 true) x5 (dropH (at_ T2 x5) s6)))]) (v':=.tuple #[.slice (some ⟨4,0,none⟩) (resT T2 (goK x5 s6 true) x5 (dropH (at_ T2 x5) s6)).length 0,.bool (resB T2 (goK x5 s6 true) x5 (dropH (at_ T2 x5) s6))]) 6 [nA (nm 2 (0)),nF 3,nF 4,nF 5] [2,3] (spec_LockDrop_c (T:=T2) (who:=x5) (s:=s6) (kk:=0) (cc:=0) (lk_T k2) (lk_B k2)) trivial rfl rfl rfl rfl rfl ⟨aTab (k:=0) rfl rfl rfl rfl (.inl rfl) (.inl rfl) rfl rfl,aIn rfl rfl (.inl rfl) (.inl rfl) rfl,trivial⟩ ⟨rTab rfl rfl rfl,rIn rfl,trivial⟩ ⟨rfl,rfl⟩ rfl rfl rfl ?_
  refine gM trivial (.inl rfl) rfl rfl rfl ?_
  refine gE trivial rfl rfl rfl rfl rfl rfl ?_
  refine gE trivial rfl rfl rfl rfl rfl rfl ?_
  refine gM trivial (.inr rfl) rfl rfl rfl ?_
  refine gM trivial (.inr rfl) rfl rfl rfl ?_
  refine rg_nil nofun ?_
  refine vc_seq ?_
  refine vc_region hm ?_
  refine gM trivial (.inl rfl) rfl rfl rfl ?_
  refine gM trivial (.inl rfl) rfl rfl rfl ?_
  refine gM trivial (.inr rfl) rfl rfl rfl ?_
  refine gM trivial (.inr rfl) rfl rfl rfl ?_
  refine rg_nil nofun ?_
  refine vc_ret ?_
  exact ⟨mkF (.tuple #[.slice (some ⟨1,0,none⟩) T2.length 0,.slice (some ⟨3,0,none⟩) (resT T2 (goK x5 s6 true) x5 (dropH (at_ T2 x5) s6)).length 0]) [0] [] [(1,one ⟨hls 0 (rHv (tabV 2 zo T2)),46,77⟩),(2,inF zo 28 77 T2),(3,one ⟨hls 0 (rHv (tabV 4 zo (resT T2 (goK x5 s6 true) x5 (dropH (at_ T2 x5) s6)))),46,2⟩),(4,inF zo 28 77 (resT T2 (goK x5 s6 true) x5 (dropH (at_ T2 x5) s6)))],_,endsT [(1,2,one ⟨hls 0 (rHv (tabV 2 zo T2)),46,77⟩),(2,3,inF zo 28 77 T2),(3,4,one ⟨hls 0 (rHv (tabV 4 zo (resT T2 (goK x5 s6 true) x5 (dropH (at_ T2 x5) s6)))),46,2⟩),(4,5,inF zo 28 77 (resT T2 (goK x5 s6 true) x5 (dropH (at_ T2 x5) s6)))] (.inr rfl) (.tmp rfl rfl (.tmp rfl rfl .nil)) rfl rfl trivial ⟨asTabK (k0:=0) rfl rfl rfl,asIn rfl,asTabK (k0:=0) rfl rfl rfl,asIn rfl,trivial⟩ rfl,T2,(resT T2 (goK x5 s6 true) x5 (dropH (at_ T2 x5) s6)),0,0,2,k2,res_rows4.1,res_rows4.2,rfl⟩
 ·skip
  have p14:=ne_of_beq_false c14
  refine vc_skip ?_
  refine vc_seq ?_
  refine vc_region hm ?_
  refine gM trivial (.inl rfl) rfl rfl rfl ?_
  refine gM trivial (.inl rfl) rfl rfl rfl ?_
  refine gM trivial (.inl rfl) rfl rfl rfl ?_
  refine gCT (as':=[(4,one ⟨rHv (tabV 5 zo T2),46,2⟩),(5,inF zo 28 77 T2)]) (v':=.slice (some ⟨4,0,none⟩) T2.length 0) 6 [nA (nm 2 (0)),nF 3,nF 4,nF 5] [2,3] (spec_l4Copy_c (T:=T2) (kk:=0) (cc:=0) (lk_T k2) (lk_B k2)) trivial rfl rfl rfl rfl rfl ⟨aTab (k:=0) rfl rfl rfl rfl (.inl rfl) (.inl rfl) rfl rfl,aIn rfl rfl (.inl rfl) (.inl rfl) rfl,trivial⟩ ⟨rTab rfl rfl rfl,rIn rfl,trivial⟩ ⟨rfl,rfl⟩ rfl rfl rfl ?_
  obtain ⟨E8,hE8,M8,kk8,cc8,p8,m8a,m8b,q8a,q8b,rfl⟩:=bent_c (k:=k) (t0:=capT + l.length) (p:=p2 + 1) hl hn (by omega) (by omega) (T:=T2) k2
  refine gCF (ups':=[(1,one ⟨[.slice (some ⟨0,k,none⟩) n 0,.int .i64 (p8)],82,2⟩)]) (as':=[(6,one ⟨hls kk8 (rHv (tabV 7 zo M8)),46,0⟩),(7,inF zo 28 77 M8)]) (v':=.slice (some ⟨6,kk8,none⟩) M8.length cc8) 8 [0,1,4,5,6,7] hE8 trivial rfl rfl rfl rfl ⟨rCode rfl rfl,rCells rfl ⟨rfl,rfl,.inr rfl⟩ rfl,rTb (k:=0) rfl rfl rfl,rInT rfl rfl,trivial⟩ ⟨frOne rfl rfl,trivial⟩ ⟨frTab rfl rfl rfl,frIn rfl,trivial⟩ rfl rfl (ho1 ⟨_,rfl⟩) (hu1 rfl) rfl rfl ?_
  refine gM trivial (.inr rfl) rfl rfl rfl ?_
  refine gM trivial (.inr rfl) rfl rfl rfl ?_
  refine rg_nil nofun ?_
  refine vc_ret ?_
  exact ⟨mkF (.tuple #[.slice (some ⟨1,0,none⟩) T2.length 0,.slice (some ⟨3,kk8,none⟩) M8.length cc8]) [0] [] [(1,one ⟨hls 0 (rHv (tabV 2 zo T2)),46,77⟩),(2,inF zo 28 77 T2),(3,one ⟨hls kk8 (rHv (tabV 4 zo M8)),46,0⟩),(4,inF zo 28 77 M8)],_,endsT [(1,2,one ⟨hls 0 (rHv (tabV 2 zo T2)),46,77⟩),(2,3,inF zo 28 77 T2),(3,6,one ⟨hls kk8 (rHv (tabV 4 zo M8)),46,0⟩),(4,7,inF zo 28 77 M8)] (.inr rfl) (.tmp rfl rfl (.tmp rfl rfl .nil)) rfl rfl trivial ⟨asTabK (k0:=0) rfl rfl rfl,asIn rfl,asTabK (k0:=kk8) rfl rfl rfl,asIn rfl,trivial⟩ rfl,T2,M8,kk8,cc8,0,k2,m8a,m8b,rfl⟩
end Go.Proofs.Ytbgehlihpkefmaa.A
namespace Go.Proofs.Ytbgehlihpkefmaa.A
open Go Go.RowKit
theorem lm_all {T:List Ho} {who:Int} {write:Bool} {s:Sp} (h:lockMay T who write s=true):lockOk T=true∧whoOk who=true∧spanOk s=true∧mayH (at_ T who) write s=true:=by
 unfold lockMay at h
 simp only [Bool.and_eq_true] at h
 exact h
theorem lm_mk {T:List Ho} {who:Int} {write:Bool} {s:Sp} (h1:lockOk T=true) (h2:whoOk who=true) (h3:0≤s.lo∧s.lo<s.hi∧s.hi≤48) (h4:∀ x:Nat,s.lo≤(x:Int)→(x:Int)<s.hi→mayAt (at_ T who) write (x:Int)=true):lockMay T who write s=true:=by
 rw [lm_4 h1 h2 (by unfold spanOk;exact decide_eq_true h3)]
 exact may_2 (i:=s.hi) h4 (by omega)
theorem lm_sp {T:List Ho} {who:Int} {write:Bool} {s:Sp} (h:lockMay T who write s=true):0≤s.lo∧s.lo<s.hi∧s.hi≤48:=spanOk_in (lm_all h).2.2.1
theorem lm_at {T:List Ho} {who:Int} {write:Bool} {s:Sp} (h:lockMay T who write s=true) {x:Nat} (h0:s.lo≤(x:Int)) (h1:(x:Int)<s.hi):mayAt (at_ T who) write (x:Int)=true:=by
 have hm:=(lm_all h).2.2.2
 have hs:=lm_sp h
 cases q:mayAt (at_ T who) write (x:Int) with
 | true=>rfl
 | false=>rw [may_1 (s:=s) (by omega) h0 h1 (by omega) q] at hm;cases hm


abbrev spAt (i:Int):Sp:=⟨i,i + 1⟩
theorem may_pt {T:List Ho} {w:Int} {b:Bool} {i:Int} (hk:lockOk T=true) (h0:0≤w) (h1:w<3) (i0:0≤i) (i1:i<48):lockMay T w b (spAt i)=mayAt (at_ T w) b i:=by
 have hw:whoOk w=true:=by unfold whoOk;exact decide_eq_true ⟨h0,h1⟩
 have hs:0≤(spAt i).lo∧(spAt i).lo<(spAt i).hi∧(spAt i).hi≤48:=⟨i0,show i<i + 1 by omega,show i + 1≤48 by omega⟩
 cases q:mayAt (at_ T w) b i with
 | true =>
  refine lm_mk hk hw hs fun x a c=>?_
  ·have a:i≤(x:Int):=a
   have c:(x:Int)<i + 1:=c
   rw [show (x:Int)=i by omega];exact q
 | false =>
  cases q2:lockMay T w b (spAt i) with
  | false=>rfl
  | true =>
   have:=lm_at q2 (x:=i.toNat) (show i≤_ by omega) (show _<i + 1 by omega)
   rw [show ((i.toNat:Nat):Int)=i by omega,q] at this
   cases this
theorem mayAt_of {h:Ho} {b:Bool} {x:Nat}:mayAt h b (x:Int)=(ofP h.w x || (!b && ofP h.r x)):=by unfold mayAt;rw [ofP_in,ofP_in]
def cnt (f:Nat→Bool):Nat→Int
 | 0=>0
 | n + 1=>cnt f n + (if f n=true then 1 else 0)
end Go.Proofs.Ytbgehlihpkefmaa.A
namespace Go.Proofs.Ytbgehlihpkefmaa.A
open Go Go.RowKit
set_option maxHeartbeats 4000000
theorem wpAt_c (i:Int) (h0:0≤i) (h1:i≤48):FDoes Try.prog 18 [.int .i64 i] (hp []) { v:=vSp (spAt i) }:=by
 have hm:Try.prog.follows .mixedOrders=true:=by kernel_rfl
 have hd_:∀ x ∈ ([]:List (Nat × Bool × Fam)),∀ k y,x.2.2 k=some y→DetB (lt 0) y:=fun x_ hx=>(by cases hx)
 refine fn_exact (u0:=0) Try.func18 rfl rfl (gets rfl rfl rfl hd_ rfl) ?_
 clear hd_
 refine vc_seq ?_
 refine vc_region hm ?_
 refine gZ (u':=1) trivial rfl rfl rfl rfl rfl rfl rfl rfl ?_
 refine rg_nil nofun ?_
 refine vc_seq ?_
 refine vc_region hm ?_
 refine gM trivial (.inl rfl) rfl rfl rfl ?_
 refine gM trivial (.inl rfl) rfl rfl rfl ?_
 refine gA trivial rfl rfl rfl rfl rfl rfl (by omega) ?_
 refine gU trivial rfl rfl rfl rfl rfl rfl rfl rfl ?_
 refine gT trivial rfl rfl rfl rfl rfl rfl rfl rfl rfl rfl (Nat.le_of_ble_eq_true rfl) rfl ?_
 refine rg_nil nofun ?_
 refine vc_ret ?_
 exact ⟨idm,endsF (.inr rfl) (.cell rfl rfl rfl rfl rfl .nil) rfl rfl rfl⟩
end Go.Proofs.Ytbgehlihpkefmaa.A
namespace Go.Proofs.Ytbgehlihpkefmaa.A
open Go Go.RowKit
theorem beqN {a b:Bool} (e:a=b):(!(a == b))=false:=by rw [e];exact nself _
def ptE (A M:List Ho) (i:Int) (n:Nat):Bool:=(lockMay A (n:Int) false (spAt i) == lockMay M (n:Int) false (spAt i)) && (lockMay A (n:Int) true (spAt i) == lockMay M (n:Int) true (spAt i))
def smW (A M:List Ho) (i:Int) (n:Nat):Bool:=(List.range n).all (ptE A M i)
def smI (A M:List Ho) (i:Int):Bool:=(List.range i.toNat).all fun j=>smW A M (j:Int) 3
theorem smW_s {A M:List Ho} {i:Int} {n:Nat}:smW A M i (n + 1)=(smW A M i n && ptE A M i n):=by unfold smW;rw [List.range_succ,List.all_append];simp
theorem sm_0 {A M:List Ho} {i:Int}:(smI A M i && smW A M i 0)=smI A M i:=by unfold smW;simp
theorem sm_TT {A M:List Ho} {i:Int} {n:Nat} (h1:(smI A M i && smW A M i n)=true) (h2:(lockMay A (n:Int) false (spAt i) == lockMay M (n:Int) false (spAt i))=true):(smI A M i && smW A M i (n + 1))=(lockMay A (n:Int) true (spAt i) == lockMay M (n:Int) true (spAt i)):=by
 rw [smW_s,← Bool.and_assoc,h1,Bool.true_and]
 unfold ptE
 rw [h2,Bool.true_and]
theorem sm_TF {A M:List Ho} {i:Int} {n:Nat} (h2:(lockMay A (n:Int) false (spAt i) == lockMay M (n:Int) false (spAt i))=false):(smI A M i && smW A M i (n + 1))=false:=by
 rw [smW_s]
 unfold ptE
 rw [h2]
 simp
theorem sm_F {A M:List Ho} {i:Int} {n:Nat} (h1:(smI A M i && smW A M i n)=false):(smI A M i && smW A M i (n + 1))=false:=by
 rw [smW_s,← Bool.and_assoc,h1]
 rfl
theorem sm_next {A M:List Ho} {i:Int} (h:0≤i):smI A M (i + 1)=(smI A M i && smW A M i 3):=by
 unfold smI
 rw [show (i + 1).toNat=i.toNat + 1 by omega,List.range_succ,List.all_append]
 simp [show max i 0=i by omega]
theorem dec_comm {A M:List Ho}:decide (A=M)=decide (M=A):=decide_eq_decide.2 ⟨Eq.symm,Eq.symm⟩
theorem same_hold {A M:List Ho} {w:Nat} (hA:lockOk A=true) (hM:lockOk M=true) (hw:w<3) (h:∀ x:Nat,x<48→∀ b,mayAt (at_ A (w:Int)) b (x:Int)=mayAt (at_ M (w:Int)) b (x:Int)):at_ A (w:Int)=at_ M (w:Int):=by
 have a:=ok_at hA (i:=w) (by rw [ok_3 hA];exact hw)
 have m:=ok_at hM (i:=w) (by rw [ok_3 hM];exact hw)
 have ew:∀ x,x<48→ofP (at_ A (w:Int)).w x=ofP (at_ M (w:Int)).w x:=fun x hx=>by
  have:=h x hx true
  rw [mayAt_of,mayAt_of] at this
  simpa using this
 have er:∀ x,x<48→ofP (at_ A (w:Int)).r x=ofP (at_ M (w:Int)).r x:=fun x hx=>by
  have q:=h x hx false
  rw [mayAt_of,mayAt_of,ew x hx] at q
  have d1:=a.2.2 x hx
  have d2:=m.2.2 x hx
  rw [ew x hx] at d1
  cases q1:ofP (at_ M (w:Int)).w x <;> cases q2:ofP (at_ A (w:Int)).r x <;> cases q3:ofP (at_ M (w:Int)).r x <;> simp_all
 have e1:(at_ A (w:Int)).r=(at_ M (w:Int)).r:=by rw [← ofP_spans a.1,← ofP_spans m.1];exact l1ofP_congr er
 have e2:(at_ A (w:Int)).w=(at_ M (w:Int)).w:=by rw [← ofP_spans a.2.1,← ofP_spans m.2.1];exact l1ofP_congr ew
 calc at_ A (w:Int)=⟨(at_ A (w:Int)).r,(at_ A (w:Int)).w⟩:=rfl
  _=⟨(at_ M (w:Int)).r,(at_ M (w:Int)).w⟩:=by rw [e1,e2]
  _=at_ M (w:Int):=rfl
theorem sm_end {A M:List Ho} (hA:lockOk A=true) (hM:lockOk M=true):(decide (A=M) == smI A M 48)=true:=by
 have key:smI A M 48=decide (A=M):=by
  by_cases e:A=M
  ·subst e
   rw [decide_eq_true rfl]
   unfold smI smW ptE
   simp
  ·rw [decide_eq_false e]
   cases q:smI A M 48 with
   | false=>rfl
   | true =>
    refine absurd ?_ e
    unfold smI at q
    rw [List.all_eq_true] at q
    have hat:∀ w:Nat,w<3→at_ A (w:Int)=at_ M (w:Int):=fun w hw=>same_hold hA hM hw fun x hx b=>by
     have h1:=q x (List.mem_range.2 hx)
     unfold smW at h1
     rw [List.all_eq_true] at h1
     have h2:=h1 w (List.mem_range.2 hw)
     unfold ptE at h2
     rw [Bool.and_eq_true,beq_iff_eq,beq_iff_eq] at h2
     cases b with
     | true=>have:=h2.2;rw [may_pt hA (by omega) (by omega) (by omega) (by omega),may_pt hM (by omega) (by omega) (by omega) (by omega)] at this;exact this
     | false=>have:=h2.1;rw [may_pt hA (by omega) (by omega) (by omega) (by omega),may_pt hM (by omega) (by omega) (by omega) (by omega)] at this;exact this
    obtain ⟨a0,a1,a2,rfl⟩:=len3 (ok_3 hA)
    obtain ⟨m0,m1,m2,rfl⟩:=len3 (ok_3 hM)
    have h0:a0=m0:=hat 0 (by decide)
    have h1:a1=m1:=hat 1 (by decide)
    have h2:a2=m2:=hat 2 (by decide)
    rw [h0,h1,h2]
 rw [key]
 cases decide (A=M) <;> rfl
end Go.Proofs.Ytbgehlihpkefmaa.A
namespace Go.Proofs.Ytbgehlihpkefmaa.A
open Go Go.RowKit
set_option maxHeartbeats 4000000
theorem spec_l4Spans_c {a b:List Sp} (hn:a.length≤1048576):FDoes Try.prog 62 [.slice (some ⟨0,0,none⟩) a.length 0,.slice (some ⟨1,0,none⟩) b.length 0] (hp [(0,false,one ⟨rSp a,28,0⟩),(1,false,one ⟨rSp b,28,0⟩)]) { v:=.bool (decide (a=b)),rd:=[0,1] }:=by
 have hm:Try.prog.follows .mixedOrders=true:=by kernel_rfl
 have hd_:∀ x_ ∈ ([(0,false,one ⟨rSp a,28,0⟩),(1,false,one ⟨rSp b,28,0⟩)]:List (Nat × Bool × Fam)),∀ k_ y_,x_.2.2 k_=some y_→DetB (lt 2) y_:=by
  intro x_ hx k_ y_ e
  simp only [List.mem_cons,List.not_mem_nil,or_false] at hx
  rcases hx with rfl|rfl
  ·exact det_row (rSp_flat a) e
  ·exact det_row (rSp_flat b) e
 refine fn_exact (u0:=2) Try.func62 rfl rfl (gets rfl rfl rfl hd_ rfl) ?_
 clear hd_
 refine vc_seq ?_
 refine vc_region hm ?_
 refine gM trivial (.inr rfl) rfl rfl rfl ?_
 refine rg_nil nofun ?_
 refine vc_seq ?_
 refine vc_seq ?_
 refine vc_region hm ?_
 refine gM trivial (.inl rfl) rfl rfl rfl ?_
 refine gK trivial rfl rfl rfl rfl rfl rfl rSp_nil ?_
 refine gM trivial (.inl rfl) rfl rfl rfl ?_
 refine gK trivial rfl rfl rfl rfl rfl rfl rSp_nil ?_
 refine gI trivial rfl rfl rfl rfl rfl rfl ?_
 refine rg_nil nofun ?_
 refine cI rfl (fun c10=>?_) (fun c10=>?_)
 ·skip
  have p10:=bne_iff_ne.1 c10
  refine vc_seq ?_
  refine vc_region hm ?_
  refine gM trivial (.inr rfl) rfl rfl rfl ?_
  refine rg_nil nofun ?_
  refine vc_ret ?_
  exact ⟨idm,ends0 (.inr rfl) rfl (eqB (decide_eq_false (len_ne p10))) rfl rfl rfl⟩
 ·skip
  have p10:=bne_eq_false_iff_eq.1 c10
  refine vc_skip ?_
  refine vc_seq ?_
  refine vc_seq ?_
  refine vc_region hm ?_
  refine gM trivial (.inr rfl) rfl rfl rfl ?_
  refine rg_nil nofun ?_
  refine vc_block ?_
  have hl:a.length=b.length:=by omega
  refine vc_loop' (fun n_ S_=>∃ (j:Nat),j≤a.length∧a.take j=b.take j∧n_=a.length - j∧S_=⟨2,[(0,.slice (some ⟨0,0,none⟩) a.length 0),(1,.slice (some ⟨1,0,none⟩) b.length 0),(5,.int .i64 j)],[(0,false,one ⟨rSp a,28,0⟩),(1,false,one ⟨rSp b,28,0⟩)]⟩) (m0:=idm) ⟨0,Nat.zero_le _,rfl,rfl,rfl⟩ (le_mk rfl ⟨⟨rfl,rfl⟩,⟨rfl,rfl⟩,⟨rfl,rfl⟩,trivial⟩ ⟨kFlat (rSp_flat a) rfl id rfl,kFlat (rSp_flat b) rfl id rfl,trivial⟩ rfl (fun _ _=>rfl)) ?_
  rintro n_ S_ ⟨j,hj,hk,rfl,rfl⟩
  refine vc_seq ?_
  refine vc_seq ?_
  refine vc_region hm ?_
  refine gM trivial (.inl rfl) rfl rfl rfl ?_
  refine gM trivial (.inl rfl) rfl rfl rfl ?_
  refine gK trivial rfl rfl rfl rfl rfl rfl rSp_nil ?_
  refine gI trivial rfl rfl rfl rfl rfl rfl ?_
  refine rg_nil nofun ?_
  refine cI rfl (fun c14=>?_) (fun c14=>?_)
  ·skip
   have p14:=of_decide_eq_true c14
   refine vc_skip ?_
   refine vc_seq ?_
   refine vc_block ?_
   refine vc_seq ?_
   refine vc_region hm ?_
   refine gM trivial (.inl rfl) rfl rfl rfl ?_
   refine gM trivial (.inl rfl) rfl rfl rfl ?_
   refine gX trivial rfl rfl rfl rfl rfl rfl rfl rfl (by omega) (by omega) rSp_ne ?_
   refine gL trivial rfl rfl rfl rfl rfl rfl rfl (aSp (by omega) (by omega)) ?_
   refine gM trivial (.inl rfl) rfl rfl rfl ?_
   refine gM trivial (.inl rfl) rfl rfl rfl ?_
   refine gX trivial rfl rfl rfl rfl rfl rfl rfl rfl (by omega) (by omega) rSp_ne ?_
   refine gL trivial rfl rfl rfl rfl rfl rfl rfl (aSp (by omega) (by omega)) ?_
   refine gNeS trivial rfl (by kernel_rfl) rfl rfl rfl rfl ?_
   refine rg_nil (fun _=>by kernel_rfl) ?_
   refine cI rfl (fun c25=>?_) (fun c25=>?_)
   ·skip
    have n25:=unT c25
    refine vc_seq ?_
    refine vc_region hm ?_
    refine gM trivial (.inr rfl) rfl rfl rfl ?_
    refine rg_nil nofun ?_
    refine vc_ret ?_
    exact ⟨idm,ends0 (.inr rfl) rfl (eqB (decide_eq_false (at_ne (of_dF n25)))) rfl rfl rfl⟩
   ·skip
    have n25:=unF c25
    refine vc_skip ?_
    refine vc_region hm ?_
    refine gM trivial (.inl rfl) rfl rfl rfl ?_
    refine gA trivial rfl rfl rfl rfl rfl rfl (by omega) ?_
    refine gM trivial (.inr rfl) rfl rfl rfl ?_
    refine rg_nil nofun ?_
    have q:=of_dT n25
    exact lp_next (m:=idm) ⟨j + 1,(by omega),(take_step hk p14 hl q),rfl,rfl⟩ (by omega) (le_mk rfl ⟨⟨rfl,rfl⟩,⟨rfl,rfl⟩,⟨rfl,rfl⟩,trivial⟩ ⟨kFlat (rSp_flat a) rfl id rfl,kFlat (rSp_flat b) rfl id rfl,trivial⟩ rfl (fun _ _=>rfl))
  ·skip
   have p14:=of_decide_eq_false c14
   refine vc_exit ?_
   refine vc_seq ?_
   refine vc_region hm ?_
   refine gM trivial (.inr rfl) rfl rfl rfl ?_
   refine rg_nil nofun ?_
   refine vc_ret ?_
   exact ⟨idm,ends0 (.inr rfl) rfl (eqB (decide_eq_true (take_all hk p14 hl))) rfl rfl rfl⟩
theorem equal_c {a b:List Sp} (hn:a.length≤1048576):FDoes Try.prog 61 [.slice (some ⟨0,0,none⟩) a.length 0,.slice (some ⟨1,0,none⟩) b.length 0] (hp [(0,false,one ⟨rSp a,28,0⟩),(1,false,one ⟨rSp b,28,0⟩)]) { v:=.bool (decide (a=b)),rd:=[0,1] }:=by
 have hm:Try.prog.follows .mixedOrders=true:=by kernel_rfl
 have hd_:∀ x_ ∈ ([(0,false,one ⟨rSp a,28,0⟩),(1,false,one ⟨rSp b,28,0⟩)]:List (Nat × Bool × Fam)),∀ k_ y_,x_.2.2 k_=some y_→DetB (lt 2) y_:=by
  intro x_ hx k_ y_ e
  simp only [List.mem_cons,List.not_mem_nil,or_false] at hx
  rcases hx with rfl|rfl
  ·exact det_row (rSp_flat a) e
  ·exact det_row (rSp_flat b) e
 refine fn_exact (u0:=2) Try.func61 rfl rfl (gets rfl rfl rfl hd_ rfl) ?_
 clear hd_
 refine vc_seq ?_
 refine vc_region hm ?_
 refine gM trivial (.inr rfl) rfl rfl rfl ?_
 refine rg_nil nofun ?_
 refine vc_seq ?_
 refine vc_seq ?_
 refine vc_region hm ?_
 refine gM trivial (.inl rfl) rfl rfl rfl ?_
 refine gK trivial rfl rfl rfl rfl rfl rfl rSp_nil ?_
 refine gM trivial (.inl rfl) rfl rfl rfl ?_
 refine gK trivial rfl rfl rfl rfl rfl rfl rSp_nil ?_
 refine gI trivial rfl rfl rfl rfl rfl rfl ?_
 refine rg_nil nofun ?_
 refine cI rfl (fun c10=>?_) (fun c10=>?_)
 ·skip
  have p10:=bne_iff_ne.1 c10
  refine vc_seq ?_
  refine vc_region hm ?_
  refine gM trivial (.inr rfl) rfl rfl rfl ?_
  refine rg_nil nofun ?_
  refine vc_ret ?_
  exact ⟨idm,ends0 (.inr rfl) rfl (eqB (decide_eq_false (len_ne p10))) rfl rfl rfl⟩
 ·skip
  have p10:=bne_eq_false_iff_eq.1 c10
  refine vc_skip ?_
  refine vc_seq ?_
  refine vc_seq ?_
  refine vc_region hm ?_
  refine gM trivial (.inl rfl) rfl rfl rfl ?_
  refine gK trivial rfl rfl rfl rfl rfl rfl rSp_nil ?_
  refine gM trivial (.inl rfl) rfl rfl rfl ?_
  refine rg_nil nofun ?_
  refine vc_block ?_
  have hl:a.length=b.length:=by omega
  refine vc_loop' (fun n_ S_=>∃ (j:Nat),j≤a.length∧a.take j=b.take j∧n_=a.length - j∧S_=⟨2,[(0,.slice (some ⟨0,0,none⟩) a.length 0),(1,.slice (some ⟨1,0,none⟩) b.length 0),(12,.int .i64 a.length),(13,.int .i64 j)],[(0,false,one ⟨rSp a,28,0⟩),(1,false,one ⟨rSp b,28,0⟩)]⟩) (m0:=idm) ⟨0,Nat.zero_le _,rfl,rfl,rfl⟩ (le_mk rfl ⟨⟨rfl,rfl⟩,⟨rfl,rfl⟩,⟨rfl,rfl⟩,⟨rfl,rfl⟩,trivial⟩ ⟨kFlat (rSp_flat a) rfl id rfl,kFlat (rSp_flat b) rfl id rfl,trivial⟩ rfl (fun _ _=>rfl)) ?_
  rintro n_ S_ ⟨j,hj,hk,rfl,rfl⟩
  refine vc_seq ?_
  refine vc_region hm ?_
  refine gI trivial rfl rfl rfl rfl rfl rfl ?_
  refine rg_nil nofun ?_
  refine vc_seq ?_
  refine cI rfl (fun c14=>?_) (fun c14=>?_)
  ·skip
   have p14:=of_decide_eq_true c14
   refine vc_skip ?_
   refine vc_seq ?_
   refine vc_block ?_
   refine vc_seq ?_
   refine vc_region hm ?_
   refine gM trivial (.inl rfl) rfl rfl rfl ?_
   refine gM trivial (.inr rfl) rfl rfl rfl ?_
   refine rg_nil nofun ?_
   refine vc_seq ?_
   refine vc_region hm ?_
   refine gM trivial (.inl rfl) rfl rfl rfl ?_
   refine gM trivial (.inl rfl) rfl rfl rfl ?_
   refine gX trivial rfl rfl rfl rfl rfl rfl rfl rfl (by omega) (by omega) rSp_ne ?_
   refine gL trivial rfl rfl rfl rfl rfl rfl rfl (aSp (by omega) (by omega)) ?_
   refine gM trivial (.inl rfl) rfl rfl rfl ?_
   refine gM trivial (.inl rfl) rfl rfl rfl ?_
   refine gX trivial rfl rfl rfl rfl rfl rfl rfl rfl (by omega) (by omega) rSp_ne ?_
   refine gL trivial rfl rfl rfl rfl rfl rfl rfl (aSp (by omega) (by omega)) ?_
   refine gNeS trivial rfl (by kernel_rfl) rfl rfl rfl rfl ?_
   refine rg_nil (fun _=>by kernel_rfl) ?_
   refine cI rfl (fun c24=>?_) (fun c24=>?_)
   ·skip
    have n24:=unT c24
    refine vc_seq ?_
    refine vc_region hm ?_
    refine gM trivial (.inr rfl) rfl rfl rfl ?_
    refine rg_nil nofun ?_
    refine vc_ret ?_
    exact ⟨idm,ends0 (.inr rfl) rfl (eqB (decide_eq_false (at_ne (of_dF n24)))) rfl rfl rfl⟩
   ·skip
    have n24:=unF c24
    refine vc_skip ?_
    refine vc_region hm ?_
    refine gA trivial rfl rfl rfl rfl rfl rfl (by omega) ?_
    refine gM trivial (.inl rfl) rfl rfl rfl ?_
    refine rg_nil nofun ?_
    have q:=of_dT n24
    exact lp_next (m:=idm) ⟨j + 1,(by omega),(take_step hk p14 hl q),rfl,rfl⟩ (by omega) (le_mk rfl ⟨⟨rfl,rfl⟩,⟨rfl,rfl⟩,⟨rfl,rfl⟩,⟨rfl,rfl⟩,trivial⟩ ⟨kFlat (rSp_flat a) rfl id rfl,kFlat (rSp_flat b) rfl id rfl,trivial⟩ rfl (fun _ _=>rfl))
  ·skip
   have p14:=of_decide_eq_false c14
   refine vc_exit ?_
   refine vc_seq ?_
   refine vc_region hm ?_
   refine gM trivial (.inr rfl) rfl rfl rfl ?_
   refine rg_nil nofun ?_
   refine vc_ret ?_
   exact ⟨idm,ends0 (.inr rfl) rfl (eqB (decide_eq_true (take_all hk p14 hl))) rfl rfl rfl⟩
theorem lockSame1_c {x y:Ho} (hr:x.r.length≤1048576) (hw:x.w.length≤1048576):FDoes Try.prog 60 [.agg #[.slice (some ⟨0,0,none⟩) x.r.length 0,.slice (some ⟨1,0,none⟩) x.w.length 0],.agg #[.slice (some ⟨2,0,none⟩) y.r.length 0,.slice (some ⟨3,0,none⟩) y.w.length 0]] (hp [(0,false,one ⟨rSp x.r,28,0⟩),(1,false,one ⟨rSp x.w,28,0⟩),(2,false,one ⟨rSp y.r,28,0⟩),(3,false,one ⟨rSp y.w,28,0⟩)]) { v:=.bool (decide (x=y)),rd:=[0,1,2,3] }:=by
 have hm:Try.prog.follows .mixedOrders=true:=by kernel_rfl
 have hd_:∀ x_ ∈ ([(0,false,one ⟨rSp x.r,28,0⟩),(1,false,one ⟨rSp x.w,28,0⟩),(2,false,one ⟨rSp y.r,28,0⟩),(3,false,one ⟨rSp y.w,28,0⟩)]:List (Nat × Bool × Fam)),∀ k_ y_,x_.2.2 k_=some y_→DetB (lt 4) y_:=by
  intro x_ hx k_ y_ e
  simp only [List.mem_cons,List.not_mem_nil,or_false] at hx
  rcases hx with rfl|rfl|rfl|rfl
  ·exact det_row (rSp_flat x.r) e
  ·exact det_row (rSp_flat x.w) e
  ·exact det_row (rSp_flat y.r) e
  ·exact det_row (rSp_flat y.w) e
 refine fn_exact (u0:=4) Try.func60 rfl rfl (gets rfl rfl rfl hd_ rfl) ?_
 clear hd_
 refine vc_seq ?_
 refine vc_region hm ?_
 refine gB (u':=5) trivial rfl rfl rfl rfl rfl rfl rfl rfl ?_
 refine gB (u':=6) trivial rfl rfl rfl rfl rfl rfl rfl rfl ?_
 refine gM trivial (.inr rfl) rfl rfl rfl ?_
 refine rg_nil nofun ?_
 refine vc_seq ?_
 refine vc_region hm ?_
 refine gF trivial rfl rfl rfl rfl rfl ?_
 refine gL trivial rfl rfl rfl rfl rfl rfl rfl rfl ?_
 refine gF trivial rfl rfl rfl rfl rfl ?_
 refine gL trivial rfl rfl rfl rfl rfl rfl rfl rfl ?_
 refine gC0 [0,2] (equal_c (a:=x.r) (b:=y.r) hr) trivial rfl rfl rfl rfl ⟨rFlat (rSp_flat x.r) rfl (.inl rfl) rfl,rFlat (rSp_flat y.r) rfl (.inl rfl) rfl,trivial⟩ rfl rfl rfl rfl rfl ?_
 refine gM trivial (.inl rfl) rfl rfl rfl ?_
 refine gI2 (d:=10) rfl (fun c10=>?_) (fun c10=>?_)
 ·skip
  refine gF ⟨_,_,rfl,rfl,c10⟩ rfl rfl rfl rfl rfl ?_
  refine gL ⟨_,_,rfl,rfl,c10⟩ rfl rfl rfl rfl rfl rfl rfl rfl ?_
  refine gF ⟨_,_,rfl,rfl,c10⟩ rfl rfl rfl rfl rfl ?_
  refine gL ⟨_,_,rfl,rfl,c10⟩ rfl rfl rfl rfl rfl rfl rfl rfl ?_
  refine gC0 [1,3] (equal_c (a:=x.w) (b:=y.w) hw) ⟨_,_,rfl,rfl,c10⟩ rfl rfl rfl rfl ⟨rFlat (rSp_flat x.w) rfl (.inl rfl) rfl,rFlat (rSp_flat y.w) rfl (.inl rfl) rfl,trivial⟩ rfl rfl rfl rfl rfl ?_
  refine gPT trivial rfl rfl c10 rfl rfl rfl ?_
  refine gM trivial (.inr rfl) rfl rfl rfl ?_
  refine rg_nil nofun ?_
  refine vc_ret ?_
  exact ⟨idm,ends0 (.inr rfl) rfl (eqB (ho_eqs c10).symm) rfl rfl rfl⟩
 ·skip
  refine gO ⟨_,_,rfl,rfl,c10⟩ rfl rfl ?_
  refine gO ⟨_,_,rfl,rfl,c10⟩ rfl rfl ?_
  refine gO ⟨_,_,rfl,rfl,c10⟩ rfl rfl ?_
  refine gO ⟨_,_,rfl,rfl,c10⟩ rfl rfl ?_
  refine gO ⟨_,_,rfl,rfl,c10⟩ rfl rfl ?_
  refine gPF trivial rfl rfl c10 rfl rfl rfl ?_
  refine gM trivial (.inr rfl) rfl rfl rfl ?_
  refine rg_nil nofun ?_
  refine vc_ret ?_
  exact ⟨idm,ends0 (.inr rfl) rfl (eqB (ho_ne1 c10)) rfl rfl rfl⟩
theorem spec_LockSame_c {A B:List Ho} {ka kb ca cb:Nat} (hT:A.length≤1048576) (hA:∀ h ∈ A,h.r.length≤1048576∧h.w.length≤1048576):FDoes Try.prog 23 [.slice (some ⟨0,ka,none⟩) A.length ca,.slice (some ⟨2,kb,none⟩) B.length cb] (hp [(0,false,one ⟨hls ka (rHv (tabV 1 zo A)),46,0⟩),(1,false,inF zo 28 0 A),(2,false,one ⟨hls kb (rHv (tabV 3 zo B)),46,0⟩),(3,false,inF zo 28 0 B)]) { v:=.bool (decide (A=B)),rd:=[0,1,2,3] }:=by
 have hm:Try.prog.follows .mixedOrders=true:=by kernel_rfl
 have hd_:∀ x_ ∈ ([(0,false,one ⟨hls ka (rHv (tabV 1 zo A)),46,0⟩),(1,false,inF zo 28 0 A),(2,false,one ⟨hls kb (rHv (tabV 3 zo B)),46,0⟩),(3,false,inF zo 28 0 B)]:List (Nat × Bool × Fam)),∀ k_ y_,x_.2.2 k_=some y_→DetB (lt 4) y_:=by
  intro x_ hx k_ y_ e
  simp only [List.mem_cons,List.not_mem_nil,or_false] at hx
  rcases hx with rfl|rfl|rfl|rfl
  ·exact det_tab (k0:=ka) rfl e
  ·exact det_in e
  ·exact det_tab (k0:=kb) rfl e
  ·exact det_in e
 refine fn_exact (u0:=4) Try.func23 rfl rfl (gets rfl rfl rfl hd_ rfl) ?_
 clear hd_
 refine vc_seq ?_
 refine vc_region hm ?_
 refine gM trivial (.inr rfl) rfl rfl rfl ?_
 refine rg_nil nofun ?_
 refine vc_seq ?_
 refine vc_seq ?_
 refine vc_region hm ?_
 refine gM trivial (.inl rfl) rfl rfl rfl ?_
 refine gK trivial rfl rfl rfl rfl rfl rfl (hls_nil tabV_nil) ?_
 refine gM trivial (.inl rfl) rfl rfl rfl ?_
 refine gK trivial rfl rfl rfl rfl rfl rfl (hls_nil tabV_nil) ?_
 refine gI trivial rfl rfl rfl rfl rfl rfl ?_
 refine rg_nil nofun ?_
 refine cI rfl (fun c10=>?_) (fun c10=>?_)
 ·skip
  have p10:=bne_iff_ne.1 c10
  refine vc_seq ?_
  refine vc_region hm ?_
  refine gM trivial (.inr rfl) rfl rfl rfl ?_
  refine rg_nil nofun ?_
  refine vc_ret ?_
  exact ⟨idm,ends0 (.inr rfl) rfl (eqB (decide_eq_false (len_ne p10))) rfl rfl rfl⟩
 ·skip
  have p10:=bne_eq_false_iff_eq.1 c10
  refine vc_skip ?_
  refine vc_seq ?_
  refine vc_seq ?_
  refine vc_region hm ?_
  refine gM trivial (.inr rfl) rfl rfl rfl ?_
  refine rg_nil nofun ?_
  refine vc_block ?_
  have hl:A.length=B.length:=by omega
  refine vc_loopT (fun n_ S_=>∃ (j:Nat),j≤A.length∧A.take j=B.take j∧n_=A.length - j∧S_=⟨4,[(0,.slice (some ⟨0,ka,none⟩) A.length ca),(1,.slice (some ⟨2,kb,none⟩) B.length cb),(5,.int .i64 j)],[(0,false,one ⟨hls ka (rHv (tabV 1 zo A)),46,0⟩),(1,false,inF zo 28 0 A),(2,false,one ⟨hls kb (rHv (tabV 3 zo B)),46,0⟩),(3,false,inF zo 28 0 B)]⟩) ⟨0,Nat.zero_le _,rfl,rfl,rfl⟩ (re_nil (ms:=[0,1,2,3]) (C:=999) rfl ⟨⟨⟨rfl,rfl⟩,rfl⟩,⟨⟨rfl,rfl⟩,rfl⟩,⟨⟨rfl,rfl⟩,rfl⟩,trivial⟩ ⟨ktTab (k:=ka) rfl rfl (.inr (.inl rfl)) id rfl rfl,ktIn rfl id rfl,ktTab (k:=kb) rfl rfl (.inr (.inl rfl)) id rfl rfl,ktIn rfl id rfl,trivial⟩ rfl rfl (rig_of rfl) rfl) ?_
  rintro n_ S_ ⟨j,hj,hk,rfl,rfl⟩
  refine vc_seq ?_
  refine vc_seq ?_
  refine vc_region hm ?_
  refine gM trivial (.inl rfl) rfl rfl rfl ?_
  refine gM trivial (.inl rfl) rfl rfl rfl ?_
  refine gK trivial rfl rfl rfl rfl rfl rfl (hls_nil tabV_nil) ?_
  refine gI trivial rfl rfl rfl rfl rfl rfl ?_
  refine rg_nil nofun ?_
  refine cI rfl (fun c14=>?_) (fun c14=>?_)
  ·skip
   have p14:=of_decide_eq_true c14
   refine vc_skip ?_
   refine vc_seq ?_
   refine vc_block ?_
   refine vc_seq ?_
   refine vc_region hm ?_
   refine gM trivial (.inl rfl) rfl rfl rfl ?_
   refine gM trivial (.inl rfl) rfl rfl rfl ?_
   refine gX trivial rfl rfl rfl rfl rfl rfl rfl rfl (by omega) (by omega) (fun h=>hls_ne (tabV_ne h)) ?_
   refine gF trivial rfl rfl rfl rfl rfl ?_
   refine gL trivial rfl rfl rfl rfl rfl rfl rfl (lH0k (by omega) p14) ?_
   refine gM trivial (.inl rfl) rfl rfl rfl ?_
   refine gM trivial (.inl rfl) rfl rfl rfl ?_
   refine gX trivial rfl rfl rfl rfl rfl rfl rfl rfl (by omega) (by omega) (fun h=>hls_ne (tabV_ne h)) ?_
   refine gF trivial rfl rfl rfl rfl rfl ?_
   refine gL trivial rfl rfl rfl rfl rfl rfl rfl (lH0k (by omega) (by omega)) ?_
   refine gCT0 [nA (nm 1 (2 * ((j:Int)).toNat)),nA (nm 3 (2 * ((j:Int)).toNat))] [1,3] (spec_l4Spans_c (a:=(at_ A (j:Int)).r) (b:=(at_ B (j:Int)).r) (hA _ (at_mem (by omega) p14)).1) trivial rfl rfl rfl rfl rfl ⟨aRow rfl (rSp_flat _) rfl (inF_0 (by omega) p14) (.inl rfl) (.inl rfl) rfl,aRow rfl (rSp_flat _) rfl (inF_0 (by omega) (by omega)) (.inl rfl) (.inl rfl) rfl,trivial⟩ rfl rfl rfl rfl ?_
   refine gN trivial rfl rfl rfl rfl ?_
   refine gM trivial (.inl rfl) rfl rfl rfl ?_
   refine gI2 (d:=29) rfl (fun c29=>?_) (fun c29=>?_)
   ·skip
    have n29:=unT c29
    refine gO ⟨_,_,rfl,rfl,c29⟩ rfl rfl ?_
    refine gO ⟨_,_,rfl,rfl,c29⟩ rfl rfl ?_
    refine gO ⟨_,_,rfl,rfl,c29⟩ rfl rfl ?_
    refine gO ⟨_,_,rfl,rfl,c29⟩ rfl rfl ?_
    refine gO ⟨_,_,rfl,rfl,c29⟩ rfl rfl ?_
    refine gO ⟨_,_,rfl,rfl,c29⟩ rfl rfl ?_
    refine gO ⟨_,_,rfl,rfl,c29⟩ rfl rfl ?_
    refine gO ⟨_,_,rfl,rfl,c29⟩ rfl rfl ?_
    refine gO ⟨_,_,rfl,rfl,c29⟩ rfl rfl ?_
    refine gO ⟨_,_,rfl,rfl,c29⟩ rfl rfl ?_
    refine gO ⟨_,_,rfl,rfl,c29⟩ rfl rfl ?_
    refine gO ⟨_,_,rfl,rfl,c29⟩ rfl rfl ?_
    refine gPT trivial rfl rfl c29 rfl rfl rfl ?_
    refine rg_nil (fun _=>by kernel_rfl) ?_
    refine cT rfl rfl ?_
    refine vc_seq ?_
    refine vc_region hm ?_
    refine gM trivial (.inr rfl) rfl rfl rfl ?_
    refine rg_nil nofun ?_
    refine vc_ret ?_
    exact ⟨idm,ends0 (.inr rfl) rfl (eqB (decide_eq_false (at_ne (of_dF (by first|exact ho_ne1 (by assumption)|exact ho_ne2 (by assumption)))))) rfl rfl rfl⟩
   ·skip
    have n29:=unF c29
    refine gM ⟨_,_,rfl,rfl,c29⟩ (.inl rfl) rfl rfl rfl ?_
    refine gM ⟨_,_,rfl,rfl,c29⟩ (.inl rfl) rfl rfl rfl ?_
    refine gX ⟨_,_,rfl,rfl,c29⟩ rfl rfl rfl rfl rfl rfl rfl rfl (by omega) (by omega) (fun h=>hls_ne (tabV_ne h)) ?_
    refine gF ⟨_,_,rfl,rfl,c29⟩ rfl rfl rfl rfl rfl ?_
    refine gL ⟨_,_,rfl,rfl,c29⟩ rfl rfl rfl rfl rfl rfl rfl (lH1k (by omega) p14) ?_
    refine gM ⟨_,_,rfl,rfl,c29⟩ (.inl rfl) rfl rfl rfl ?_
    refine gM ⟨_,_,rfl,rfl,c29⟩ (.inl rfl) rfl rfl rfl ?_
    refine gX ⟨_,_,rfl,rfl,c29⟩ rfl rfl rfl rfl rfl rfl rfl rfl (by omega) (by omega) (fun h=>hls_ne (tabV_ne h)) ?_
    refine gF ⟨_,_,rfl,rfl,c29⟩ rfl rfl rfl rfl rfl ?_
    refine gL ⟨_,_,rfl,rfl,c29⟩ rfl rfl rfl rfl rfl rfl rfl (lH1k (by omega) (by omega)) ?_
    refine gCT0 [nA (nm 1 (2 * ((j:Int)).toNat + 1)),nA (nm 3 (2 * ((j:Int)).toNat + 1))] [1,3] (spec_l4Spans_c (a:=(at_ A (j:Int)).w) (b:=(at_ B (j:Int)).w) (hA _ (at_mem (by omega) p14)).2) ⟨_,_,rfl,rfl,c29⟩ rfl rfl rfl rfl rfl ⟨aRow rfl (rSp_flat _) rfl (inF_1 (by omega) p14) (.inl rfl) (.inl rfl) rfl,aRow rfl (rSp_flat _) rfl (inF_1 (by omega) (by omega)) (.inl rfl) (.inl rfl) rfl,trivial⟩ rfl rfl rfl rfl ?_
    refine gN ⟨_,_,rfl,rfl,c29⟩ rfl rfl rfl rfl ?_
    refine gPF trivial rfl rfl c29 rfl rfl rfl ?_
    refine rg_nil (fun _=>by kernel_rfl) ?_
    refine cI rfl (fun c42=>?_) (fun c42=>?_)
    ·skip
     have n42:=unT c42
     refine vc_seq ?_
     refine vc_region hm ?_
     refine gM trivial (.inr rfl) rfl rfl rfl ?_
     refine rg_nil nofun ?_
     refine vc_ret ?_
     exact ⟨idm,ends0 (.inr rfl) rfl (eqB (decide_eq_false (at_ne (of_dF (by first|exact ho_ne1 (by assumption)|exact ho_ne2 (by assumption)))))) rfl rfl rfl⟩
    ·skip
     have n42:=unF c42
     refine vc_skip ?_
     refine vc_region hm ?_
     refine gM trivial (.inl rfl) rfl rfl rfl ?_
     refine gA trivial rfl rfl rfl rfl rfl rfl (by omega) ?_
     refine gM trivial (.inr rfl) rfl rfl rfl ?_
     refine rg_nil nofun ?_
     exact lp_nextT ⟨j + 1,(by omega),(take_step hk p14 hl (of_dT (ho_eq n29 n42))),rfl,rfl⟩ (by omega) (re_nil (ms:=[0,1,2,3]) (C:=999) rfl ⟨⟨⟨rfl,rfl⟩,rfl⟩,⟨⟨rfl,rfl⟩,rfl⟩,⟨⟨rfl,rfl⟩,rfl⟩,trivial⟩ ⟨ktTab (k:=ka) rfl rfl (.inr (.inl rfl)) id rfl rfl,ktIn rfl id rfl,ktTab (k:=kb) rfl rfl (.inr (.inl rfl)) id rfl rfl,ktIn rfl id rfl,trivial⟩ rfl rfl (rig_of rfl) rfl)
  ·skip
   have p14:=of_decide_eq_false c14
   refine vc_exit ?_
   refine vc_seq ?_
   refine vc_region hm ?_
   refine gM trivial (.inr rfl) rfl rfl rfl ?_
   refine rg_nil nofun ?_
   refine vc_ret ?_
   exact ⟨idm,ends0 (.inr rfl) rfl (eqB (decide_eq_true (take_all hk p14 hl))) rfl rfl rfl⟩
theorem equalFunc_c {A B:List Ho} {ka kb ca cb:Nat} (hT:A.length≤1048576) (hA:∀ h ∈ A,h.r.length≤1048576∧h.w.length≤1048576):FDoes Try.prog 59 [.slice (some ⟨0,ka,none⟩) A.length ca,.slice (some ⟨2,kb,none⟩) B.length cb,Value.func (.func 60) #[] #[]] (hp [(0,false,one ⟨hls ka (rHv (tabV 1 zo A)),46,0⟩),(1,false,inF zo 28 0 A),(2,false,one ⟨hls kb (rHv (tabV 3 zo B)),46,0⟩),(3,false,inF zo 28 0 B)]) { v:=.bool (decide (A=B)),rd:=[0,1,2,3] }:=by
 have hm:Try.prog.follows .mixedOrders=true:=by kernel_rfl
 have hd_:∀ x_ ∈ ([(0,false,one ⟨hls ka (rHv (tabV 1 zo A)),46,0⟩),(1,false,inF zo 28 0 A),(2,false,one ⟨hls kb (rHv (tabV 3 zo B)),46,0⟩),(3,false,inF zo 28 0 B)]:List (Nat × Bool × Fam)),∀ k_ y_,x_.2.2 k_=some y_→DetB (lt 4) y_:=by
  intro x_ hx k_ y_ e
  simp only [List.mem_cons,List.not_mem_nil,or_false] at hx
  rcases hx with rfl|rfl|rfl|rfl
  ·exact det_tab (k0:=ka) rfl e
  ·exact det_in e
  ·exact det_tab (k0:=kb) rfl e
  ·exact det_in e
 refine fn_exact (u0:=4) Try.func59 rfl rfl (gets rfl rfl rfl hd_ rfl) ?_
 clear hd_
 refine vc_seq ?_
 refine vc_region hm ?_
 refine gM trivial (.inr rfl) rfl rfl rfl ?_
 refine rg_nil nofun ?_
 refine vc_seq ?_
 refine vc_seq ?_
 refine vc_region hm ?_
 refine gM trivial (.inl rfl) rfl rfl rfl ?_
 refine gK trivial rfl rfl rfl rfl rfl rfl (hls_nil tabV_nil) ?_
 refine gM trivial (.inl rfl) rfl rfl rfl ?_
 refine gK trivial rfl rfl rfl rfl rfl rfl (hls_nil tabV_nil) ?_
 refine gI trivial rfl rfl rfl rfl rfl rfl ?_
 refine rg_nil nofun ?_
 refine cI rfl (fun c14=>?_) (fun c14=>?_)
 ·skip
  have p14:=bne_iff_ne.1 c14
  refine vc_seq ?_
  refine vc_region hm ?_
  refine gM trivial (.inr rfl) rfl rfl rfl ?_
  refine rg_nil nofun ?_
  refine vc_ret ?_
  exact ⟨idm,ends0 (.inr rfl) rfl (eqB (decide_eq_false (len_ne p14))) rfl rfl rfl⟩
 ·skip
  have p14:=bne_eq_false_iff_eq.1 c14
  refine vc_skip ?_
  refine vc_seq ?_
  refine vc_seq ?_
  refine vc_region hm ?_
  refine gM trivial (.inl rfl) rfl rfl rfl ?_
  refine gK trivial rfl rfl rfl rfl rfl rfl (hls_nil tabV_nil) ?_
  refine gM trivial (.inl rfl) rfl rfl rfl ?_
  refine rg_nil nofun ?_
  refine vc_block ?_
  have hl:A.length=B.length:=by omega
  refine vc_loopT (fun n_ S_=>∃ (j:Nat),j≤A.length∧A.take j=B.take j∧n_=A.length - j∧S_=⟨4,[(1,.slice (some ⟨2,kb,none⟩) B.length cb),(2,Value.func (.func 60) #[] #[]),(15,.slice (some ⟨0,ka,none⟩) A.length ca),(16,.int .i64 A.length),(17,.int .i64 j)],[(0,false,one ⟨hls ka (rHv (tabV 1 zo A)),46,0⟩),(1,false,inF zo 28 0 A),(2,false,one ⟨hls kb (rHv (tabV 3 zo B)),46,0⟩),(3,false,inF zo 28 0 B)]⟩) ⟨0,Nat.zero_le _,rfl,rfl,rfl⟩ (re_nil (ms:=[0,1,2,3]) (C:=999) rfl ⟨⟨⟨rfl,rfl⟩,rfl⟩,⟨⟨rfl,rfl⟩,rfl⟩,⟨⟨rfl,rfl⟩,rfl⟩,⟨⟨rfl,rfl⟩,rfl⟩,⟨⟨rfl,rfl⟩,rfl⟩,trivial⟩ ⟨ktTab (k:=ka) rfl rfl (.inr (.inl rfl)) id rfl rfl,ktIn rfl id rfl,ktTab (k:=kb) rfl rfl (.inr (.inl rfl)) id rfl rfl,ktIn rfl id rfl,trivial⟩ rfl rfl (rig_of rfl) rfl) ?_
  rintro n_ S_ ⟨j,hj,hk,rfl,rfl⟩
  refine vc_seq ?_
  refine vc_region hm ?_
  refine gI trivial rfl rfl rfl rfl rfl rfl ?_
  refine rg_nil nofun ?_
  refine vc_seq ?_
  refine cI rfl (fun c18=>?_) (fun c18=>?_)
  ·skip
   have p18:=of_decide_eq_true c18
   refine vc_skip ?_
   refine vc_seq ?_
   refine vc_block ?_
   refine vc_seq ?_
   refine vc_region hm ?_
   refine gM trivial (.inl rfl) rfl rfl rfl ?_
   refine gX trivial rfl rfl rfl rfl rfl rfl rfl rfl (by omega) (by omega) (fun h=>hls_ne (tabV_ne h)) ?_
   refine gL trivial rfl rfl rfl rfl rfl rfl rfl (aHk (by omega) p18) ?_
   refine gZ (u':=5) trivial rfl rfl rfl rfl rfl rfl rfl rfl ?_
   refine gM trivial (.inr rfl) rfl rfl rfl ?_
   refine gT trivial rfl rfl rfl rfl rfl rfl rfl rfl rfl rfl (Nat.le_of_ble_eq_true rfl) rfl ?_
   refine rg_nil nofun ?_
   refine vc_seq ?_
   refine vc_region hm ?_
   refine gM trivial (.inl rfl) rfl rfl rfl ?_
   refine gM trivial (.inl rfl) rfl rfl rfl ?_
   refine gX trivial rfl rfl rfl rfl rfl rfl rfl rfl (by omega) (by omega) (fun h=>hls_ne (tabV_ne h)) ?_
   refine gL trivial rfl rfl rfl rfl rfl rfl rfl (aHk (by omega) (by omega)) ?_
   refine gZ (u':=6) trivial rfl rfl rfl rfl rfl rfl rfl rfl ?_
   refine gT trivial rfl rfl rfl rfl rfl rfl rfl rfl rfl rfl (Nat.le_of_ble_eq_true rfl) rfl ?_
   refine rg_nil nofun ?_
   refine vc_seq ?_
   refine vc_region hm ?_
   refine gM trivial (.inl rfl) rfl rfl rfl ?_
   refine gL trivial rfl rfl rfl rfl rfl rfl rfl rfl ?_
   refine gL trivial rfl rfl rfl rfl rfl rfl rfl rfl ?_
   refine gCcT (as_:=[]) (as':=[]) 6 [nA (nm 1 (2 * ((j:Int)).toNat)),nA (nm 1 (2 * ((j:Int)).toNat + 1)),nA (nm 3 (2 * ((j:Int)).toNat)),nA (nm 3 (2 * ((j:Int)).toNat + 1))] [1,3] (lockSame1_c (x:=(at_ A (j:Int))) (y:=(at_ B (j:Int))) (hA _ (at_mem (by omega) p18)).1 (hA _ (at_mem (by omega) p18)).2) trivial rfl rfl rfl rfl rfl rfl rfl ⟨aRow rfl (rSp_flat _) rfl (inF_0 (by omega) p18) (.inl rfl) (.inl rfl) rfl,aRow rfl (rSp_flat _) rfl (inF_1 (by omega) p18) (.inl rfl) (.inl rfl) rfl,aRow rfl (rSp_flat _) rfl (inF_0 (by omega) (by omega)) (.inl rfl) (.inl rfl) rfl,aRow rfl (rSp_flat _) rfl (inF_1 (by omega) (by omega)) (.inl rfl) (.inl rfl) rfl,trivial⟩ trivial ⟨rfl,rfl⟩ rfl rfl rfl ?_
   refine gN trivial rfl rfl rfl rfl ?_
   refine rg_nil nofun ?_
   refine cI rfl (fun c30=>?_) (fun c30=>?_)
   ·skip
    have n30:=unT c30
    refine vc_seq ?_
    refine vc_region hm ?_
    refine gM trivial (.inr rfl) rfl rfl rfl ?_
    refine rg_nil nofun ?_
    refine vc_ret ?_
    exact ⟨idm,ends0 (.inr rfl) rfl (eqB (decide_eq_false (at_ne (of_dF n30)))) rfl rfl rfl⟩
   ·skip
    have n30:=unF c30
    refine vc_skip ?_
    refine vc_region hm ?_
    refine gA trivial rfl rfl rfl rfl rfl rfl (by omega) ?_
    refine gM trivial (.inl rfl) rfl rfl rfl ?_
    refine rg_nil nofun ?_
    exact lp_nextT ⟨j + 1,(by omega),(take_step hk p18 hl (of_dT n30)),rfl,rfl⟩ (by omega) (re_nil (ms:=[0,1,2,3]) (C:=999) rfl ⟨⟨⟨rfl,rfl⟩,rfl⟩,⟨⟨rfl,rfl⟩,rfl⟩,⟨⟨rfl,rfl⟩,rfl⟩,⟨⟨rfl,rfl⟩,rfl⟩,⟨⟨rfl,rfl⟩,rfl⟩,trivial⟩ ⟨ktTab (k:=ka) rfl rfl (.inr (.inl rfl)) id rfl rfl,ktIn rfl id rfl,ktTab (k:=kb) rfl rfl (.inr (.inl rfl)) id rfl rfl,ktIn rfl id rfl,trivial⟩ rfl rfl (rig_of rfl) rfl)
  ·skip
   have p18:=of_decide_eq_false c18
   refine vc_exit ?_
   refine vc_seq ?_
   refine vc_region hm ?_
   refine gM trivial (.inr rfl) rfl rfl rfl ?_
   refine rg_nil nofun ?_
   refine vc_ret ?_
   exact ⟨idm,ends0 (.inr rfl) rfl (eqB (decide_eq_true (take_all hk p18 hl))) rfl rfl rfl⟩
theorem impl_LockSame_c {A B:List Ho} {ka kb ca cb:Nat} (hT:A.length≤1048576) (hA:∀ h ∈ A,h.r.length≤1048576∧h.w.length≤1048576):FDoes Try.prog 22 [.slice (some ⟨0,ka,none⟩) A.length ca,.slice (some ⟨2,kb,none⟩) B.length cb] (hp [(0,false,one ⟨hls ka (rHv (tabV 1 zo A)),46,0⟩),(1,false,inF zo 28 0 A),(2,false,one ⟨hls kb (rHv (tabV 3 zo B)),46,0⟩),(3,false,inF zo 28 0 B)]) { v:=.bool (decide (A=B)),rd:=[0,1,2,3] }:=by
 have hm:Try.prog.follows .mixedOrders=true:=by kernel_rfl
 have hd_:∀ x_ ∈ ([(0,false,one ⟨hls ka (rHv (tabV 1 zo A)),46,0⟩),(1,false,inF zo 28 0 A),(2,false,one ⟨hls kb (rHv (tabV 3 zo B)),46,0⟩),(3,false,inF zo 28 0 B)]:List (Nat × Bool × Fam)),∀ k_ y_,x_.2.2 k_=some y_→DetB (lt 4) y_:=by
  intro x_ hx k_ y_ e
  simp only [List.mem_cons,List.not_mem_nil,or_false] at hx
  rcases hx with rfl|rfl|rfl|rfl
  ·exact det_tab (k0:=ka) rfl e
  ·exact det_in e
  ·exact det_tab (k0:=kb) rfl e
  ·exact det_in e
 refine fn_exact (u0:=4) Try.func22 rfl rfl (gets rfl rfl rfl hd_ rfl) ?_
 clear hd_
 refine vc_seq ?_
 refine vc_region hm ?_
 refine gM trivial (.inr rfl) rfl rfl rfl ?_
 refine rg_nil nofun ?_
 refine vc_seq ?_
 refine vc_region hm ?_
 refine gM trivial (.inl rfl) rfl rfl rfl ?_
 refine gM trivial (.inl rfl) rfl rfl rfl ?_
 refine gCT0 [nA (nm 0 (0)),nF 1,nA (nm 2 (0)),nF 3] [0,1,2,3] (equalFunc_c (A:=A) (B:=B) hT hA) trivial rfl rfl rfl rfl rfl ⟨aTab (k:=ka) rfl rfl rfl rfl (.inl rfl) (.inl rfl) rfl rfl,aIn rfl rfl (.inl rfl) (.inl rfl) rfl,aTab (k:=kb) rfl rfl rfl rfl (.inl rfl) (.inl rfl) rfl rfl,aIn rfl rfl (.inl rfl) (.inl rfl) rfl,trivial⟩ rfl rfl rfl rfl ?_
 refine gM trivial (.inr rfl) rfl rfl rfl ?_
 refine rg_nil nofun ?_
 refine vc_ret ?_
 exact ⟨idm,ends0 (.inr rfl) rfl (eqB rfl) rfl rfl rfl⟩
theorem impl_LockMay_c {T:List Ho} {who:Int} {write:Bool} {s:Sp} {kk cc:Nat} (hT:T.length≤1048576) (hB:∀ h ∈ T,h.r.length≤1048576∧h.w.length≤1048576):FDoes Try.prog 17 [.slice (some ⟨0,kk,none⟩) T.length cc,.int .i64 who,.bool write,vSp s] (hp [(0,false,one ⟨hls kk (rHv (tabV 1 zo T)),46,0⟩),(1,false,inF zo 28 0 T)]) { v:=.bool (lockMay T who write s),rd:=[0,1] }:=by
 have hm:Try.prog.follows .mixedOrders=true:=by kernel_rfl
 have hd_:∀ x_ ∈ ([(0,false,one ⟨hls kk (rHv (tabV 1 zo T)),46,0⟩),(1,false,inF zo 28 0 T)]:List (Nat × Bool × Fam)),∀ k_ y_,x_.2.2 k_=some y_→DetB (lt 2) y_:=by
  intro x_ hx k_ y_ e
  simp only [List.mem_cons,List.not_mem_nil,or_false] at hx
  rcases hx with rfl|rfl
  ·exact det_tab (k0:=kk) rfl e
  ·exact det_in e
 refine fn_exact (u0:=2) Try.func17 rfl rfl (gets rfl rfl rfl hd_ rfl) ?_
 clear hd_
 refine vc_seq ?_
 refine vc_region hm ?_
 refine gB (u':=3) trivial rfl rfl rfl rfl rfl rfl rfl rfl ?_
 refine gM trivial (.inr rfl) rfl rfl rfl ?_
 refine rg_nil nofun ?_
 refine vc_seq ?_
 refine vc_seq ?_
 refine vc_region hm ?_
 refine gM trivial (.inl rfl) rfl rfl rfl ?_
 refine gCT0 [nA (nm 0 (0)),nF 1] [0,1] (impl_LockOk_c (T:=T) hT hB) trivial rfl rfl rfl rfl rfl ⟨aTab (k:=kk) rfl rfl rfl rfl (.inl rfl) (.inl rfl) rfl rfl,aIn rfl rfl (.inl rfl) (.inl rfl) rfl,trivial⟩ rfl rfl rfl rfl ?_
 refine gN trivial rfl rfl rfl rfl ?_
 refine gM trivial (.inl rfl) rfl rfl rfl ?_
 refine gI2 (d:=13) rfl (fun c13=>?_) (fun c13=>?_)
 ·skip
  have n13:=unT c13
  refine gO ⟨_,_,rfl,rfl,c13⟩ rfl rfl ?_
  refine gO ⟨_,_,rfl,rfl,c13⟩ rfl rfl ?_
  refine gO ⟨_,_,rfl,rfl,c13⟩ rfl rfl ?_
  refine gPT trivial rfl rfl c13 rfl rfl rfl ?_
  refine gM trivial (.inl rfl) rfl rfl rfl ?_
  refine gO ⟨_,_,rfl,rfl,rfl⟩ rfl rfl ?_
  refine gO ⟨_,_,rfl,rfl,rfl⟩ rfl rfl ?_
  refine gO ⟨_,_,rfl,rfl,rfl⟩ rfl rfl ?_
  refine gPT trivial rfl rfl rfl rfl rfl rfl ?_
  refine rg_nil nofun ?_
  refine cT rfl rfl ?_
  refine vc_seq ?_
  refine vc_region hm ?_
  refine gM trivial (.inr rfl) rfl rfl rfl ?_
  refine rg_nil nofun ?_
  refine vc_ret ?_
  exact ⟨idm,ends0 (.inr rfl) rfl (eqB (by first|exact lm_1 (by assumption)|exact lm_2 (by assumption)|exact lm_3 (by assumption))) rfl rfl rfl⟩
 ·skip
  have n13:=unF c13
  refine gM ⟨_,_,rfl,rfl,c13⟩ (.inl rfl) rfl rfl rfl ?_
  refine gC0 [] (client_c who) ⟨_,_,rfl,rfl,c13⟩ rfl rfl rfl rfl (by trivial) rfl rfl rfl rfl rfl ?_
  refine gN ⟨_,_,rfl,rfl,c13⟩ rfl rfl rfl rfl ?_
  refine gPF trivial rfl rfl c13 rfl rfl rfl ?_
  refine gM trivial (.inl rfl) rfl rfl rfl ?_
  refine gI2 (d:=18) rfl (fun c18=>?_) (fun c18=>?_)
  ·skip
   have n18:=unT c18
   refine gO ⟨_,_,rfl,rfl,c18⟩ rfl rfl ?_
   refine gO ⟨_,_,rfl,rfl,c18⟩ rfl rfl ?_
   refine gO ⟨_,_,rfl,rfl,c18⟩ rfl rfl ?_
   refine gPT trivial rfl rfl c18 rfl rfl rfl ?_
   refine rg_nil nofun ?_
   refine cT rfl rfl ?_
   refine vc_seq ?_
   refine vc_region hm ?_
   refine gM trivial (.inr rfl) rfl rfl rfl ?_
   refine rg_nil nofun ?_
   refine vc_ret ?_
   exact ⟨idm,ends0 (.inr rfl) rfl (eqB (by first|exact lm_1 (by assumption)|exact lm_2 (by assumption)|exact lm_3 (by assumption))) rfl rfl rfl⟩
  ·skip
   have n18:=unF c18
   refine gL ⟨_,_,rfl,rfl,c18⟩ rfl rfl rfl rfl rfl rfl rfl rfl ?_
   refine gC0 [] (impl_SpanOk_c s) ⟨_,_,rfl,rfl,c18⟩ rfl rfl rfl rfl (by trivial) rfl rfl rfl rfl rfl ?_
   refine gN ⟨_,_,rfl,rfl,c18⟩ rfl rfl rfl rfl ?_
   refine gPF trivial rfl rfl c18 rfl rfl rfl ?_
   refine rg_nil nofun ?_
   refine cI rfl (fun c22=>?_) (fun c22=>?_)
   ·skip
    have n22:=unT c22
    refine vc_seq ?_
    refine vc_region hm ?_
    refine gM trivial (.inr rfl) rfl rfl rfl ?_
    refine rg_nil nofun ?_
    refine vc_ret ?_
    exact ⟨idm,ends0 (.inr rfl) rfl (eqB (by first|exact lm_1 (by assumption)|exact lm_2 (by assumption)|exact lm_3 (by assumption))) rfl rfl rfl⟩
   ·skip
    have n22:=unF c22
    refine vc_skip ?_
    refine vc_seq ?_
    refine vc_region hm ?_
    refine gM trivial (.inl rfl) rfl rfl rfl ?_
    refine gM trivial (.inl rfl) rfl rfl rfl ?_
    refine gX trivial rfl rfl rfl rfl rfl rfl rfl rfl (by have:=whoOk_in (who:=who) (by assumption);have:=ok_3 (T:=T) (by assumption);omega) (by have:=whoOk_in (who:=who) (by assumption);have:=ok_3 (T:=T) (by assumption);omega) (fun h=>hls_ne (tabV_ne h)) ?_
    refine gF trivial rfl rfl rfl rfl rfl ?_
    refine gL trivial rfl rfl rfl rfl rfl rfl rfl (lH1k (by have:=whoOk_in (who:=who) (by assumption);have:=ok_3 (T:=T) (by assumption);omega) (by have:=whoOk_in (who:=who) (by assumption);have:=ok_3 (T:=T) (by assumption);omega)) ?_
    refine gCT0 [nA (nm 1 (2 * (who).toNat + 1))] [1] (of_c (l:=(at_ T who).w) (inB_of (okW (by assumption) (by assumption)).2) (by have:=spansOk_len (l:=(at_ T who).w) (okW (by assumption) (by assumption)).2;omega)) trivial rfl rfl rfl rfl rfl ⟨aRow rfl (rSp_flat _) rfl (inF_1 (by have:=whoOk_in (who:=who) (by assumption);have:=ok_3 (T:=T) (by assumption);omega) (by have:=whoOk_in (who:=who) (by assumption);have:=ok_3 (T:=T) (by assumption);omega)) (.inl rfl) (.inl rfl) rfl,trivial⟩ (vPl_flat _) rfl rfl rfl ?_
    refine gZ (u':=4) trivial rfl rfl rfl rfl rfl rfl rfl (show cellsL _=plL noP from rfl) ?_
    refine gT trivial rfl rfl rfl rfl rfl rfl rfl rfl rfl rfl zPl pPl ?_
    refine rg_nil nofun ?_
    refine vc_seq ?_
    refine vc_seq ?_
    refine vc_region hm ?_
    refine gM trivial (.inl rfl) rfl rfl rfl ?_
    refine gN trivial rfl rfl rfl rfl ?_
    refine rg_nil nofun ?_
    refine cI rfl (fun c30=>?_) (fun c30=>?_)
    ·skip
     have n30:=unT c30
     refine vc_region hm ?_
     refine gL trivial rfl rfl rfl rfl rfl rfl rfl wPl ?_
     refine gM trivial (.inl rfl) rfl rfl rfl ?_
     refine gM trivial (.inl rfl) rfl rfl rfl ?_
     refine gX trivial rfl rfl rfl rfl rfl rfl rfl rfl (by have:=whoOk_in (who:=who) (by assumption);have:=ok_3 (T:=T) (by assumption);omega) (by have:=whoOk_in (who:=who) (by assumption);have:=ok_3 (T:=T) (by assumption);omega) (fun h=>hls_ne (tabV_ne h)) ?_
     refine gF trivial rfl rfl rfl rfl rfl ?_
     refine gL trivial rfl rfl rfl rfl rfl rfl rfl (lH0k (by have:=whoOk_in (who:=who) (by assumption);have:=ok_3 (T:=T) (by assumption);omega) (by have:=whoOk_in (who:=who) (by assumption);have:=ok_3 (T:=T) (by assumption);omega)) ?_
     refine gCT0 [nA (nm 1 (2 * (who).toNat))] [1] (of_c (l:=(at_ T who).r) (inB_of (okW (by assumption) (by assumption)).1) (by have:=spansOk_len (l:=(at_ T who).r) (okW (by assumption) (by assumption)).1;omega)) trivial rfl rfl rfl rfl rfl ⟨aRow rfl (rSp_flat _) rfl (inF_0 (by have:=whoOk_in (who:=who) (by assumption);have:=ok_3 (T:=T) (by assumption);omega) (by have:=whoOk_in (who:=who) (by assumption);have:=ok_3 (T:=T) (by assumption);omega)) (.inl rfl) (.inl rfl) rfl,trivial⟩ (vPl_flat _) rfl rfl rfl ?_
     refine gC0 [] (put_c (ofP (at_ T who).w) (ofP (at_ T who).r) true) trivial rfl rfl rfl rfl (by trivial) rfl rfl (vPl_flat _) rfl rfl ?_
     refine gT trivial rfl rfl rfl rfl rfl rfl rfl rfl rfl rfl zPl pPl ?_
     refine rg_nil (fun _=>by kernel_rfl) ?_
     refine vc_seq ?_
     refine vc_region hm ?_
     refine gL trivial rfl rfl rfl rfl rfl rfl rfl wPl ?_
     refine gL trivial rfl rfl rfl rfl rfl rfl rfl rfl ?_
     refine gR (u':=5) (out:=rSp [s]) trivial rfl rfl rfl rfl rfl rfl rfl rfl rfl rfl rfl rfl rfl rfl ?_
     refine gC0 [4] (of_c (l:=[s]) (inB_one' (by assumption)) (show 1≤1000000 by decide)) trivial rfl rfl rfl rfl ⟨rFlat (rSp_flat [s]) rfl (.inl rfl) rfl,trivial⟩ rfl rfl (vPl_flat _) rfl rfl ?_
     refine gC0 [] (meet_c (putP (ofP (at_ T who).w) (ofP (at_ T who).r) true) (ofP [s])) trivial rfl rfl rfl rfl (by trivial) rfl rfl (vPl_flat _) rfl rfl ?_
     refine gL trivial rfl rfl rfl rfl rfl rfl rfl rfl ?_
     refine gR (u':=6) (out:=rSp [s]) trivial rfl rfl rfl rfl rfl rfl rfl rfl rfl rfl rfl rfl rfl rfl ?_
     refine gC0 [5] (of_c (l:=[s]) (inB_one' (by assumption)) (show 1≤1000000 by decide)) trivial rfl rfl rfl rfl ⟨rFlat (rSp_flat [s]) rfl (.inl rfl) rfl,trivial⟩ rfl rfl (vPl_flat _) rfl rfl ?_
     refine gEqP trivial rfl rfl rfl rfl rfl (by kernel_rfl) rfl rfl rfl rfl ?_
     refine gM trivial (.inr rfl) rfl rfl rfl ?_
     refine rg_nil (fun _=>by kernel_rfl) ?_
     refine vc_ret ?_
     exact ⟨idm,ends0 (.inr rfl) rfl (eqB ((lm_4 (by assumption) (by assumption) (by assumption)).trans (may_eqF (by assumption)).symm)) rfl rfl rfl⟩
    ·skip
     have n30:=unF c30
     refine vc_skip ?_
     refine vc_seq ?_
     refine vc_region hm ?_
     refine gL trivial rfl rfl rfl rfl rfl rfl rfl wPl ?_
     refine gL trivial rfl rfl rfl rfl rfl rfl rfl rfl ?_
     refine gR (u':=5) (out:=rSp [s]) trivial rfl rfl rfl rfl rfl rfl rfl rfl rfl rfl rfl rfl rfl rfl ?_
     refine gC0 [4] (of_c (l:=[s]) (inB_one' (by assumption)) (show 1≤1000000 by decide)) trivial rfl rfl rfl rfl ⟨rFlat (rSp_flat [s]) rfl (.inl rfl) rfl,trivial⟩ rfl rfl (vPl_flat _) rfl rfl ?_
     refine gC0 [] (meet_c (ofP (at_ T who).w) (ofP [s])) trivial rfl rfl rfl rfl (by trivial) rfl rfl (vPl_flat _) rfl rfl ?_
     refine gL trivial rfl rfl rfl rfl rfl rfl rfl rfl ?_
     refine gR (u':=6) (out:=rSp [s]) trivial rfl rfl rfl rfl rfl rfl rfl rfl rfl rfl rfl rfl rfl rfl ?_
     refine gC0 [5] (of_c (l:=[s]) (inB_one' (by assumption)) (show 1≤1000000 by decide)) trivial rfl rfl rfl rfl ⟨rFlat (rSp_flat [s]) rfl (.inl rfl) rfl,trivial⟩ rfl rfl (vPl_flat _) rfl rfl ?_
     refine gEqP trivial rfl rfl rfl rfl rfl (by kernel_rfl) rfl rfl rfl rfl ?_
     refine gM trivial (.inr rfl) rfl rfl rfl ?_
     refine rg_nil (fun _=>by kernel_rfl) ?_
     refine vc_ret ?_
     exact ⟨idm,ends0 (.inr rfl) rfl (eqB ((lm_4 (by assumption) (by assumption) (by assumption)).trans (may_eqT (by assumption)).symm)) rfl rfl rfl⟩
end Go.Proofs.Ytbgehlihpkefmaa.A
namespace Go.Proofs.Ytbgehlihpkefmaa.A
open Go Go.RowKit
open Go.Joins Go.ChangeShapes Go.WideShapes Go.Deep
def RawN (w:World) (v:Value) (N:Nam) (k n:Nat) (cs:List Value):Prop :=
 v=(if N.nil=true then zv N.z else .slice (some ⟨N.blk,k,none⟩) n (N.cap - 0))∧(if N.nil=true then hls k cs = [] else ∃ (c:Array Value) (t:TypeId) (z:Nat × Nat),w.heap[N.blk]?=some (.cells c t z)∧∀ (i:Nat) (x:Value),(hls k cs)[i]?=some x→x ≠ hole→c[i]?=some x)
theorem raw_none {w:World}:RawN w (.slice none 0 0) ⟨0,0,true,none⟩ 0 0 []:=⟨rfl,rfl⟩
theorem raw_of' {α:Type} {enc:α→List Value} {m:Nat} (he:∀ x,(enc x).length=m) (hm:0<m) {w:World} {a:Addr} {cap:Nat} {l:List α} (h:∀ i x,(rowL enc l)[i]?=some x→w.cell? (a.add i)=some x):∃ N k,RawN w (.slice (some a) l.length cap) N k l.length (rowL enc l)∧(N.nil=false→N.cap=cap):=by
 rcases l with _|⟨x,xs⟩
 ·exact ⟨⟨0,0,true,some (a,cap)⟩,0,⟨rfl,rfl⟩,fun q=>(by cases q)⟩
 ·have hp0:0<(rowL enc (x :: xs)).length:=by rw [rowL_len he,List.length_cons];exact Nat.mul_pos (Nat.succ_pos _) hm
  have h0:=h 0 _ (List.getElem?_eq_getElem hp0)
  have h1:∃ c t z,w.heap[a.block]?=some (.cells c t z)∧a.spot=none:=by
   have e:a.add 0=a:=by simp [Addr.add]
   unfold World.cell? at h0
   rw [e] at h0
   split at h0
   ·rename_i c t z hh
    refine ⟨c,t,z,hh,?_⟩
    split at h0
    ·cases h0
    ·rename_i hs;simpa using hs
   ·cases h0
  obtain ⟨c,t,z,hh,hs⟩:=h1
  obtain ⟨b,off,sp⟩:=a
  simp only at hs hh
  subst hs
  refine ⟨⟨b,cap,false,none⟩,off,⟨rfl,(if_neg Bool.false_ne_true).mpr ⟨c,t,z,hh,fun i v hv hne=>?_⟩⟩,fun _=>rfl⟩
  unfold hls at hv
  by_cases hi:i<off
  ·rw [List.getElem?_append_left (by simpa using hi)] at hv
   have:=List.mem_of_getElem? hv
   exact absurd (List.eq_of_mem_replicate this) hne
  ·rw [List.getElem?_append_right (by simpa using hi),List.length_replicate] at hv
   have:=h (i - off) v hv
   rw [add_eq,cell_eq hh] at this
   rw [← this]
   congr 1
   omega
def envL (l:List Nam):Env:=fun n=>(l[n % 1000]?).getD ⟨0,0,true,none⟩
theorem raw_atR {w:World} {v:Value} {N:Nam} {k n:Nat} {cs:List Value} {t:TypeId} {l:List Nam} {b:Nat} (h:RawN w v N k n cs) (hf:cs.all flat1=true) (hb:l[b]?=some N) (hb':b<1000) (ht:N.nil=false→t - capT≤N.cap):famAt (envL l) w b (one ⟨hls k cs,t,0⟩):=by
 intro k' x e
 obtain ⟨rfl,rfl⟩:=one_some e
 have e1:envL l (nm b 0)=N:=by unfold envL;rw [nm_mod hb',hb];rfl
 unfold blkAt
 rw [e1]
 have h2:=h.2
 cases hn:N.nil with
 | true=>rw [hn,if_pos rfl] at h2;rw [if_pos rfl];exact ⟨h2,fun q=>absurd rfl q,(by decide:0<100)⟩
 | false =>
  rw [hn,if_neg (by decide)] at h2
  rw [if_neg (by decide),if_pos rfl]
  obtain ⟨c,t',z,h3,h4⟩:=h2
  refine ⟨c,t',z,h3,fun i v hv hne=>?_,ht hn⟩
  rw [r1_flat (List.all_eq_true.1 (hls_flat (k:=k) hf) v (List.mem_of_getElem? hv))]
  exact h4 i v hv hne
theorem raw_r1 {w:World} {v:Value} {N:Nam} {k n:Nat} {cs:List Value} {l:List Nam} {b:Nat} (h:RawN w v N k n cs) (hb:l[b]?=some N) (hb':b<1000):r1 (envL l) (.slice (some ⟨b,k,none⟩) n 0)=v:=by
 show (if (envL l b).nil=true then zv (envL l b).z else .slice (some ⟨(envL l b).blk,k,none⟩) n ((envL l b).cap - 0))=v
 have e1:envL l b=N:=by unfold envL;rw [Nat.mod_eq_of_lt hb',hb];rfl
 rw [e1,h.1]
def AtL (ρ:Env) (w:World):List (Nat × Bool × Fam)→Prop
 | []=>True
 | x :: l=>famAt ρ w x.1 x.2.2∧AtL ρ w l
theorem atL_mem {ρ:Env} {w:World}:∀ {l:List (Nat × Bool × Fam)},AtL ρ w l→∀ b o F,l.lookup b=some (o,F)→famAt ρ w b F
 | x :: l,h,b,o,F,e=>by
  obtain ⟨c,y⟩:=x
  rw [List.lookup_cons] at e
  by_cases hb:b=c
  ·subst hb
   simp at e
   subst e
   exact h.1
  ·have:(b == c)=false:=by simpa using hb
   rw [this] at e
   exact atL_mem h.2 b o F e
theorem law_done {P:Program} {f:FuncId} {args:List Value} {hl:List (Nat × Bool × Fam)} {rd:List Nat} {ρ:Env} {w:World} {vs:Array Value} (h:FDoes P f args (hp hl) { v:=.bool true,rd:=rd }) (ha:(args.map (r3 ρ)).toArray=vs) (hr:AtL ρ w hl) :
  Calls P f vs w fun e w'=>e = .returned (.bool true)∧Below w.heap.size w w':=by
 subst ha
 refine (h.run ρ w ⟨fun b _ o F e=>atL_mem hr b o F e,fun b hb=>(by cases hb)⟩).mono fun e w' ⟨ρ',hB,he⟩=>⟨he,?_⟩
 have hf:=hB.frm
 exact Frm.below ⟨hf.os,hf.tape,hf.output,hf.size,fun k hk hn=>hf.block k hk fun ⟨b,hb,_⟩=>(by cases hb)⟩
section
variable {H:Type} {enc:TypeId × Value→H} {P:Program} {w:World} {base:Nat} {spare:Nat→Bool} {held:Bool}
end
section
variable {H:Type} {enc:TypeId × Value→H} {w:World} {base:Nat} {spare:Nat→Bool} {held:Bool}
end
theorem u8_in {n:Int} (h:(Lit.int .u8 n).wf=true):0≤n∧n≤255:=by
 have e1:IntKind.u8.min=0:=by decide
 have e2:IntKind.u8.max=255:=by decide
 simp only [Lit.wf,e1,e2,Bool.and_eq_true,decide_eq_true_eq] at h
 exact h
def CodeArg (w:World) (v:Value) (l:List Int) (N:Nam) (k:Nat):Prop:=RawN w v N k l.length (rY l)∧(N.nil=false→l.length≤N.cap)∧ByL l∧l.length≤9223372036854775807
theorem code_at {w:World} {v:Value} {l:List Int} {N:Nam} {k:Nat} {ns:List Nam} {b:Nat} (h:CodeArg w v l N k) (hb:ns[b]?=some N) (hb':b<1000):famAt (envL ns) w b (one ⟨hls k (rY l),capT + l.length,0⟩) :=
 raw_atR h.1 (rY_flat l) hb hb' fun hn=>by rw [Nat.add_sub_cancel_left];exact h.2.1 hn
theorem code_r3 {w:World} {v:Value} {l:List Int} {N:Nam} {k:Nat} {ns:List Nam} {b:Nat} (h:CodeArg w v l N k) (hb:ns[b]?=some N) (hb':b<1000):r3 (envL ns) (.slice (some ⟨b,k,none⟩) l.length 0)=v:=raw_r1 h.1 hb hb'
theorem open_bytesA {H:Type} {enc:TypeId × Value→H} {w:World} {base:Nat} {spare:Nat→Bool} {held:Bool} {r:Reach} {b0:Nat} {v:Value} {d:DataW H} {p:List MemPlace} (hv:Value.okWide Try.prog w r b0 22 v) (h:DataW.Trod enc Try.prog w base spare held 22 v d p):∃ l N k,CodeArg w v l N k:=by
 obtain ⟨a1,len,cap,rfl⟩:=okWide_slice Try.underlying22 hv
 obtain ⟨fuel,hf⟩:=h
 rcases open_ints Try.underlying22 Try.underlying5 (by kernel_rfl) hf with ⟨h1,_⟩|⟨a,len',cap',zs,h1,_,hl,hm,hz,_,hcell,hw⟩
 ·simp only [Value.cells,List.cons.injEq,_root_.and_true,Value.slice.injEq] at h1
  obtain ⟨rfl,rfl,rfl⟩:=h1
  exact ⟨[],_,_,raw_none,fun q=>(by cases q),(fun _ hx=>(nomatch hx)),by decide⟩
 ·simp only [Value.cells,List.cons.injEq,_root_.and_true,Value.slice.injEq] at h1
  obtain ⟨rfl,rfl,rfl⟩:=h1
  unfold maxLen at hm
  have hlz:len≤zs.length:=by rw [hz];split <;> omega
  have hn:(zs.take len).length=len:=by rw [List.length_take,Nat.min_eq_left hlz]
  have key:∀ i x,(rY (zs.take len))[i]?=some x→w.cell? (a.add i)=some x:=fun i x hx=>by
   have hi:=(List.getElem?_eq_some_iff.1 hx).1
   rw [rowL_len (n:=1) (fun _=>rfl),hn,Nat.mul_one] at hi
   have e1:x = .int .u8 (zs.getD i 0):=by
    have hg:=rowL_get (enc:=eY) (n:=1) (fun _=>rfl) (zs.take len) i 0 (by rw [hn];exact hi) (by decide)
    rw [Nat.mul_one,Nat.add_zero,hx,List.getElem_take] at hg
    rw [List.getD_eq_getElem?_getD,List.getElem?_eq_getElem (by omega)]
    exact Option.some.inj hg
   rw [e1]
   exact hcell i (by omega)
  obtain ⟨N,k,hr,hc⟩:=raw_of' (enc:=eY) (m:=1) (fun _=>rfl) (by decide) (cap:=cap) key
  refine ⟨zs.take len,N,k,by rw [hn] at hr ⊢;exact hr,fun q=>by rw [hc q,hn];omega,fun x hx=>u8_in (hw x (List.mem_of_mem_take hx)),by rw [hn];omega⟩
end Go.Proofs.Ytbgehlihpkefmaa.A
namespace Go.Proofs.Ytbgehlihpkefmaa.A
open Go Go.RowKit
set_option maxHeartbeats 4000000
theorem FnLockSame_c {l:List Int} {k:Nat} (hl:ByL l) (hl9:l.length≤9223372036854775807):FDoes Try.prog 5 [.slice (some ⟨0,k,none⟩) l.length 0] (hp [(0,false,one ⟨hls k (rY l),capT + l.length,0⟩)]) { v:=.bool true,rd:=[0] }:=by
 have hm:Try.prog.follows .mixedOrders=true:=by kernel_rfl
 have hd_:∀ x_ ∈ ([(0,false,one ⟨hls k (rY l),capT + l.length,0⟩)]:List (Nat × Bool × Fam)),∀ k_ y_,x_.2.2 k_=some y_→DetB (lt 1) y_:=by
  intro x_ hx k_ y_ e
  simp only [List.mem_cons,List.not_mem_nil,or_false] at hx
  subst hx
  exact det_code e
 refine fn_exact (u0:=1) Try.func5 rfl rfl (gets rfl rfl rfl hd_ rfl) ?_
 clear hd_
 refine vc_seq ?_
 refine vc_region hm ?_
 refine gM trivial (.inr rfl) rfl rfl rfl ?_
 refine rg_nil nofun ?_
 refine vc_seq ?_
 refine vc_seq ?_
 refine vc_region hm ?_
 refine gM trivial (.inl rfl) rfl rfl rfl ?_
 refine gK trivial rfl rfl rfl rfl rfl rfl (hls_nil fun e=>rY_nil e) ?_
 refine gI trivial rfl rfl rfl rfl rfl rfl ?_
 refine rg_nil nofun ?_
 refine cI rfl (fun c11=>?_) (fun c11=>?_)
 ·skip
  have p11:=of_decide_eq_true c11
  refine vc_seq ?_
  refine vc_region hm ?_
  refine gM trivial (.inr rfl) rfl rfl rfl ?_
  refine rg_nil nofun ?_
  refine vc_ret ?_
  exact ⟨idm,ends0 (.inr rfl) rfl (eqB rfl) rfl rfl rfl⟩
 ·skip
  have p11:=of_decide_eq_false c11
  refine vc_skip ?_
  refine vc_seq ?_
  refine vc_region hm ?_
  refine gM trivial (.inl rfl) rfl rfl rfl ?_
  obtain ⟨E2,hE2,A,M,kk,cc,eB,hA,ma,mb,rfl⟩:=drawSame_c (l:=l) (k:=k) hl
  have hT:M.length≤1048576:=by omega
  have hB:∀ h ∈ M,h.r.length≤1048576∧h.w.length≤1048576:=fun h hh=>by have:=mb h hh;omega
  refine gCF (ups':=[]) (as':=[(1,one ⟨hls 0 (rHv (tabV 2 zo A)),46,77⟩),(2,inF zo 28 77 A),(3,one ⟨hls kk (rHv (tabV 4 zo M)),46,eB⟩),(4,inF zo 28 77 M)]) (v':=.tuple #[.slice (some ⟨1,0,none⟩) A.length 0,.slice (some ⟨3,kk,none⟩) M.length cc]) 5 [0,1,2,3,4] hE2 trivial rfl rfl rfl rfl ⟨rCode rfl rfl,trivial⟩ trivial ⟨frTab rfl rfl rfl,frIn rfl,frTab rfl rfl rfl,frIn rfl,trivial⟩ rfl rfl (fun x hx=>nomatch hx) (fun x hx=>nomatch hx) rfl rfl ?_
  refine gM trivial (.inl rfl) rfl rfl rfl ?_
  refine gE trivial rfl rfl rfl rfl rfl rfl ?_
  refine gE trivial rfl rfl rfl rfl rfl rfl ?_
  refine gM trivial (.inr rfl) rfl rfl rfl ?_
  refine gM trivial (.inr rfl) rfl rfl rfl ?_
  refine rg_nil nofun ?_
  refine vc_seq ?_
  refine vc_region hm ?_
  refine gM trivial (.inl rfl) rfl rfl rfl ?_
  refine gM trivial (.inl rfl) rfl rfl rfl ?_
  refine gCT0 [nA (nm 1 (0)),nF 2,nA (nm 3 (0)),nF 4] [1,2,3,4] (impl_LockSame_c (A:=A) (B:=M) (ka:=0) (ca:=0) (kb:=kk) (cb:=cc) (lk_T hA) (lk_B hA)) trivial rfl rfl rfl rfl rfl ⟨aTab (k:=0) rfl rfl rfl rfl (.inl rfl) (.inl rfl) rfl rfl,aIn rfl rfl (.inl rfl) (.inl rfl) rfl,aTab (k:=kk) rfl rfl rfl rfl (.inl rfl) (.inl rfl) rfl rfl,aIn rfl rfl (.inl rfl) (.inl rfl) rfl,trivial⟩ rfl rfl rfl rfl ?_
  refine gM trivial (.inr rfl) rfl rfl rfl ?_
  refine rg_nil nofun ?_
  refine vc_seq ?_
  refine vc_seq ?_
  refine vc_region hm ?_
  refine gM trivial (.inl rfl) rfl rfl rfl ?_
  refine gM trivial (.inl rfl) rfl rfl rfl ?_
  refine gM trivial (.inl rfl) rfl rfl rfl ?_
  refine gCT0 [nA (nm 1 (0)),nF 2,nA (nm 3 (0)),nF 4] [1,2,3,4] (spec_LockSame_c (A:=A) (B:=M) (ka:=0) (ca:=0) (kb:=kk) (cb:=cc) (lk_T hA) (lk_B hA)) trivial rfl rfl rfl rfl rfl ⟨aTab (k:=0) rfl rfl rfl rfl (.inl rfl) (.inl rfl) rfl rfl,aIn rfl rfl (.inl rfl) (.inl rfl) rfl,aTab (k:=kk) rfl rfl rfl rfl (.inl rfl) (.inl rfl) rfl rfl,aIn rfl rfl (.inl rfl) (.inl rfl) rfl,trivial⟩ rfl rfl rfl rfl ?_
  refine gBN trivial rfl rfl rfl rfl rfl rfl ?_
  refine gM trivial (.inl rfl) rfl rfl rfl ?_
  refine gM ⟨_,_,rfl,rfl,(nself _)⟩ (.inl rfl) rfl rfl rfl ?_
  refine gM ⟨_,_,rfl,rfl,(nself _)⟩ (.inl rfl) rfl rfl rfl ?_
  refine gM ⟨_,_,rfl,rfl,(nself _)⟩ (.inl rfl) rfl rfl rfl ?_
  refine gCT0 [nA (nm 3 (0)),nF 4,nA (nm 1 (0)),nF 2] [3,4,1,2] (impl_LockSame_c (A:=M) (B:=A) (ka:=kk) (ca:=cc) (kb:=0) (cb:=0) hT hB) ⟨_,_,rfl,rfl,(nself _)⟩ rfl rfl rfl rfl rfl ⟨aTab (k:=kk) rfl rfl rfl rfl (.inl rfl) (.inl rfl) rfl rfl,aIn rfl rfl (.inl rfl) (.inl rfl) rfl,aTab (k:=0) rfl rfl rfl rfl (.inl rfl) (.inl rfl) rfl rfl,aIn rfl rfl (.inl rfl) (.inl rfl) rfl,trivial⟩ rfl rfl rfl rfl ?_
  refine gBN ⟨_,_,rfl,rfl,(nself _)⟩ rfl rfl rfl rfl rfl rfl ?_
  refine gPF trivial rfl rfl (nself _) rfl rfl rfl ?_
  refine gM trivial (.inl rfl) rfl rfl rfl ?_
  refine gM ⟨_,_,rfl,rfl,(beqN dec_comm)⟩ (.inl rfl) rfl rfl rfl ?_
  refine gCT0 [nA (nm 1 (0)),nF 2] [1,2] (spec_LockOk_c (T:=A) (kk:=0) (cc:=0) (lk_T hA) (lk_B hA)) ⟨_,_,rfl,rfl,(beqN dec_comm)⟩ rfl rfl rfl rfl rfl ⟨aTab (k:=0) rfl rfl rfl rfl (.inl rfl) (.inl rfl) rfl rfl,aIn rfl rfl (.inl rfl) (.inl rfl) rfl,trivial⟩ rfl rfl rfl rfl ?_
  refine gN ⟨_,_,rfl,rfl,(beqN dec_comm)⟩ rfl rfl rfl rfl ?_
  refine gPF trivial rfl rfl (beqN dec_comm) rfl rfl rfl ?_
  refine gM trivial (.inl rfl) rfl rfl rfl ?_
  refine gM ⟨_,_,rfl,rfl,(notT hA)⟩ (.inl rfl) rfl rfl rfl ?_
  refine gCT0 [nA (nm 3 (0)),nF 4] [3,4] (spec_LockOk_c (T:=M) (kk:=kk) (cc:=cc) hT hB) ⟨_,_,rfl,rfl,(notT hA)⟩ rfl rfl rfl rfl rfl ⟨aTab (k:=kk) rfl rfl rfl rfl (.inl rfl) (.inl rfl) rfl rfl,aIn rfl rfl (.inl rfl) (.inl rfl) rfl,trivial⟩ rfl rfl rfl rfl ?_
  refine gN ⟨_,_,rfl,rfl,(notT hA)⟩ rfl rfl rfl rfl ?_
  refine gPF trivial rfl rfl (notT hA) rfl rfl rfl ?_
  refine rg_nil nofun ?_
  refine cI rfl (fun c41=>?_) (fun c41=>?_)
  ·skip
   have n41:=unT c41
   refine vc_seq ?_
   refine vc_region hm ?_
   refine gM trivial (.inl rfl) rfl rfl rfl ?_
   refine gM trivial (.inl rfl) rfl rfl rfl ?_
   refine gM trivial (.inl rfl) rfl rfl rfl ?_
   refine gCT0 [nA (nm 1 (0)),nF 2,nA (nm 3 (0)),nF 4] [1,2,3,4] (spec_LockSame_c (A:=A) (B:=M) (ka:=0) (ca:=0) (kb:=kk) (cb:=cc) (lk_T hA) (lk_B hA)) trivial rfl rfl rfl rfl rfl ⟨aTab (k:=0) rfl rfl rfl rfl (.inl rfl) (.inl rfl) rfl rfl,aIn rfl rfl (.inl rfl) (.inl rfl) rfl,aTab (k:=kk) rfl rfl rfl rfl (.inl rfl) (.inl rfl) rfl rfl,aIn rfl rfl (.inl rfl) (.inl rfl) rfl,trivial⟩ rfl rfl rfl rfl ?_
   refine gBE trivial rfl rfl rfl rfl rfl rfl ?_
   refine gM trivial (.inl rfl) rfl rfl rfl ?_
   refine gM ⟨_,_,rfl,rfl,(beq_self_eq_true _)⟩ (.inl rfl) rfl rfl rfl ?_
   refine gM ⟨_,_,rfl,rfl,(beq_self_eq_true _)⟩ (.inl rfl) rfl rfl rfl ?_
   refine gM ⟨_,_,rfl,rfl,(beq_self_eq_true _)⟩ (.inl rfl) rfl rfl rfl ?_
   refine gCT0 [nA (nm 3 (0)),nF 4,nA (nm 1 (0)),nF 2] [3,4,1,2] (impl_LockSame_c (A:=M) (B:=A) (ka:=kk) (ca:=cc) (kb:=0) (cb:=0) hT hB) ⟨_,_,rfl,rfl,(beq_self_eq_true _)⟩ rfl rfl rfl rfl rfl ⟨aTab (k:=kk) rfl rfl rfl rfl (.inl rfl) (.inl rfl) rfl rfl,aIn rfl rfl (.inl rfl) (.inl rfl) rfl,aTab (k:=0) rfl rfl rfl rfl (.inl rfl) (.inl rfl) rfl rfl,aIn rfl rfl (.inl rfl) (.inl rfl) rfl,trivial⟩ rfl rfl rfl rfl ?_
   refine gBE ⟨_,_,rfl,rfl,(beq_self_eq_true _)⟩ rfl rfl rfl rfl rfl rfl ?_
   refine gPT trivial rfl rfl (beq_self_eq_true _) rfl rfl rfl ?_
   refine gM trivial (.inr rfl) rfl rfl rfl ?_
   refine rg_nil nofun ?_
   refine vc_ret ?_
   exact ⟨idm,ends0 (.inr rfl) rfl (eqB (by rw [dec_comm (A:=A)];exact (beq_self_eq_true _).symm)) rfl rfl rfl⟩
  ·skip
   have n41:=unF c41
   refine vc_skip ?_
   refine vc_seq ?_
   refine vc_region hm ?_
   refine gM trivial (.inr rfl) rfl rfl rfl ?_
   refine rg_nil nofun ?_
   refine vc_seq ?_
   refine vc_seq ?_
   refine vc_region hm ?_
   refine gM trivial (.inr rfl) rfl rfl rfl ?_
   refine rg_nil nofun ?_
   refine vc_block ?_
   refine vc_loopT (fun n_ S_=>∃ (i:Int),0≤i∧i≤48∧n_=(48 - i).toNat∧S_=⟨5,[(3,.slice (some ⟨1,0,none⟩) A.length 0),(4,.slice (some ⟨3,kk,none⟩) M.length cc),(5,.bool (decide (A=M))),(6,.bool (smI A M i)),(7,.int .i64 i)],[(0,false,one ⟨hls k (rY l),capT + l.length,0⟩),(1,true,one ⟨hls 0 (rHv (tabV 2 zo A)),46,0⟩),(2,true,inF zo 28 77 A),(3,true,one ⟨hls kk (rHv (tabV 4 zo M)),46,0⟩),(4,true,inF zo 28 77 M)]⟩) ⟨0,(Int.le_refl _),(by decide),rfl,rfl⟩ (re_nil (ms:=[0,1,2,3,4]) (C:=999) rfl ⟨⟨⟨rfl,rfl⟩,rfl⟩,⟨⟨rfl,rfl⟩,rfl⟩,⟨⟨rfl,rfl⟩,rfl⟩,⟨⟨rfl,rfl⟩,rfl⟩,⟨⟨rfl,rfl⟩,rfl⟩,trivial⟩ ⟨ktCode rfl rfl,ktTab (k:=0) rfl rfl (.inl rfl) id rfl rfl,ktIn rfl id rfl,ktTab (k:=kk) rfl rfl (.inl rfl) id rfl rfl,ktIn rfl id rfl,trivial⟩ rfl rfl (rig_of rfl) rfl) ?_
   rintro n_ S_ ⟨i,i0,i1,rfl,rfl⟩
   refine vc_seq ?_
   refine vc_seq ?_
   refine vc_region hm ?_
   refine gM trivial (.inl rfl) rfl rfl rfl ?_
   refine gI trivial rfl rfl rfl rfl rfl rfl ?_
   refine rg_nil nofun ?_
   refine cI rfl (fun c55=>?_) (fun c55=>?_)
   ·skip
    have p55:=of_decide_eq_true c55
    refine vc_skip ?_
    refine vc_seq ?_
    refine vc_block ?_
    refine vc_seq ?_
    refine vc_region hm ?_
    refine gM trivial (.inr rfl) rfl rfl rfl ?_
    refine rg_nil nofun ?_
    refine vc_block ?_
    refine vc_loopT (fun n_ S_=>∃ (n:Nat),n≤3∧n_=3 - n∧S_=⟨5,[(3,.slice (some ⟨1,0,none⟩) A.length 0),(4,.slice (some ⟨3,kk,none⟩) M.length cc),(5,.bool (decide (A=M))),(6,.bool (smI A M i && smW A M i n)),(7,.int .i64 i),(8,.int .i64 n)],[(0,false,one ⟨hls k (rY l),capT + l.length,0⟩),(1,true,one ⟨hls 0 (rHv (tabV 2 zo A)),46,0⟩),(2,true,inF zo 28 77 A),(3,true,one ⟨hls kk (rHv (tabV 4 zo M)),46,0⟩),(4,true,inF zo 28 77 M)]⟩) ⟨0,(Nat.zero_le _),rfl,rfl⟩ (re_nil (ms:=[0,1,2,3,4]) (C:=999) rfl ⟨⟨⟨rfl,rfl⟩,rfl⟩,⟨⟨rfl,rfl⟩,rfl⟩,⟨⟨rfl,rfl⟩,rfl⟩,⟨⟨rfl,eqB sm_0⟩,rfl⟩,⟨⟨rfl,rfl⟩,rfl⟩,⟨⟨rfl,rfl⟩,rfl⟩,trivial⟩ ⟨ktCode rfl rfl,ktTab (k:=0) rfl rfl (.inl rfl) id rfl rfl,ktIn rfl id rfl,ktTab (k:=kk) rfl rfl (.inl rfl) id rfl rfl,ktIn rfl id rfl,trivial⟩ rfl rfl (rig_of rfl) rfl) ?_
    rintro n_ S_ ⟨n,hn,rfl,rfl⟩
    refine vc_seq ?_
    refine vc_seq ?_
    refine vc_region hm ?_
    refine gM trivial (.inl rfl) rfl rfl rfl ?_
    refine gI trivial rfl rfl rfl rfl rfl rfl ?_
    refine rg_nil nofun ?_
    refine cI rfl (fun c59=>?_) (fun c59=>?_)
    ·skip
     have p59:=of_decide_eq_true c59
     refine vc_skip ?_
     refine vc_seq ?_
     refine vc_block ?_
     refine vc_region hm ?_
     refine gM trivial (.inl rfl) rfl rfl rfl ?_
     refine gM trivial (.inl rfl) rfl rfl rfl ?_
     refine gI2 (d:=63) rfl (fun c63=>?_) (fun c63=>?_)
     ·skip
      refine gM ⟨_,_,rfl,rfl,c63⟩ (.inl rfl) rfl rfl rfl ?_
      refine gM ⟨_,_,rfl,rfl,c63⟩ (.inl rfl) rfl rfl rfl ?_
      refine gM ⟨_,_,rfl,rfl,c63⟩ (.inl rfl) rfl rfl rfl ?_
      refine gC0 [] (wpAt_c i (by omega) (by omega)) ⟨_,_,rfl,rfl,c63⟩ rfl rfl rfl rfl (by trivial) rfl rfl rfl rfl rfl ?_
      refine gCT0 [nA (nm 1 (0)),nF 2] [1,2] (impl_LockMay_c (T:=A) (who:=(n:Int)) (write:=false) (s:=(spAt i)) (kk:=0) (cc:=0) (lk_T hA) (lk_B hA)) ⟨_,_,rfl,rfl,c63⟩ rfl rfl rfl rfl rfl ⟨aTab (k:=0) rfl rfl rfl rfl (.inl rfl) (.inl rfl) rfl rfl,aIn rfl rfl (.inl rfl) (.inl rfl) rfl,trivial⟩ rfl rfl rfl rfl ?_
      refine gM ⟨_,_,rfl,rfl,c63⟩ (.inl rfl) rfl rfl rfl ?_
      refine gM ⟨_,_,rfl,rfl,c63⟩ (.inl rfl) rfl rfl rfl ?_
      refine gM ⟨_,_,rfl,rfl,c63⟩ (.inl rfl) rfl rfl rfl ?_
      refine gC0 [] (wpAt_c i (by omega) (by omega)) ⟨_,_,rfl,rfl,c63⟩ rfl rfl rfl rfl (by trivial) rfl rfl rfl rfl rfl ?_
      refine gCT0 [nA (nm 3 (0)),nF 4] [3,4] (impl_LockMay_c (T:=M) (who:=(n:Int)) (write:=false) (s:=(spAt i)) (kk:=kk) (cc:=cc) hT hB) ⟨_,_,rfl,rfl,c63⟩ rfl rfl rfl rfl rfl ⟨aTab (k:=kk) rfl rfl rfl rfl (.inl rfl) (.inl rfl) rfl rfl,aIn rfl rfl (.inl rfl) (.inl rfl) rfl,trivial⟩ rfl rfl rfl rfl ?_
      refine gBE ⟨_,_,rfl,rfl,c63⟩ rfl rfl rfl rfl rfl rfl ?_
      refine gPT trivial rfl rfl c63 rfl rfl rfl ?_
      refine gM trivial (.inl rfl) rfl rfl rfl ?_
      refine gI2 (d:=76) rfl (fun c76=>?_) (fun c76=>?_)
      ·skip
       refine gM ⟨_,_,rfl,rfl,c76⟩ (.inl rfl) rfl rfl rfl ?_
       refine gM ⟨_,_,rfl,rfl,c76⟩ (.inl rfl) rfl rfl rfl ?_
       refine gM ⟨_,_,rfl,rfl,c76⟩ (.inl rfl) rfl rfl rfl ?_
       refine gC0 [] (wpAt_c i (by omega) (by omega)) ⟨_,_,rfl,rfl,c76⟩ rfl rfl rfl rfl (by trivial) rfl rfl rfl rfl rfl ?_
       refine gCT0 [nA (nm 1 (0)),nF 2] [1,2] (impl_LockMay_c (T:=A) (who:=(n:Int)) (write:=true) (s:=(spAt i)) (kk:=0) (cc:=0) (lk_T hA) (lk_B hA)) ⟨_,_,rfl,rfl,c76⟩ rfl rfl rfl rfl rfl ⟨aTab (k:=0) rfl rfl rfl rfl (.inl rfl) (.inl rfl) rfl rfl,aIn rfl rfl (.inl rfl) (.inl rfl) rfl,trivial⟩ rfl rfl rfl rfl ?_
       refine gM ⟨_,_,rfl,rfl,c76⟩ (.inl rfl) rfl rfl rfl ?_
       refine gM ⟨_,_,rfl,rfl,c76⟩ (.inl rfl) rfl rfl rfl ?_
       refine gM ⟨_,_,rfl,rfl,c76⟩ (.inl rfl) rfl rfl rfl ?_
       refine gC0 [] (wpAt_c i (by omega) (by omega)) ⟨_,_,rfl,rfl,c76⟩ rfl rfl rfl rfl (by trivial) rfl rfl rfl rfl rfl ?_
       refine gCT0 [nA (nm 3 (0)),nF 4] [3,4] (impl_LockMay_c (T:=M) (who:=(n:Int)) (write:=true) (s:=(spAt i)) (kk:=kk) (cc:=cc) hT hB) ⟨_,_,rfl,rfl,c76⟩ rfl rfl rfl rfl rfl ⟨aTab (k:=kk) rfl rfl rfl rfl (.inl rfl) (.inl rfl) rfl rfl,aIn rfl rfl (.inl rfl) (.inl rfl) rfl,trivial⟩ rfl rfl rfl rfl ?_
       refine gBE ⟨_,_,rfl,rfl,c76⟩ rfl rfl rfl rfl rfl rfl ?_
       refine gPT trivial rfl rfl c76 rfl rfl rfl ?_
       refine gM trivial (.inr rfl) rfl rfl rfl ?_
       refine rg_nil nofun ?_
       refine vc_region hm ?_
       refine gM trivial (.inl rfl) rfl rfl rfl ?_
       refine gA trivial rfl rfl rfl rfl rfl rfl (by omega) ?_
       refine gM trivial (.inr rfl) rfl rfl rfl ?_
       refine rg_nil nofun ?_
       exact lp_nextT ⟨n + 1,(by omega),rfl,rfl⟩ (by omega) (re_nil (ms:=[0,1,2,3,4]) (C:=999) rfl ⟨⟨⟨rfl,rfl⟩,rfl⟩,⟨⟨rfl,rfl⟩,rfl⟩,⟨⟨rfl,rfl⟩,rfl⟩,⟨⟨rfl,eqB (sm_TT c63 c76)⟩,rfl⟩,⟨⟨rfl,rfl⟩,rfl⟩,⟨⟨rfl,rfl⟩,rfl⟩,trivial⟩ ⟨ktCode rfl rfl,ktTab (k:=0) rfl rfl (.inl rfl) id rfl rfl,ktIn rfl id rfl,ktTab (k:=kk) rfl rfl (.inl rfl) id rfl rfl,ktIn rfl id rfl,trivial⟩ rfl rfl (rig_of rfl) rfl)
      ·skip
       refine gO ⟨_,_,rfl,rfl,c76⟩ rfl rfl ?_
       refine gO ⟨_,_,rfl,rfl,c76⟩ rfl rfl ?_
       refine gO ⟨_,_,rfl,rfl,c76⟩ rfl rfl ?_
       refine gO ⟨_,_,rfl,rfl,c76⟩ rfl rfl ?_
       refine gO ⟨_,_,rfl,rfl,c76⟩ rfl rfl ?_
       refine gO ⟨_,_,rfl,rfl,c76⟩ rfl rfl ?_
       refine gO ⟨_,_,rfl,rfl,c76⟩ rfl rfl ?_
       refine gO ⟨_,_,rfl,rfl,c76⟩ rfl rfl ?_
       refine gO ⟨_,_,rfl,rfl,c76⟩ rfl rfl ?_
       refine gO ⟨_,_,rfl,rfl,c76⟩ rfl rfl ?_
       refine gO ⟨_,_,rfl,rfl,c76⟩ rfl rfl ?_
       refine gPF trivial rfl rfl c76 rfl rfl rfl ?_
       refine gM trivial (.inr rfl) rfl rfl rfl ?_
       refine rg_nil nofun ?_
       refine vc_region hm ?_
       refine gM trivial (.inl rfl) rfl rfl rfl ?_
       refine gA trivial rfl rfl rfl rfl rfl rfl (by omega) ?_
       refine gM trivial (.inr rfl) rfl rfl rfl ?_
       refine rg_nil nofun ?_
       exact lp_nextT ⟨n + 1,(by omega),rfl,rfl⟩ (by omega) (re_nil (ms:=[0,1,2,3,4]) (C:=999) rfl ⟨⟨⟨rfl,rfl⟩,rfl⟩,⟨⟨rfl,rfl⟩,rfl⟩,⟨⟨rfl,rfl⟩,rfl⟩,⟨⟨rfl,eqB (sm_TF c76)⟩,rfl⟩,⟨⟨rfl,rfl⟩,rfl⟩,⟨⟨rfl,rfl⟩,rfl⟩,trivial⟩ ⟨ktCode rfl rfl,ktTab (k:=0) rfl rfl (.inl rfl) id rfl rfl,ktIn rfl id rfl,ktTab (k:=kk) rfl rfl (.inl rfl) id rfl rfl,ktIn rfl id rfl,trivial⟩ rfl rfl (rig_of rfl) rfl)
     ·skip
      refine gO ⟨_,_,rfl,rfl,c63⟩ rfl rfl ?_
      refine gO ⟨_,_,rfl,rfl,c63⟩ rfl rfl ?_
      refine gO ⟨_,_,rfl,rfl,c63⟩ rfl rfl ?_
      refine gO ⟨_,_,rfl,rfl,c63⟩ rfl rfl ?_
      refine gO ⟨_,_,rfl,rfl,c63⟩ rfl rfl ?_
      refine gO ⟨_,_,rfl,rfl,c63⟩ rfl rfl ?_
      refine gO ⟨_,_,rfl,rfl,c63⟩ rfl rfl ?_
      refine gO ⟨_,_,rfl,rfl,c63⟩ rfl rfl ?_
      refine gO ⟨_,_,rfl,rfl,c63⟩ rfl rfl ?_
      refine gO ⟨_,_,rfl,rfl,c63⟩ rfl rfl ?_
      refine gO ⟨_,_,rfl,rfl,c63⟩ rfl rfl ?_
      refine gPF trivial rfl rfl c63 rfl rfl rfl ?_
      refine gM trivial (.inl rfl) rfl rfl rfl ?_
      refine gO ⟨_,_,rfl,rfl,rfl⟩ rfl rfl ?_
      refine gO ⟨_,_,rfl,rfl,rfl⟩ rfl rfl ?_
      refine gO ⟨_,_,rfl,rfl,rfl⟩ rfl rfl ?_
      refine gO ⟨_,_,rfl,rfl,rfl⟩ rfl rfl ?_
      refine gO ⟨_,_,rfl,rfl,rfl⟩ rfl rfl ?_
      refine gO ⟨_,_,rfl,rfl,rfl⟩ rfl rfl ?_
      refine gO ⟨_,_,rfl,rfl,rfl⟩ rfl rfl ?_
      refine gO ⟨_,_,rfl,rfl,rfl⟩ rfl rfl ?_
      refine gO ⟨_,_,rfl,rfl,rfl⟩ rfl rfl ?_
      refine gO ⟨_,_,rfl,rfl,rfl⟩ rfl rfl ?_
      refine gO ⟨_,_,rfl,rfl,rfl⟩ rfl rfl ?_
      refine gPF trivial rfl rfl rfl rfl rfl rfl ?_
      refine gM trivial (.inr rfl) rfl rfl rfl ?_
      refine rg_nil nofun ?_
      refine vc_region hm ?_
      refine gM trivial (.inl rfl) rfl rfl rfl ?_
      refine gA trivial rfl rfl rfl rfl rfl rfl (by omega) ?_
      refine gM trivial (.inr rfl) rfl rfl rfl ?_
      refine rg_nil nofun ?_
      exact lp_nextT ⟨n + 1,(by omega),rfl,rfl⟩ (by omega) (re_nil (ms:=[0,1,2,3,4]) (C:=999) rfl ⟨⟨⟨rfl,rfl⟩,rfl⟩,⟨⟨rfl,rfl⟩,rfl⟩,⟨⟨rfl,rfl⟩,rfl⟩,⟨⟨rfl,eqB (sm_F c63)⟩,rfl⟩,⟨⟨rfl,rfl⟩,rfl⟩,⟨⟨rfl,rfl⟩,rfl⟩,trivial⟩ ⟨ktCode rfl rfl,ktTab (k:=0) rfl rfl (.inl rfl) id rfl rfl,ktIn rfl id rfl,ktTab (k:=kk) rfl rfl (.inl rfl) id rfl rfl,ktIn rfl id rfl,trivial⟩ rfl rfl (rig_of rfl) rfl)
    ·skip
     have p59:=of_decide_eq_false c59
     refine vc_exit ?_
     obtain rfl:n=3:=by omega
     refine vc_region hm ?_
     refine gM trivial (.inl rfl) rfl rfl rfl ?_
     refine gA trivial rfl rfl rfl rfl rfl rfl (by omega) ?_
     refine gM trivial (.inr rfl) rfl rfl rfl ?_
     refine rg_nil nofun ?_
     exact lp_nextT ⟨i + 1,(by omega),(by omega),rfl,rfl⟩ (by omega) (re_nil (ms:=[0,1,2,3,4]) (C:=999) rfl ⟨⟨⟨rfl,rfl⟩,rfl⟩,⟨⟨rfl,rfl⟩,rfl⟩,⟨⟨rfl,rfl⟩,rfl⟩,⟨⟨rfl,eqB (sm_next i0)⟩,rfl⟩,⟨⟨rfl,rfl⟩,rfl⟩,trivial⟩ ⟨ktCode rfl rfl,ktTab (k:=0) rfl rfl (.inl rfl) id rfl rfl,ktIn rfl id rfl,ktTab (k:=kk) rfl rfl (.inl rfl) id rfl rfl,ktIn rfl id rfl,trivial⟩ rfl rfl (rig_of rfl) rfl)
   ·skip
    have p55:=of_decide_eq_false c55
    refine vc_exit ?_
    refine vc_seq ?_
    obtain rfl:i=48:=by omega
    refine vc_region hm ?_
    refine gM trivial (.inl rfl) rfl rfl rfl ?_
    refine gM trivial (.inl rfl) rfl rfl rfl ?_
    refine gBE trivial rfl rfl rfl rfl rfl rfl ?_
    refine gM trivial (.inr rfl) rfl rfl rfl ?_
    refine rg_nil nofun ?_
    refine vc_ret ?_
    exact ⟨idm,ends0 (.inr rfl) rfl (eqB (sm_end hA n41).symm) rfl rfl rfl⟩
theorem FnLockSame_walk {w:World} {v0:Value} {l0:List Int} {N0:Nam} {k0:Nat} (h0:CodeArg w v0 l0 N0 k0):Calls Try.prog 5 #[v0] w fun e w'=>e = .returned (.bool true)∧Below w.heap.size w w' :=
 law_done (FnLockSame_c h0.2.2.1 h0.2.2.2) (ρ:=envL [N0]) (by simp only [List.map_cons,List.map_nil,code_r3 (ns:=[N0]) (b:=0) h0 rfl (of_blt rfl)]) ⟨code_at h0 rfl (of_blt rfl),trivial⟩
end Go.Proofs.Ytbgehlihpkefmaa.A

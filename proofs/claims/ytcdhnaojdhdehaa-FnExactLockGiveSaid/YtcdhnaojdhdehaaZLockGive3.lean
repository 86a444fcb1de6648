/- Part 3 of the proof of FnExactLockGive: words, contracts of callees, plain lemmas. -/
import Derived.Test.YtcdhnaojdhdehaaZLockGive2
set_option maxHeartbeats 8000000
set_option maxRecDepth 100000
set_option linter.unusedVariables false
set_option linter.unusedSimpArgs false
namespace Go.Proofs.Ytcdhnaojdhdehaa.A
open Go Go.RowKit
set_option maxHeartbeats 4000000
theorem spec_LockOk_c {T:List Ho} (hT:T.length≤1048576) (hB:∀ h ∈ T,h.r.length≤1048576∧h.w.length≤1048576):FDoes Try.prog 16 [.slice (some ⟨0,0,none⟩) T.length 0] (hp [(0,false,one ⟨rHv (tabV 1 zo T),54,0⟩),(1,false,inF zo 33 0 T)]) { v:=.bool (lockOk T),rd:=[0,1] }:=by
 have hm:Try.prog.follows .mixedOrders=true:=by kernel_rfl
 have hd_:∀ x_ ∈ ([(0,false,one ⟨rHv (tabV 1 zo T),54,0⟩),(1,false,inF zo 33 0 T)]:List (Nat × Bool × Fam)),∀ k_ y_,x_.2.2 k_=some y_→DetB (lt 2) y_:=by
  intro x_ hx k_ y_ e
  simp only [List.mem_cons,List.not_mem_nil,or_false] at hx
  rcases hx with rfl|rfl
  ·exact det_tab (k0:=0) rfl e
  ·exact det_in e
 refine fn_exact (u0:=2) Try.func16 rfl rfl (gets rfl rfl rfl hd_ rfl) ?_
 clear hd_
 refine vc_seq ?_
 refine vc_region hm ?_
 refine gM trivial (.inr rfl) rfl rfl rfl ?_
 refine rg_nil nofun ?_
 refine vc_seq ?_
 refine vc_seq ?_
 refine vc_region hm ?_
 refine gM trivial (.inl rfl) rfl rfl rfl ?_
 refine gK trivial rfl rfl rfl rfl rfl rfl tabV_nil ?_
 refine gI trivial rfl rfl rfl rfl rfl rfl ?_
 refine rg_nil nofun ?_
 refine cI rfl (fun c7=>?_) (fun c7=>?_)
 ·skip
  have p7:=bne_iff_ne.1 c7
  refine vc_seq ?_
  refine vc_region hm ?_
  refine gM trivial (.inr rfl) rfl rfl rfl ?_
  refine rg_nil nofun ?_
  refine vc_ret ?_
  exact ⟨idm,ends0 (.inr rfl) rfl (eqB (ok_len3 p7)) rfl rfl rfl⟩
 ·skip
  have p7:=bne_eq_false_iff_eq.1 c7
  refine vc_skip ?_
  refine vc_seq ?_
  refine vc_seq ?_
  refine vc_region hm ?_
  refine gM trivial (.inr rfl) rfl rfl rfl ?_
  refine rg_nil nofun ?_
  refine vc_block ?_
  refine vc_loopT (fun n_ S_=>∃ (i:Nat),i≤T.length∧(List.range i).all (stepS T)=true∧n_=T.length - i∧S_=⟨2,[(0,.slice (some ⟨0,0,none⟩) T.length 0),(3,.int .i64 i)],[(0,false,one ⟨rHv (tabV 1 zo T),54,0⟩),(1,false,inF zo 33 0 T)]⟩) ⟨0,Nat.zero_le _,rfl,rfl,rfl⟩ (re_nil (ms:=[0,1]) (C:=999) rfl ⟨⟨⟨rfl,rfl⟩,rfl⟩,⟨⟨rfl,rfl⟩,rfl⟩,trivial⟩ ⟨ktTab (k:=0) rfl rfl (.inr (.inl rfl)) id rfl rfl,ktIn rfl id rfl,trivial⟩ rfl rfl (rig_of rfl) rfl) ?_
  rintro n_ S_ ⟨i,hi,ha,rfl,rfl⟩
  refine vc_seq ?_
  refine vc_seq ?_
  refine vc_region hm ?_
  refine gM trivial (.inl rfl) rfl rfl rfl ?_
  refine gM trivial (.inl rfl) rfl rfl rfl ?_
  refine gK trivial rfl rfl rfl rfl rfl rfl tabV_nil ?_
  refine gI trivial rfl rfl rfl rfl rfl rfl ?_
  refine rg_nil nofun ?_
  refine cI rfl (fun c11=>?_) (fun c11=>?_)
  ·skip
   have p11:=of_decide_eq_true c11
   refine vc_skip ?_
   refine vc_seq ?_
   refine vc_block ?_
   refine vc_seq ?_
   refine vc_seq ?_
   refine vc_region hm ?_
   refine gM trivial (.inl rfl) rfl rfl rfl ?_
   refine gM trivial (.inl rfl) rfl rfl rfl ?_
   refine gX trivial rfl rfl rfl rfl rfl rfl rfl rfl (by omega) (by omega) tabV_ne ?_
   refine gF trivial rfl rfl rfl rfl rfl ?_
   refine gL trivial rfl rfl rfl rfl rfl rfl rfl (lH0 (by omega) p11) ?_
   refine gCT0 [nA (nm 1 (2 * ((i:Int)).toNat))] [1] (spec_SpansOk_c (l:=(at_ T (i:Int)).r) (hB _ (at_mem (by omega) p11)).1) trivial rfl rfl rfl rfl rfl ⟨aRow rfl (rSp_flat _) rfl (inF_0 (by omega) p11) (.inl rfl) (.inl rfl) rfl,trivial⟩ rfl rfl rfl rfl ?_
   refine gN trivial rfl rfl rfl rfl ?_
   refine gM trivial (.inl rfl) rfl rfl rfl ?_
   refine gI2 (d:=21) rfl (fun c21=>?_) (fun c21=>?_)
   ·skip
    have n21:=unT c21
    refine gO ⟨_,_,rfl,rfl,c21⟩ rfl rfl ?_
    refine gO ⟨_,_,rfl,rfl,c21⟩ rfl rfl ?_
    refine gO ⟨_,_,rfl,rfl,c21⟩ rfl rfl ?_
    refine gO ⟨_,_,rfl,rfl,c21⟩ rfl rfl ?_
    refine gO ⟨_,_,rfl,rfl,c21⟩ rfl rfl ?_
    refine gO ⟨_,_,rfl,rfl,c21⟩ rfl rfl ?_
    refine gO ⟨_,_,rfl,rfl,c21⟩ rfl rfl ?_
    refine gPT trivial rfl rfl c21 rfl rfl rfl ?_
    refine gM trivial (.inl rfl) rfl rfl rfl ?_
    refine gO ⟨_,_,rfl,rfl,rfl⟩ rfl rfl ?_
    refine gO ⟨_,_,rfl,rfl,rfl⟩ rfl rfl ?_
    refine gO ⟨_,_,rfl,rfl,rfl⟩ rfl rfl ?_
    refine gO ⟨_,_,rfl,rfl,rfl⟩ rfl rfl ?_
    refine gO ⟨_,_,rfl,rfl,rfl⟩ rfl rfl ?_
    refine gO ⟨_,_,rfl,rfl,rfl⟩ rfl rfl ?_
    refine gO ⟨_,_,rfl,rfl,rfl⟩ rfl rfl ?_
    refine gO ⟨_,_,rfl,rfl,rfl⟩ rfl rfl ?_
    refine gO ⟨_,_,rfl,rfl,rfl⟩ rfl rfl ?_
    refine gO ⟨_,_,rfl,rfl,rfl⟩ rfl rfl ?_
    refine gO ⟨_,_,rfl,rfl,rfl⟩ rfl rfl ?_
    refine gO ⟨_,_,rfl,rfl,rfl⟩ rfl rfl ?_
    refine gPT trivial rfl rfl rfl rfl rfl rfl ?_
    refine rg_nil (fun _=>by kernel_rfl) ?_
    refine cT rfl rfl ?_
    refine vc_seq ?_
    refine vc_region hm ?_
    refine gM trivial (.inr rfl) rfl rfl rfl ?_
    refine rg_nil nofun ?_
    refine vc_ret ?_
    exact ⟨idm,ends0 (.inr rfl) rfl (eqB (okS_at p11 (by first|exact stepS_1 (by assumption)|exact stepS_2 (by assumption)|exact stepS_3 (by assumption)))) rfl rfl rfl⟩
   ·skip
    have n21:=unF c21
    refine gM ⟨_,_,rfl,rfl,c21⟩ (.inl rfl) rfl rfl rfl ?_
    refine gM ⟨_,_,rfl,rfl,c21⟩ (.inl rfl) rfl rfl rfl ?_
    refine gX ⟨_,_,rfl,rfl,c21⟩ rfl rfl rfl rfl rfl rfl rfl rfl (by omega) (by omega) tabV_ne ?_
    refine gF ⟨_,_,rfl,rfl,c21⟩ rfl rfl rfl rfl rfl ?_
    refine gL ⟨_,_,rfl,rfl,c21⟩ rfl rfl rfl rfl rfl rfl rfl (lH1 (by omega) p11) ?_
    refine gCT0 [nA (nm 1 (2 * ((i:Int)).toNat + 1))] [1] (spec_SpansOk_c (l:=(at_ T (i:Int)).w) (hB _ (at_mem (by omega) p11)).2) ⟨_,_,rfl,rfl,c21⟩ rfl rfl rfl rfl rfl ⟨aRow rfl (rSp_flat _) rfl (inF_1 (by omega) p11) (.inl rfl) (.inl rfl) rfl,trivial⟩ rfl rfl rfl rfl ?_
    refine gN ⟨_,_,rfl,rfl,c21⟩ rfl rfl rfl rfl ?_
    refine gPF trivial rfl rfl c21 rfl rfl rfl ?_
    refine gM trivial (.inl rfl) rfl rfl rfl ?_
    refine gI2 (d:=30) rfl (fun c30=>?_) (fun c30=>?_)
    ·skip
     have n30:=unT c30
     refine gO ⟨_,_,rfl,rfl,c30⟩ rfl rfl ?_
     refine gO ⟨_,_,rfl,rfl,c30⟩ rfl rfl ?_
     refine gO ⟨_,_,rfl,rfl,c30⟩ rfl rfl ?_
     refine gO ⟨_,_,rfl,rfl,c30⟩ rfl rfl ?_
     refine gO ⟨_,_,rfl,rfl,c30⟩ rfl rfl ?_
     refine gO ⟨_,_,rfl,rfl,c30⟩ rfl rfl ?_
     refine gO ⟨_,_,rfl,rfl,c30⟩ rfl rfl ?_
     refine gO ⟨_,_,rfl,rfl,c30⟩ rfl rfl ?_
     refine gO ⟨_,_,rfl,rfl,c30⟩ rfl rfl ?_
     refine gO ⟨_,_,rfl,rfl,c30⟩ rfl rfl ?_
     refine gO ⟨_,_,rfl,rfl,c30⟩ rfl rfl ?_
     refine gO ⟨_,_,rfl,rfl,c30⟩ rfl rfl ?_
     refine gPT trivial rfl rfl c30 rfl rfl rfl ?_
     refine rg_nil (fun _=>by kernel_rfl) ?_
     refine cT rfl rfl ?_
     refine vc_seq ?_
     refine vc_region hm ?_
     refine gM trivial (.inr rfl) rfl rfl rfl ?_
     refine rg_nil nofun ?_
     refine vc_ret ?_
     exact ⟨idm,ends0 (.inr rfl) rfl (eqB (okS_at p11 (by first|exact stepS_1 (by assumption)|exact stepS_2 (by assumption)|exact stepS_3 (by assumption)))) rfl rfl rfl⟩
    ·skip
     have n30:=unF c30
     refine gM ⟨_,_,rfl,rfl,c30⟩ (.inl rfl) rfl rfl rfl ?_
     refine gM ⟨_,_,rfl,rfl,c30⟩ (.inl rfl) rfl rfl rfl ?_
     refine gX ⟨_,_,rfl,rfl,c30⟩ rfl rfl rfl rfl rfl rfl rfl rfl (by omega) (by omega) tabV_ne ?_
     refine gF ⟨_,_,rfl,rfl,c30⟩ rfl rfl rfl rfl rfl ?_
     refine gL ⟨_,_,rfl,rfl,c30⟩ rfl rfl rfl rfl rfl rfl rfl (lH0 (by omega) p11) ?_
     refine gM ⟨_,_,rfl,rfl,c30⟩ (.inl rfl) rfl rfl rfl ?_
     refine gM ⟨_,_,rfl,rfl,c30⟩ (.inl rfl) rfl rfl rfl ?_
     refine gX ⟨_,_,rfl,rfl,c30⟩ rfl rfl rfl rfl rfl rfl rfl rfl (by omega) (by omega) tabV_ne ?_
     refine gF ⟨_,_,rfl,rfl,c30⟩ rfl rfl rfl rfl rfl ?_
     refine gL ⟨_,_,rfl,rfl,c30⟩ rfl rfl rfl rfl rfl rfl rfl (lH1 (by omega) p11) ?_
     refine gCT0 [nA (nm 1 (2 * ((i:Int)).toNat)),nA (nm 1 (2 * ((i:Int)).toNat + 1))] [1] (spec_l4Clear_c (a:=(at_ T (i:Int)).r) (b:=(at_ T (i:Int)).w) (hB _ (at_mem (by omega) p11)).1 (hB _ (at_mem (by omega) p11)).2) ⟨_,_,rfl,rfl,c30⟩ rfl rfl rfl rfl rfl ⟨aRow rfl (rSp_flat _) rfl (inF_0 (by omega) p11) (.inl rfl) (.inl rfl) rfl,aRow rfl (rSp_flat _) rfl (inF_1 (by omega) p11) (.inl rfl) (.inl rfl) rfl,trivial⟩ rfl rfl rfl rfl ?_
     refine gN ⟨_,_,rfl,rfl,c30⟩ rfl rfl rfl rfl ?_
     refine gPF trivial rfl rfl c30 rfl rfl rfl ?_
     refine rg_nil (fun _=>by kernel_rfl) ?_
     refine cI rfl (fun c43=>?_) (fun c43=>?_)
     ·skip
      have n43:=unT c43
      refine vc_seq ?_
      refine vc_region hm ?_
      refine gM trivial (.inr rfl) rfl rfl rfl ?_
      refine rg_nil nofun ?_
      refine vc_ret ?_
      exact ⟨idm,ends0 (.inr rfl) rfl (eqB (okS_at p11 (by first|exact stepS_1 (by assumption)|exact stepS_2 (by assumption)|exact stepS_3 (by assumption)))) rfl rfl rfl⟩
     ·skip
      have n43:=unF c43
      refine vc_skip ?_
      refine vc_seq ?_
      refine vc_region hm ?_
      refine gM trivial (.inr rfl) rfl rfl rfl ?_
      refine rg_nil nofun ?_
      refine vc_block ?_
      refine vc_loopT (fun n_ S_=>∃ (k:Nat),k≤T.length∧(List.range k).all (pairOk T i)=true∧n_=T.length - k∧S_=⟨2,[(0,.slice (some ⟨0,0,none⟩) T.length 0),(3,.int .i64 i),(4,.int .i64 k)],[(0,false,one ⟨rHv (tabV 1 zo T),54,0⟩),(1,false,inF zo 33 0 T)]⟩) ⟨0,Nat.zero_le _,rfl,rfl,rfl⟩ (re_nil (ms:=[0,1]) (C:=999) rfl ⟨⟨⟨rfl,rfl⟩,rfl⟩,⟨⟨rfl,rfl⟩,rfl⟩,⟨⟨rfl,rfl⟩,rfl⟩,trivial⟩ ⟨ktTab (k:=0) rfl rfl (.inr (.inl rfl)) id rfl rfl,ktIn rfl id rfl,trivial⟩ rfl rfl (rig_of rfl) rfl) ?_
      rintro n_ S_ ⟨k,hk,hp,rfl,rfl⟩
      refine vc_seq ?_
      refine vc_seq ?_
      refine vc_region hm ?_
      refine gM trivial (.inl rfl) rfl rfl rfl ?_
      refine gM trivial (.inl rfl) rfl rfl rfl ?_
      refine gK trivial rfl rfl rfl rfl rfl rfl tabV_nil ?_
      refine gI trivial rfl rfl rfl rfl rfl rfl ?_
      refine rg_nil nofun ?_
      refine cI rfl (fun c47=>?_) (fun c47=>?_)
      ·skip
       have p47:=of_decide_eq_true c47
       refine vc_skip ?_
       refine vc_seq ?_
       refine vc_block ?_
       refine vc_seq ?_
       refine vc_region hm ?_
       refine gM trivial (.inl rfl) rfl rfl rfl ?_
       refine gM trivial (.inl rfl) rfl rfl rfl ?_
       refine gI trivial rfl rfl rfl rfl rfl rfl ?_
       refine gM trivial (.inl rfl) rfl rfl rfl ?_
       refine gI2 (d:=53) rfl (fun c53=>?_) (fun c53=>?_)
       ·skip
        have p53:=bne_iff_ne.1 c53
        refine gM ⟨_,_,rfl,rfl,c53⟩ (.inl rfl) rfl rfl rfl ?_
        refine gM ⟨_,_,rfl,rfl,c53⟩ (.inl rfl) rfl rfl rfl ?_
        refine gX ⟨_,_,rfl,rfl,c53⟩ rfl rfl rfl rfl rfl rfl rfl rfl (by omega) (by omega) tabV_ne ?_
        refine gF ⟨_,_,rfl,rfl,c53⟩ rfl rfl rfl rfl rfl ?_
        refine gL ⟨_,_,rfl,rfl,c53⟩ rfl rfl rfl rfl rfl rfl rfl (lH1 (by omega) p11) ?_
        refine gM ⟨_,_,rfl,rfl,c53⟩ (.inl rfl) rfl rfl rfl ?_
        refine gM ⟨_,_,rfl,rfl,c53⟩ (.inl rfl) rfl rfl rfl ?_
        refine gX ⟨_,_,rfl,rfl,c53⟩ rfl rfl rfl rfl rfl rfl rfl rfl (by omega) (by omega) tabV_ne ?_
        refine gF ⟨_,_,rfl,rfl,c53⟩ rfl rfl rfl rfl rfl ?_
        refine gL ⟨_,_,rfl,rfl,c53⟩ rfl rfl rfl rfl rfl rfl rfl (lH1 (by omega) p47) ?_
        refine gCT0 [nA (nm 1 (2 * ((i:Int)).toNat + 1)),nA (nm 1 (2 * ((k:Int)).toNat + 1))] [1] (spec_l4Clear_c (a:=(at_ T (i:Int)).w) (b:=(at_ T (k:Int)).w) (hB _ (at_mem (by omega) p11)).2 (hB _ (at_mem (by omega) p47)).2) ⟨_,_,rfl,rfl,c53⟩ rfl rfl rfl rfl rfl ⟨aRow rfl (rSp_flat _) rfl (inF_1 (by omega) p11) (.inl rfl) (.inl rfl) rfl,aRow rfl (rSp_flat _) rfl (inF_1 (by omega) p47) (.inl rfl) (.inl rfl) rfl,trivial⟩ rfl rfl rfl rfl ?_
        refine gN ⟨_,_,rfl,rfl,c53⟩ rfl rfl rfl rfl ?_
        refine gM ⟨_,_,rfl,rfl,c53⟩ (.inl rfl) rfl rfl rfl ?_
        refine gI2 (d:=66) rfl (fun c66=>?_) (fun c66=>?_)
        ·skip
         have n66:=unT c66
         refine gO ⟨_,_,rfl,rfl,c66⟩ rfl rfl ?_
         refine gO ⟨_,_,rfl,rfl,c66⟩ rfl rfl ?_
         refine gO ⟨_,_,rfl,rfl,c66⟩ rfl rfl ?_
         refine gO ⟨_,_,rfl,rfl,c66⟩ rfl rfl ?_
         refine gO ⟨_,_,rfl,rfl,c66⟩ rfl rfl ?_
         refine gO ⟨_,_,rfl,rfl,c66⟩ rfl rfl ?_
         refine gO ⟨_,_,rfl,rfl,c66⟩ rfl rfl ?_
         refine gO ⟨_,_,rfl,rfl,c66⟩ rfl rfl ?_
         refine gO ⟨_,_,rfl,rfl,c66⟩ rfl rfl ?_
         refine gO ⟨_,_,rfl,rfl,c66⟩ rfl rfl ?_
         refine gO ⟨_,_,rfl,rfl,c66⟩ rfl rfl ?_
         refine gO ⟨_,_,rfl,rfl,c66⟩ rfl rfl ?_
         refine gPT ⟨_,_,rfl,rfl,c53⟩ rfl rfl c66 rfl rfl rfl ?_
         refine gPT trivial rfl rfl c53 rfl rfl rfl ?_
         refine rg_nil (fun _=>by kernel_rfl) ?_
         refine cT rfl rfl ?_
         refine vc_seq ?_
         refine vc_region hm ?_
         refine gM trivial (.inr rfl) rfl rfl rfl ?_
         refine rg_nil nofun ?_
         refine vc_ret ?_
         exact ⟨idm,ends0 (.inr rfl) rfl (eqB (okS_at p11 (by first|exact stepS_4 p47 p53 (by assumption)|exact stepS_5 p47 p53 (by assumption)))) rfl rfl rfl⟩
        ·skip
         have n66:=unF c66
         refine gM ⟨_,_,rfl,rfl,c66⟩ (.inl rfl) rfl rfl rfl ?_
         refine gM ⟨_,_,rfl,rfl,c66⟩ (.inl rfl) rfl rfl rfl ?_
         refine gX ⟨_,_,rfl,rfl,c66⟩ rfl rfl rfl rfl rfl rfl rfl rfl (by omega) (by omega) tabV_ne ?_
         refine gF ⟨_,_,rfl,rfl,c66⟩ rfl rfl rfl rfl rfl ?_
         refine gL ⟨_,_,rfl,rfl,c66⟩ rfl rfl rfl rfl rfl rfl rfl (lH1 (by omega) p11) ?_
         refine gM ⟨_,_,rfl,rfl,c66⟩ (.inl rfl) rfl rfl rfl ?_
         refine gM ⟨_,_,rfl,rfl,c66⟩ (.inl rfl) rfl rfl rfl ?_
         refine gX ⟨_,_,rfl,rfl,c66⟩ rfl rfl rfl rfl rfl rfl rfl rfl (by omega) (by omega) tabV_ne ?_
         refine gF ⟨_,_,rfl,rfl,c66⟩ rfl rfl rfl rfl rfl ?_
         refine gL ⟨_,_,rfl,rfl,c66⟩ rfl rfl rfl rfl rfl rfl rfl (lH0 (by omega) p47) ?_
         refine gCT0 [nA (nm 1 (2 * ((i:Int)).toNat + 1)),nA (nm 1 (2 * ((k:Int)).toNat))] [1] (spec_l4Clear_c (a:=(at_ T (i:Int)).w) (b:=(at_ T (k:Int)).r) (hB _ (at_mem (by omega) p11)).2 (hB _ (at_mem (by omega) p47)).1) ⟨_,_,rfl,rfl,c66⟩ rfl rfl rfl rfl rfl ⟨aRow rfl (rSp_flat _) rfl (inF_1 (by omega) p11) (.inl rfl) (.inl rfl) rfl,aRow rfl (rSp_flat _) rfl (inF_0 (by omega) p47) (.inl rfl) (.inl rfl) rfl,trivial⟩ rfl rfl rfl rfl ?_
         refine gN ⟨_,_,rfl,rfl,c66⟩ rfl rfl rfl rfl ?_
         refine gPF ⟨_,_,rfl,rfl,c53⟩ rfl rfl c66 rfl rfl rfl ?_
         refine gPT trivial rfl rfl c53 rfl rfl rfl ?_
         refine rg_nil (fun _=>by kernel_rfl) ?_
         refine cI rfl (fun c80=>?_) (fun c80=>?_)
         ·skip
          have n80:=unT c80
          refine vc_seq ?_
          refine vc_region hm ?_
          refine gM trivial (.inr rfl) rfl rfl rfl ?_
          refine rg_nil nofun ?_
          refine vc_ret ?_
          exact ⟨idm,ends0 (.inr rfl) rfl (eqB (okS_at p11 (by first|exact stepS_4 p47 p53 (by assumption)|exact stepS_5 p47 p53 (by assumption)))) rfl rfl rfl⟩
         ·skip
          have n80:=unF c80
          refine vc_skip ?_
          refine vc_region hm ?_
          refine gM trivial (.inl rfl) rfl rfl rfl ?_
          refine gA trivial rfl rfl rfl rfl rfl rfl (by omega) ?_
          refine gM trivial (.inr rfl) rfl rfl rfl ?_
          refine rg_nil nofun ?_
          exact lp_nextT ⟨k + 1,(by omega),(all_step hp (pair_ne n66 n80)),rfl,rfl⟩ (by omega) (re_nil (ms:=[0,1]) (C:=999) rfl ⟨⟨⟨rfl,rfl⟩,rfl⟩,⟨⟨rfl,rfl⟩,rfl⟩,⟨⟨rfl,rfl⟩,rfl⟩,trivial⟩ ⟨ktTab (k:=0) rfl rfl (.inr (.inl rfl)) id rfl rfl,ktIn rfl id rfl,trivial⟩ rfl rfl (rig_of rfl) rfl)
       ·skip
        have p53:=bne_eq_false_iff_eq.1 c53
        refine gO ⟨_,_,rfl,rfl,c53⟩ rfl rfl ?_
        refine gO ⟨_,_,rfl,rfl,c53⟩ rfl rfl ?_
        refine gO ⟨_,_,rfl,rfl,c53⟩ rfl rfl ?_
        refine gO ⟨_,_,rfl,rfl,c53⟩ rfl rfl ?_
        refine gO ⟨_,_,rfl,rfl,c53⟩ rfl rfl ?_
        refine gO ⟨_,_,rfl,rfl,c53⟩ rfl rfl ?_
        refine gO ⟨_,_,rfl,rfl,c53⟩ rfl rfl ?_
        refine gO ⟨_,_,rfl,rfl,c53⟩ rfl rfl ?_
        refine gO ⟨_,_,rfl,rfl,c53⟩ rfl rfl ?_
        refine gO ⟨_,_,rfl,rfl,c53⟩ rfl rfl ?_
        refine gO ⟨_,_,rfl,rfl,c53⟩ rfl rfl ?_
        refine gO ⟨_,_,rfl,rfl,c53⟩ rfl rfl ?_
        refine gO ⟨_,_,rfl,rfl,c53⟩ rfl rfl ?_
        refine gO ⟨_,_,rfl,rfl,trivial⟩ rfl rfl ?_
        refine gO ⟨_,_,rfl,rfl,trivial⟩ rfl rfl ?_
        refine gO ⟨_,_,rfl,rfl,trivial⟩ rfl rfl ?_
        refine gO ⟨_,_,rfl,rfl,trivial⟩ rfl rfl ?_
        refine gO ⟨_,_,rfl,rfl,trivial⟩ rfl rfl ?_
        refine gO ⟨_,_,rfl,rfl,trivial⟩ rfl rfl ?_
        refine gO ⟨_,_,rfl,rfl,trivial⟩ rfl rfl ?_
        refine gO ⟨_,_,rfl,rfl,trivial⟩ rfl rfl ?_
        refine gO ⟨_,_,rfl,rfl,trivial⟩ rfl rfl ?_
        refine gO ⟨_,_,rfl,rfl,trivial⟩ rfl rfl ?_
        refine gO ⟨_,_,rfl,rfl,trivial⟩ rfl rfl ?_
        refine gO ⟨_,_,rfl,rfl,trivial⟩ rfl rfl ?_
        refine gO ⟨_,_,rfl,rfl,c53⟩ rfl rfl ?_
        refine gPF trivial rfl rfl c53 rfl rfl rfl ?_
        refine rg_nil (fun _=>by kernel_rfl) ?_
        refine cF rfl rfl ?_
        refine vc_skip ?_
        refine vc_region hm ?_
        refine gM trivial (.inl rfl) rfl rfl rfl ?_
        refine gA trivial rfl rfl rfl rfl rfl rfl (by omega) ?_
        refine gM trivial (.inr rfl) rfl rfl rfl ?_
        refine rg_nil nofun ?_
        exact lp_nextT ⟨k + 1,(by omega),(all_step hp (pair_eq p53)),rfl,rfl⟩ (by omega) (re_nil (ms:=[0,1]) (C:=999) rfl ⟨⟨⟨rfl,rfl⟩,rfl⟩,⟨⟨rfl,rfl⟩,rfl⟩,⟨⟨rfl,rfl⟩,rfl⟩,trivial⟩ ⟨ktTab (k:=0) rfl rfl (.inr (.inl rfl)) id rfl rfl,ktIn rfl id rfl,trivial⟩ rfl rfl (rig_of rfl) rfl)
      ·skip
       have p47:=of_decide_eq_false c47
       refine vc_exit ?_
       refine vc_region hm ?_
       refine gM trivial (.inl rfl) rfl rfl rfl ?_
       refine gA trivial rfl rfl rfl rfl rfl rfl (by omega) ?_
       refine gM trivial (.inr rfl) rfl rfl rfl ?_
       refine rg_nil nofun ?_
       exact lp_nextT ⟨i + 1,(by omega),(all_step ha (stepS_6 n21 n30 n43 hk p47 hp)),rfl,rfl⟩ (by omega) (re_nil (ms:=[0,1]) (C:=999) rfl ⟨⟨⟨rfl,rfl⟩,rfl⟩,⟨⟨rfl,rfl⟩,rfl⟩,trivial⟩ ⟨ktTab (k:=0) rfl rfl (.inr (.inl rfl)) id rfl rfl,ktIn rfl id rfl,trivial⟩ rfl rfl (rig_of rfl) rfl)
  ·skip
   have p11:=of_decide_eq_false c11
   refine vc_exit ?_
   refine vc_seq ?_
   refine vc_region hm ?_
   refine gM trivial (.inr rfl) rfl rfl rfl ?_
   refine rg_nil nofun ?_
   refine vc_ret ?_
   exact ⟨idm,ends0 (.inr rfl) rfl (eqB (okS_all p7 hi p11 ha)) rfl rfl rfl⟩
theorem impl_LockOk_c {T:List Ho} (hT:T.length≤1048576) (hB:∀ h ∈ T,h.r.length≤1048576∧h.w.length≤1048576):FDoes Try.prog 17 [.slice (some ⟨0,0,none⟩) T.length 0] (hp [(0,false,one ⟨rHv (tabV 1 zo T),54,0⟩),(1,false,inF zo 33 0 T)]) { v:=.bool (lockOk T),rd:=[0,1] }:=by
 have hm:Try.prog.follows .mixedOrders=true:=by kernel_rfl
 have hd_:∀ x_ ∈ ([(0,false,one ⟨rHv (tabV 1 zo T),54,0⟩),(1,false,inF zo 33 0 T)]:List (Nat × Bool × Fam)),∀ k_ y_,x_.2.2 k_=some y_→DetB (lt 2) y_:=by
  intro x_ hx k_ y_ e
  simp only [List.mem_cons,List.not_mem_nil,or_false] at hx
  rcases hx with rfl|rfl
  ·exact det_tab (k0:=0) rfl e
  ·exact det_in e
 refine fn_exact (u0:=2) Try.func17 rfl rfl (gets rfl rfl rfl hd_ rfl) ?_
 clear hd_
 refine vc_seq ?_
 refine vc_region hm ?_
 refine gM trivial (.inr rfl) rfl rfl rfl ?_
 refine rg_nil nofun ?_
 refine vc_seq ?_
 refine vc_seq ?_
 refine vc_region hm ?_
 refine gM trivial (.inl rfl) rfl rfl rfl ?_
 refine gK trivial rfl rfl rfl rfl rfl rfl tabV_nil ?_
 refine gI trivial rfl rfl rfl rfl rfl rfl ?_
 refine rg_nil nofun ?_
 refine cI rfl (fun c12=>?_) (fun c12=>?_)
 ·skip
  have p12:=bne_iff_ne.1 c12
  refine vc_seq ?_
  refine vc_region hm ?_
  refine gM trivial (.inr rfl) rfl rfl rfl ?_
  refine rg_nil nofun ?_
  refine vc_ret ?_
  exact ⟨idm,ends0 (.inr rfl) rfl (eqB (ok_len3 p12)) rfl rfl rfl⟩
 ·skip
  have p12:=bne_eq_false_iff_eq.1 c12
  refine vc_skip ?_
  refine vc_seq ?_
  refine vc_region hm ?_
  refine gZ (u':=3) trivial rfl rfl rfl rfl rfl rfl rfl (show cellsL _=plL noP from rfl) ?_
  refine gZ (u':=4) trivial rfl rfl rfl rfl rfl rfl rfl (show cellsL _=plL noP from rfl) ?_
  refine rg_nil nofun ?_
  refine vc_seq ?_
  refine vc_seq ?_
  refine vc_region hm ?_
  refine gM trivial (.inl rfl) rfl rfl rfl ?_
  refine gK trivial rfl rfl rfl rfl rfl rfl tabV_nil ?_
  refine gM trivial (.inl rfl) rfl rfl rfl ?_
  refine rg_nil nofun ?_
  refine vc_block ?_
  refine vc_loopT (fun n_ S_=>∃ (j:Nat),j≤T.length∧(List.range j).all (stepI T)=true∧n_=T.length - j∧S_=⟨4,[(3,.pointer (some ⟨2,0,none⟩)),(4,.pointer (some ⟨3,0,none⟩)),(13,.slice (some ⟨0,0,none⟩) T.length 0),(14,.int .i64 T.length),(15,.int .i64 j)],[(0,false,one ⟨rHv (tabV 1 zo T),54,0⟩),(1,false,inF zo 33 0 T),(2,true,one ⟨plL (anyP T j),60,48⟩),(3,true,one ⟨plL (wrP T j),60,48⟩)]⟩) ⟨0,Nat.zero_le _,rfl,rfl,rfl⟩ (re_nil (ms:=[0,1,2,3]) (C:=999) rfl ⟨⟨⟨rfl,rfl⟩,rfl⟩,⟨⟨rfl,rfl⟩,rfl⟩,⟨⟨rfl,rfl⟩,rfl⟩,⟨⟨rfl,rfl⟩,rfl⟩,⟨⟨rfl,rfl⟩,rfl⟩,trivial⟩ ⟨ktTab (k:=0) rfl rfl (.inr (.inl rfl)) id rfl rfl,ktIn rfl id rfl,ktFlat (plL_flat _) (eqH any_0) (.inr (.inl rfl)) id rfl,ktFlat (plL_flat _) (eqH wr_0) (.inr (.inl rfl)) id rfl,trivial⟩ rfl rfl (rig_of rfl) rfl) ?_
  rintro n_ S_ ⟨j,hj,ha,rfl,rfl⟩
  refine vc_seq ?_
  refine vc_region hm ?_
  refine gI trivial rfl rfl rfl rfl rfl rfl ?_
  refine rg_nil nofun ?_
  refine vc_seq ?_
  refine cI rfl (fun c16=>?_) (fun c16=>?_)
  ·skip
   have p16:=of_decide_eq_true c16
   refine vc_skip ?_
   refine vc_seq ?_
   refine vc_block ?_
   refine vc_seq ?_
   refine vc_region hm ?_
   refine gX trivial rfl rfl rfl rfl rfl rfl rfl rfl (by omega) p16 tabV_ne ?_
   refine gL trivial rfl rfl rfl rfl rfl rfl rfl (aH (by omega) p16) ?_
   refine gZ (u':=5) trivial rfl rfl rfl rfl rfl rfl rfl rfl ?_
   refine gT trivial rfl rfl rfl rfl rfl rfl rfl rfl rfl rfl (Nat.le_of_ble_eq_true rfl) rfl ?_
   refine rg_nil nofun ?_
   refine vc_seq ?_
   refine vc_seq ?_
   refine vc_region hm ?_
   refine gF trivial rfl rfl rfl rfl rfl ?_
   refine gL trivial rfl rfl rfl rfl rfl rfl rfl rfl ?_
   refine gCT0 [nA (nm 1 (2 * ((j:Int)).toNat))] [1] (impl_SpansOk_c (l:=(at_ T (j:Int)).r) (hB _ (at_mem (by omega) p16)).1) trivial rfl rfl rfl rfl rfl ⟨aRow rfl (rSp_flat _) rfl (inF_0 (by omega) p16) (.inl rfl) (.inl rfl) rfl,trivial⟩ rfl rfl rfl rfl ?_
   refine gN trivial rfl rfl rfl rfl ?_
   refine gM trivial (.inl rfl) rfl rfl rfl ?_
   refine gI2 (d:=23) rfl (fun c23=>?_) (fun c23=>?_)
   ·skip
    have n23:=unT c23
    refine gO ⟨_,_,rfl,rfl,c23⟩ rfl rfl ?_
    refine gO ⟨_,_,rfl,rfl,c23⟩ rfl rfl ?_
    refine gO ⟨_,_,rfl,rfl,c23⟩ rfl rfl ?_
    refine gO ⟨_,_,rfl,rfl,c23⟩ rfl rfl ?_
    refine gPT trivial rfl rfl c23 rfl rfl rfl ?_
    refine rg_nil nofun ?_
    refine cT rfl rfl ?_
    refine vc_seq ?_
    refine vc_region hm ?_
    refine gM trivial (.inr rfl) rfl rfl rfl ?_
    refine rg_nil nofun ?_
    refine vc_ret ?_
    exact ⟨idm,ends0 (.inr rfl) rfl (eqB (okI_at p16 (by first|exact stepI_1 (by assumption)|exact stepI_2 (by assumption)|exact stepI_3 (by assumption)|exact stepI_4 (by assumption)|exact stepI_5 (by assumption)))) rfl rfl rfl⟩
   ·skip
    have n23:=unF c23
    refine gF ⟨_,_,rfl,rfl,c23⟩ rfl rfl rfl rfl rfl ?_
    refine gL ⟨_,_,rfl,rfl,c23⟩ rfl rfl rfl rfl rfl rfl rfl rfl ?_
    refine gCT0 [nA (nm 1 (2 * ((j:Int)).toNat + 1))] [1] (impl_SpansOk_c (l:=(at_ T (j:Int)).w) (hB _ (at_mem (by omega) p16)).2) ⟨_,_,rfl,rfl,c23⟩ rfl rfl rfl rfl rfl ⟨aRow rfl (rSp_flat _) rfl (inF_1 (by omega) p16) (.inl rfl) (.inl rfl) rfl,trivial⟩ rfl rfl rfl rfl ?_
    refine gN ⟨_,_,rfl,rfl,c23⟩ rfl rfl rfl rfl ?_
    refine gPF trivial rfl rfl c23 rfl rfl rfl ?_
    refine rg_nil nofun ?_
    refine cI rfl (fun c28=>?_) (fun c28=>?_)
    ·skip
     have n28:=unT c28
     refine vc_seq ?_
     refine vc_region hm ?_
     refine gM trivial (.inr rfl) rfl rfl rfl ?_
     refine rg_nil nofun ?_
     refine vc_ret ?_
     exact ⟨idm,ends0 (.inr rfl) rfl (eqB (okI_at p16 (by first|exact stepI_1 (by assumption)|exact stepI_2 (by assumption)|exact stepI_3 (by assumption)|exact stepI_4 (by assumption)|exact stepI_5 (by assumption)))) rfl rfl rfl⟩
    ·skip
     have n28:=unF c28
     refine vc_skip ?_
     refine vc_seq ?_
     refine vc_region hm ?_
     refine gF trivial rfl rfl rfl rfl rfl ?_
     refine gL trivial rfl rfl rfl rfl rfl rfl rfl rfl ?_
     refine gCT0 [nA (nm 1 (2 * ((j:Int)).toNat))] [1] (of_c (l:=(at_ T (j:Int)).r) (inB_of (by assumption)) (by have:=spansOk_len (l:=(at_ T (j:Int)).r) (by assumption);omega)) trivial rfl rfl rfl rfl rfl ⟨aRow rfl (rSp_flat _) rfl (inF_0 (by omega) p16) (.inl rfl) (.inl rfl) rfl,trivial⟩ (vPl_flat _) rfl rfl rfl ?_
     refine gF trivial rfl rfl rfl rfl rfl ?_
     refine gL trivial rfl rfl rfl rfl rfl rfl rfl rfl ?_
     refine gCT0 [nA (nm 1 (2 * ((j:Int)).toNat + 1))] [1] (of_c (l:=(at_ T (j:Int)).w) (inB_of (by assumption)) (by have:=spansOk_len (l:=(at_ T (j:Int)).w) (by assumption);omega)) trivial rfl rfl rfl rfl rfl ⟨aRow rfl (rSp_flat _) rfl (inF_1 (by omega) p16) (.inl rfl) (.inl rfl) rfl,trivial⟩ (vPl_flat _) rfl rfl rfl ?_
     refine gZ (u':=6) trivial rfl rfl rfl rfl rfl rfl rfl (show cellsL _=plL noP from rfl) ?_
     refine gZ (u':=7) trivial rfl rfl rfl rfl rfl rfl rfl (show cellsL _=plL noP from rfl) ?_
     refine gT trivial rfl rfl rfl rfl rfl rfl rfl rfl rfl rfl zPl pPl ?_
     refine gT trivial rfl rfl rfl rfl rfl rfl rfl rfl rfl rfl zPl pPl ?_
     refine rg_nil (fun _=>by kernel_rfl) ?_
     refine vc_seq ?_
     refine vc_region hm ?_
     refine gU trivial rfl rfl rfl rfl rfl rfl rfl rfl ?_
     refine gZ (u':=8) trivial rfl rfl rfl rfl rfl rfl rfl (show cellsL _=plL noP from rfl) ?_
     refine gT trivial rfl rfl rfl rfl rfl rfl rfl rfl rfl rfl zPl (show putL _ 0 _=plL noP from rfl) ?_
     refine rg_nil nofun ?_
     refine vc_seq ?_
     refine vc_seq ?_
     refine vc_region hm ?_
     refine gL trivial rfl rfl rfl rfl rfl rfl rfl wPl ?_
     refine gL trivial rfl rfl rfl rfl rfl rfl rfl wPl ?_
     refine gC0 [] (meet_c (ofP (at_ T (j:Int)).r) (ofP (at_ T (j:Int)).w)) trivial rfl rfl rfl rfl (by trivial) rfl rfl (vPl_flat _) rfl rfl ?_
     refine gL trivial rfl rfl rfl rfl rfl rfl rfl wPl ?_
     refine gEqPn trivial rfl rfl rfl rfl rfl (by kernel_rfl) rfl rfl rfl rfl ?_
     refine gM trivial (.inl rfl) rfl rfl rfl ?_
     refine gI2 (d:=41) rfl (fun c41=>?_) (fun c41=>?_)
     ·skip
      have n41:=unT c41
      refine gO ⟨_,_,rfl,rfl,c41⟩ rfl rfl ?_
      refine gO ⟨_,_,rfl,rfl,c41⟩ rfl rfl ?_
      refine gO ⟨_,_,rfl,rfl,c41⟩ rfl rfl ?_
      refine gO ⟨_,_,rfl,rfl,c41⟩ rfl rfl ?_
      refine gO ⟨_,_,rfl,rfl,c41⟩ rfl rfl ?_
      refine gPT trivial rfl rfl c41 rfl rfl rfl ?_
      refine gM trivial (.inl rfl) rfl rfl rfl ?_
      refine gO ⟨_,_,rfl,rfl,rfl⟩ rfl rfl ?_
      refine gO ⟨_,_,rfl,rfl,rfl⟩ rfl rfl ?_
      refine gO ⟨_,_,rfl,rfl,rfl⟩ rfl rfl ?_
      refine gO ⟨_,_,rfl,rfl,rfl⟩ rfl rfl ?_
      refine gO ⟨_,_,rfl,rfl,rfl⟩ rfl rfl ?_
      refine gPT trivial rfl rfl rfl rfl rfl rfl ?_
      refine rg_nil (fun _=>by kernel_rfl) ?_
      refine cT rfl rfl ?_
      refine vc_seq ?_
      refine vc_region hm ?_
      refine gM trivial (.inr rfl) rfl rfl rfl ?_
      refine rg_nil nofun ?_
      refine vc_ret ?_
      exact ⟨idm,ends0 (.inr rfl) rfl (eqB (okI_at p16 (by first|exact stepI_1 (by assumption)|exact stepI_2 (by assumption)|exact stepI_3 (by assumption)|exact stepI_4 (by assumption)|exact stepI_5 (by assumption)))) rfl rfl rfl⟩
     ·skip
      have n41:=unF c41
      refine gL ⟨_,_,rfl,rfl,c41⟩ rfl rfl rfl rfl rfl rfl rfl wPl ?_
      refine gL ⟨_,_,rfl,rfl,c41⟩ rfl rfl rfl rfl rfl rfl rfl wPl ?_
      refine gC0 [] (meet_c (ofP (at_ T (j:Int)).w) (anyP T j)) ⟨_,_,rfl,rfl,c41⟩ rfl rfl rfl rfl (by trivial) rfl rfl (vPl_flat _) rfl rfl ?_
      refine gL ⟨_,_,rfl,rfl,c41⟩ rfl rfl rfl rfl rfl rfl rfl wPl ?_
      refine gEqPn ⟨_,_,rfl,rfl,c41⟩ rfl rfl rfl rfl rfl (by kernel_rfl) rfl rfl rfl rfl ?_
      refine gPF trivial rfl rfl c41 rfl rfl rfl ?_
      refine gM trivial (.inl rfl) rfl rfl rfl ?_
      refine gI2 (d:=48) rfl (fun c48=>?_) (fun c48=>?_)
      ·skip
       have n48:=unT c48
       refine gO ⟨_,_,rfl,rfl,c48⟩ rfl rfl ?_
       refine gO ⟨_,_,rfl,rfl,c48⟩ rfl rfl ?_
       refine gO ⟨_,_,rfl,rfl,c48⟩ rfl rfl ?_
       refine gO ⟨_,_,rfl,rfl,c48⟩ rfl rfl ?_
       refine gO ⟨_,_,rfl,rfl,c48⟩ rfl rfl ?_
       refine gPT trivial rfl rfl c48 rfl rfl rfl ?_
       refine rg_nil (fun _=>by kernel_rfl) ?_
       refine cT rfl rfl ?_
       refine vc_seq ?_
       refine vc_region hm ?_
       refine gM trivial (.inr rfl) rfl rfl rfl ?_
       refine rg_nil nofun ?_
       refine vc_ret ?_
       exact ⟨idm,ends0 (.inr rfl) rfl (eqB (okI_at p16 (by first|exact stepI_1 (by assumption)|exact stepI_2 (by assumption)|exact stepI_3 (by assumption)|exact stepI_4 (by assumption)|exact stepI_5 (by assumption)))) rfl rfl rfl⟩
      ·skip
       have n48:=unF c48
       refine gL ⟨_,_,rfl,rfl,c48⟩ rfl rfl rfl rfl rfl rfl rfl wPl ?_
       refine gL ⟨_,_,rfl,rfl,c48⟩ rfl rfl rfl rfl rfl rfl rfl wPl ?_
       refine gC0 [] (meet_c (ofP (at_ T (j:Int)).r) (wrP T j)) ⟨_,_,rfl,rfl,c48⟩ rfl rfl rfl rfl (by trivial) rfl rfl (vPl_flat _) rfl rfl ?_
       refine gL ⟨_,_,rfl,rfl,c48⟩ rfl rfl rfl rfl rfl rfl rfl wPl ?_
       refine gEqPn ⟨_,_,rfl,rfl,c48⟩ rfl rfl rfl rfl rfl (by kernel_rfl) rfl rfl rfl rfl ?_
       refine gPF trivial rfl rfl c48 rfl rfl rfl ?_
       refine rg_nil (fun _=>by kernel_rfl) ?_
       refine cI rfl (fun c54=>?_) (fun c54=>?_)
       ·skip
        have n54:=unT c54
        refine vc_seq ?_
        refine vc_region hm ?_
        refine gM trivial (.inr rfl) rfl rfl rfl ?_
        refine rg_nil nofun ?_
        refine vc_ret ?_
        exact ⟨idm,ends0 (.inr rfl) rfl (eqB (okI_at p16 (by first|exact stepI_1 (by assumption)|exact stepI_2 (by assumption)|exact stepI_3 (by assumption)|exact stepI_4 (by assumption)|exact stepI_5 (by assumption)))) rfl rfl rfl⟩
       ·skip
        have n54:=unF c54
        refine vc_skip ?_
        refine vc_seq ?_
        refine vc_region hm ?_
        refine gL trivial rfl rfl rfl rfl rfl rfl rfl wPl ?_
        refine gL trivial rfl rfl rfl rfl rfl rfl rfl wPl ?_
        refine gC0 [] (put_c (wrP T j) (ofP (at_ T (j:Int)).w) true) trivial rfl rfl rfl rfl (by trivial) rfl rfl (vPl_flat _) rfl rfl ?_
        refine gT trivial rfl rfl rfl rfl rfl rfl rfl rfl rfl rfl zPl pPl ?_
        refine rg_nil nofun ?_
        refine vc_region hm ?_
        refine gL trivial rfl rfl rfl rfl rfl rfl rfl wPl ?_
        refine gL trivial rfl rfl rfl rfl rfl rfl rfl wPl ?_
        refine gC0 [] (put_c (anyP T j) (ofP (at_ T (j:Int)).w) true) trivial rfl rfl rfl rfl (by trivial) rfl rfl (vPl_flat _) rfl rfl ?_
        refine gL trivial rfl rfl rfl rfl rfl rfl rfl wPl ?_
        refine gC0 [] (put_c (putP (anyP T j) (ofP (at_ T (j:Int)).w) true) (ofP (at_ T (j:Int)).r) true) trivial rfl rfl rfl rfl (by trivial) rfl rfl (vPl_flat _) rfl rfl ?_
        refine gT trivial rfl rfl rfl rfl rfl rfl rfl rfl rfl rfl zPl pPl ?_
        refine rg_nil (fun _=>by kernel_rfl) ?_
        refine vc_region hm ?_
        refine gA trivial rfl rfl rfl rfl rfl rfl (by omega) ?_
        refine gM trivial (.inl rfl) rfl rfl rfl ?_
        refine rg_nil nofun ?_
        exact lp_nextT ⟨j + 1,(by omega),(all_step ha (stepI_6 n23 n28 n41 n48 n54)),rfl,rfl⟩ (by omega) (re_nil (ms:=[0,1,2,3]) (C:=999) rfl ⟨⟨⟨rfl,rfl⟩,rfl⟩,⟨⟨rfl,rfl⟩,rfl⟩,⟨⟨rfl,rfl⟩,rfl⟩,⟨⟨rfl,rfl⟩,rfl⟩,⟨⟨rfl,rfl⟩,rfl⟩,trivial⟩ ⟨ktTab (k:=0) rfl rfl (.inr (.inl rfl)) id rfl rfl,ktIn rfl id rfl,ktFlat (plL_flat _) (eqH (any_next p16)) (.inr (.inl rfl)) id rfl,ktFlat (plL_flat _) (eqH (wr_next p16)) (.inr (.inl rfl)) id rfl,trivial⟩ rfl rfl (rig_of rfl) rfl)
  ·skip
   have p16:=of_decide_eq_false c16
   refine vc_exit ?_
   refine vc_seq ?_
   refine vc_region hm ?_
   refine gM trivial (.inr rfl) rfl rfl rfl ?_
   refine rg_nil nofun ?_
   refine vc_ret ?_
   exact ⟨idm,ends0 (.inr rfl) rfl (eqB (okI_all p12 hj p16 ha)) rfl rfl rfl⟩
theorem clone_nil : FDoes Try.prog 78 [.slice none 0 0] (hp []) { v:=.slice none 0 0 }:=by
 have hm:Try.prog.follows .mixedOrders=true:=by kernel_rfl
 have hd_:∀ x ∈ ([]:List (Nat × Bool × Fam)),∀ k y,x.2.2 k=some y→DetB (lt 0) y:=fun x_ hx=>(by cases hx)
 refine fn_exact (u0:=0) Try.func78 rfl rfl (gets rfl rfl rfl hd_ rfl) ?_
 clear hd_
 refine vc_seq ?_
 refine vc_region hm ?_
 refine gM trivial (.inr rfl) rfl rfl rfl ?_
 refine rg_nil nofun ?_
 refine vc_seq ?_
 refine vc_seq ?_
 refine vc_region hm ?_
 refine gM trivial (.inl rfl) rfl rfl rfl ?_
 refine gNilT trivial rfl rfl rfl rfl rfl rfl ?_
 refine rg_nil nofun ?_
 refine cT rfl rfl ?_
 refine vc_seq ?_
 refine vc_region hm ?_
 refine gM trivial (.inr rfl) rfl rfl rfl ?_
 refine rg_nil nofun ?_
 refine vc_ret ?_
 exact ⟨idm,ends0 (.inr rfl) rfl rfl rfl rfl rfl⟩
theorem clone_some {l:List Sp} (hn:l.length≤1048576):FDoes Try.prog 78 [.slice (some ⟨0,0,none⟩) l.length 0] (hp [(0,false,one ⟨rSp l ++ [hole],33,0⟩)]) (mkE (.slice (some ⟨1,0,none⟩) l.length 0) [0] [] [(1,⟨rSp l,33,2⟩)]):=by
 have hm:Try.prog.follows .mixedOrders=true:=by kernel_rfl
 have hd_:∀ x_ ∈ ([(0,false,one ⟨rSp l ++ [hole],33,0⟩)]:List (Nat × Bool × Fam)),∀ k_ y_,x_.2.2 k_=some y_→DetB (lt 1) y_:=by
  intro x_ hx k_ y_ e
  simp only [List.mem_cons,List.not_mem_nil,or_false] at hx
  subst hx
  exact det_row (cw_flat l) e
 refine fn_exact (u0:=1) Try.func78 rfl rfl (gets rfl rfl rfl hd_ rfl) ?_
 clear hd_
 refine vc_seq ?_
 refine vc_region hm ?_
 refine gM trivial (.inr rfl) rfl rfl rfl ?_
 refine rg_nil nofun ?_
 refine vc_seq ?_
 refine vc_seq ?_
 refine vc_region hm ?_
 refine gM trivial (.inl rfl) rfl rfl rfl ?_
 refine gNilC trivial rfl rfl rfl rfl rfl rfl rfl (by simp) ?_
 refine rg_nil nofun ?_
 refine cF rfl rfl ?_
 refine vc_skip ?_
 refine vc_seq ?_
 refine vc_region hm ?_
 refine gR (u':=2) trivial rfl rfl rfl rfl rfl rfl rfl rfl rfl rfl rfl rfl rfl rfl ?_
 refine gM trivial (.inl rfl) rfl rfl rfl ?_
 refine gAp (u':=3) trivial rfl rfl rfl rfl rfl rfl rfl rfl rfl rfl rfl rfl rfl (cw_len l) (cw_leaf l) (show (0 + l.length) * (16 + 1)≤140737488355328 by omega) (cw_eq l) (Nat.zero_add _) ?_
 refine gM trivial (.inr rfl) rfl rfl rfl ?_
 refine rg_nil nofun ?_
 refine vc_ret ?_
 exact ⟨_,endsG [(1,2,⟨rSp l,33,2⟩)] (.inr rfl) (.tmp rfl rfl .nil) rfl rfl trivial ⟨⟨rfl,rSp_flat _⟩,trivial⟩ rfl⟩
theorem clone_any {l:List Sp} (hn:l.length≤1048576):FDoes Try.prog 78 [.slice (some ⟨0,0,none⟩) l.length 0] (hp [(0,false,one ⟨rSp l,33,77⟩)]) (mkE (.slice (some ⟨1,0,none⟩) l.length 0) [0] [] [(1,⟨rSp l,33,2⟩)]):=clone_both (rSp_flat l) rSp_nil ⟨by decide,by decide⟩ ⟨by decide,by decide⟩ clone_nil (clone_some hn)
theorem spec_l4Copy_c {T:List Ho} (hT:T.length≤1048576) (hB:∀ h ∈ T,h.r.length≤1048576∧h.w.length≤1048576):FDoes Try.prog 56 [.slice (some ⟨0,0,none⟩) T.length 0] (hp [(0,false,one ⟨rHv (tabV 1 zo T),54,0⟩),(1,false,inF zo 33 0 T)]) (mkF (.slice (some ⟨2,0,none⟩) T.length 0) [0,1] [] [(2,one ⟨rHv (tabV 3 zo T),54,2⟩),(3,inF zo 33 77 T)]):=by
 have hm:Try.prog.follows .mixedOrders=true:=by kernel_rfl
 have hd_:∀ x_ ∈ ([(0,false,one ⟨rHv (tabV 1 zo T),54,0⟩),(1,false,inF zo 33 0 T)]:List (Nat × Bool × Fam)),∀ k_ y_,x_.2.2 k_=some y_→DetB (lt 2) y_:=by
  intro x_ hx k_ y_ e
  simp only [List.mem_cons,List.not_mem_nil,or_false] at hx
  rcases hx with rfl|rfl
  ·exact det_tab (k0:=0) rfl e
  ·exact det_in e
 refine fn_exact (u0:=2) Try.func56 rfl rfl (gets rfl rfl rfl hd_ rfl) ?_
 clear hd_
 refine vc_seq ?_
 refine vc_region hm ?_
 refine gM trivial (.inr rfl) rfl rfl rfl ?_
 refine rg_nil nofun ?_
 refine vc_seq ?_
 refine vc_region hm ?_
 refine gR (u':=3) trivial rfl rfl rfl rfl rfl rfl rfl rfl rfl rfl rfl rfl rfl rfl ?_
 refine gM trivial (.inr rfl) rfl rfl rfl ?_
 refine rg_nil nofun ?_
 refine vc_seq ?_
 refine vc_seq ?_
 refine vc_region hm ?_
 refine gM trivial (.inr rfl) rfl rfl rfl ?_
 refine rg_nil nofun ?_
 refine vc_block ?_
 refine vc_loopT (fun n_ S_=>∃ (j:Nat),j≤T.length∧n_=T.length - j∧S_=⟨4,[(0,.slice (some ⟨0,0,none⟩) T.length 0),(3,.slice (some ⟨2,0,none⟩) j 0),(4,.int .i64 j)],[(0,false,one ⟨rHv (tabV 1 zo T),54,0⟩),(1,false,inF zo 33 0 T),(2,true,one ⟨rHv (tabV 3 zo (T.take j)),54,2⟩),(3,true,inF zo 33 77 (T.take j))]⟩) ⟨0,Nat.zero_le _,rfl,rfl⟩ (re_nil (ms:=[0,1,2,3]) (C:=3) rfl ⟨⟨⟨rfl,rfl⟩,rfl⟩,⟨⟨rfl,rfl⟩,rfl⟩,⟨⟨rfl,rfl⟩,rfl⟩,trivial⟩ ⟨ktTab (k:=0) rfl rfl (.inr (.inl rfl)) id rfl rfl,ktIn rfl id rfl,ktTabN (n:=0) rfl rfl (.inr (.inl rfl)) id rfl rfl,ktInN (n:=0) rfl (by decide) rfl,trivial⟩ rfl rfl (rig_of rfl) rfl) ?_
 rintro n_ S_ ⟨j,hj,rfl,rfl⟩
 refine vc_seq ?_
 refine vc_seq ?_
 refine vc_region hm ?_
 refine gM trivial (.inl rfl) rfl rfl rfl ?_
 refine gM trivial (.inl rfl) rfl rfl rfl ?_
 refine gK trivial rfl rfl rfl rfl rfl rfl tabV_nil ?_
 refine gI trivial rfl rfl rfl rfl rfl rfl ?_
 refine rg_nil nofun ?_
 refine cI rfl (fun c9=>?_) (fun c9=>?_)
 ·skip
  have p9:=of_decide_eq_true c9
  refine vc_skip ?_
  refine vc_seq ?_
  refine vc_block ?_
  refine vc_region hm ?_
  refine gM trivial (.inl rfl) rfl rfl rfl ?_
  refine gR (u':=5) trivial rfl rfl rfl rfl rfl rfl rfl rfl rfl rfl rfl rfl rfl rfl ?_
  refine gM trivial (.inl rfl) rfl rfl rfl ?_
  refine gM trivial (.inl rfl) rfl rfl rfl ?_
  refine gX trivial rfl rfl rfl rfl rfl rfl rfl rfl (by omega) p9 tabV_ne ?_
  refine gF trivial rfl rfl rfl rfl rfl ?_
  refine gL trivial rfl rfl rfl rfl rfl rfl rfl (lH0 (by omega) p9) ?_
  refine gApi (u':=6) trivial rfl rfl rfl rfl rfl rfl rfl rfl rfl rfl rfl rfl (inF_0 (by omega) p9) rfl (cp_len _) (cp_leaf _) (show (0 + (at_ T (j:Int)).r.length) * (16 + 1)≤140737488355328 by have:=hB _ (at_mem (by omega) p9);omega) (cp_eq _) (Nat.zero_add _) ?_
  refine gR (u':=7) trivial rfl rfl rfl rfl rfl rfl rfl rfl rfl rfl rfl rfl rfl rfl ?_
  refine gM trivial (.inl rfl) rfl rfl rfl ?_
  refine gM trivial (.inl rfl) rfl rfl rfl ?_
  refine gX trivial rfl rfl rfl rfl rfl rfl rfl rfl (by omega) p9 tabV_ne ?_
  refine gF trivial rfl rfl rfl rfl rfl ?_
  refine gL trivial rfl rfl rfl rfl rfl rfl rfl (lH1 (by omega) p9) ?_
  refine gApi (u':=8) trivial rfl rfl rfl rfl rfl rfl rfl rfl rfl rfl rfl rfl (inF_1 (by omega) p9) rfl (cp_len _) (cp_leaf _) (show (0 + (at_ T (j:Int)).w.length) * (16 + 1)≤140737488355328 by have:=hB _ (at_mem (by omega) p9);omega) (cp_eq _) (Nat.zero_add _) ?_
  refine gU trivial rfl rfl rfl rfl rfl rfl rfl rfl ?_
  refine gR (u':=9) trivial rfl rfl rfl rfl rfl rfl rfl rfl rfl rfl rfl rfl rfl rfl ?_
  refine gAp (u':=10) trivial rfl rfl rfl rfl rfl rfl rfl rfl rfl rfl rfl rfl (by rw [rowL_len (n:=2) (fun _=>rfl),tabV_len,take_len' (by omega)]) (Nat.le_refl _) rfl (show (j + 1) * (48 + 1)≤140737488355328 by omega) (row_snoc (enc:=eHv) (x:=⟨.slice (some ⟨5,0,none⟩) (at_ T (j:Int)).r.length 0,.slice (some ⟨7,0,none⟩) (at_ T (j:Int)).w.length 0⟩)) rfl ?_
  refine gM trivial (.inr rfl) rfl rfl rfl ?_
  refine rg_nil (fun _=>by kernel_rfl) ?_
  refine vc_region hm ?_
  refine gM trivial (.inl rfl) rfl rfl rfl ?_
  refine gA trivial rfl rfl rfl rfl rfl rfl (by omega) ?_
  refine gM trivial (.inr rfl) rfl rfl rfl ?_
  refine rg_nil nofun ?_
  exact lp_nextT ⟨j + 1,(by omega),rfl,rfl⟩ (by omega) (re_fold (ms:=[0,1,9,3]) (C:=3) (C':=3) (i:=2 * (j)) (a:=5) (b:=7) rfl ⟨⟨⟨rfl,rfl⟩,rfl⟩,⟨⟨rfl,rfl⟩,rfl⟩,⟨⟨rfl,rfl⟩,rfl⟩,trivial⟩ ⟨ktTab (k:=0) rfl rfl (.inr (.inl rfl)) id rfl rfl,ktIn rfl id rfl,ktTabC rfl (ap_x p9) (fun _=>ap_i p9) (fun i h h'=>ap_j p9 h h') (.inr (.inl rfl)) id rfl rfl,kPutC (fun i h h'=>ap_g p9 h h') (ap_ho p9) rfl rfl rfl (.inr ⟨.inl rfl,.inr ⟨by decide,by decide,by decide⟩,.inr ⟨by decide,by decide,by decide⟩⟩) (fun _=>⟨rfl,rfl,rfl⟩) rfl,trivial⟩ rfl rfl (rig_of rfl) rfl rfl)
 ·skip
  have p9:=of_decide_eq_false c9
  refine vc_exit ?_
  refine vc_seq ?_
  refine vc_region hm ?_
  refine gM trivial (.inl rfl) rfl rfl rfl ?_
  refine gM trivial (.inr rfl) rfl rfl rfl ?_
  refine rg_nil nofun ?_
  refine vc_ret ?_
  obtain rfl:j=T.length:=by omega
  rw [List.take_length]
  exact ⟨_,endsT [(2,2,one ⟨rHv (tabV 3 zo T),54,2⟩),(3,3,inF zo 33 77 T)] (.inr rfl) (.tmp rfl rfl .nil) rfl rfl trivial ⟨asTab rfl rfl rfl,asIn rfl,trivial⟩ rfl⟩
theorem copied_c {T:List Ho} (hT:T.length≤1048576) (hB:∀ h ∈ T,h.r.length≤1048576∧h.w.length≤1048576):FDoes Try.prog 73 [.slice (some ⟨0,0,none⟩) T.length 0] (hp [(0,false,one ⟨rHv (tabV 1 zo T),54,0⟩),(1,false,inF zo 33 77 T)]) (mkF (.slice (some ⟨2,0,none⟩) T.length 0) [0,1] [] [(2,one ⟨rHv (tabV 3 zo T),54,2⟩),(3,inF zo 33 77 T)]):=by
 have hm:Try.prog.follows .mixedOrders=true:=by kernel_rfl
 have hd_:∀ x_ ∈ ([(0,false,one ⟨rHv (tabV 1 zo T),54,0⟩),(1,false,inF zo 33 77 T)]:List (Nat × Bool × Fam)),∀ k_ y_,x_.2.2 k_=some y_→DetB (lt 2) y_:=by
  intro x_ hx k_ y_ e
  simp only [List.mem_cons,List.not_mem_nil,or_false] at hx
  rcases hx with rfl|rfl
  ·exact det_tab (k0:=0) rfl e
  ·exact det_in e
 refine fn_exact (u0:=2) Try.func73 rfl rfl (gets rfl rfl rfl hd_ rfl) ?_
 clear hd_
 refine vc_seq ?_
 refine vc_region hm ?_
 refine gM trivial (.inr rfl) rfl rfl rfl ?_
 refine rg_nil nofun ?_
 refine vc_seq ?_
 refine vc_region hm ?_
 refine gR (u':=3) trivial rfl rfl rfl rfl rfl rfl rfl rfl rfl rfl rfl rfl rfl rfl ?_
 refine gM trivial (.inr rfl) rfl rfl rfl ?_
 refine rg_nil nofun ?_
 refine vc_seq ?_
 refine vc_seq ?_
 refine vc_region hm ?_
 refine gM trivial (.inl rfl) rfl rfl rfl ?_
 refine gK trivial rfl rfl rfl rfl rfl rfl tabV_nil ?_
 refine gM trivial (.inl rfl) rfl rfl rfl ?_
 refine rg_nil nofun ?_
 refine vc_block ?_
 refine vc_loopT (fun n_ S_=>∃ (j:Nat),j≤T.length∧n_=T.length - j∧S_=⟨4,[(7,.slice (some ⟨0,0,none⟩) T.length 0),(8,.int .i64 T.length),(3,.slice (some ⟨2,0,none⟩) j 0),(9,.int .i64 j)],[(0,false,one ⟨rHv (tabV 1 zo T),54,0⟩),(1,false,inF zo 33 77 T),(2,true,one ⟨rHv (tabV 3 zo (T.take j)),54,2⟩),(3,true,inF zo 33 77 (T.take j))]⟩) ⟨0,Nat.zero_le _,rfl,rfl⟩ (re_nil (ms:=[0,1,2,3]) (C:=3) rfl ⟨⟨⟨rfl,rfl⟩,rfl⟩,⟨⟨rfl,rfl⟩,rfl⟩,⟨⟨rfl,rfl⟩,rfl⟩,⟨⟨rfl,rfl⟩,rfl⟩,trivial⟩ ⟨ktTab (k:=0) rfl rfl (.inr (.inl rfl)) id rfl rfl,ktIn rfl id rfl,ktTabN (n:=0) rfl rfl (.inr (.inl rfl)) id rfl rfl,ktInN (n:=0) rfl (by decide) rfl,trivial⟩ rfl rfl (rig_of rfl) rfl) ?_
 rintro n_ S_ ⟨j,hj,rfl,rfl⟩
 refine vc_seq ?_
 refine vc_region hm ?_
 refine gI trivial rfl rfl rfl rfl rfl rfl ?_
 refine rg_nil nofun ?_
 refine vc_seq ?_
 refine cI rfl (fun c10=>?_) (fun c10=>?_)
 ·skip
  have p10:=of_decide_eq_true c10
  refine vc_skip ?_
  refine vc_seq ?_
  refine vc_block ?_
  refine vc_seq ?_
  refine vc_region hm ?_
  refine gX trivial rfl rfl rfl rfl rfl rfl rfl rfl (by omega) p10 tabV_ne ?_
  refine gL trivial rfl rfl rfl rfl rfl rfl rfl (aH (by omega) p10) ?_
  refine gZ (u':=5) trivial rfl rfl rfl rfl rfl rfl rfl rfl ?_
  refine gT trivial rfl rfl rfl rfl rfl rfl rfl rfl rfl rfl (Nat.le_of_ble_eq_true rfl) rfl ?_
  refine rg_nil nofun ?_
  refine vc_region hm ?_
  refine gM trivial (.inl rfl) rfl rfl rfl ?_
  refine gF trivial rfl rfl rfl rfl rfl ?_
  refine gL trivial rfl rfl rfl rfl rfl rfl rfl rfl ?_
  refine gCT (as':=[(5,one ⟨rSp (at_ T (j:Int)).r,33,2⟩)]) (v':=.slice (some ⟨5,0,none⟩) (at_ T (j:Int)).r.length 0) 6 [nA (nm 1 (2 * ((j:Int)).toNat)),nF 5] [1] (clone_any (l:=(at_ T (j:Int)).r) (hB _ (at_mem (by omega) p10)).1) trivial rfl rfl rfl rfl rfl ⟨aRow rfl (rSp_flat _) rfl (inF_0 (by omega) p10) (.inr rfl) (.inr (.inl rfl)) rfl,trivial⟩ ⟨rFlatT (rSp_flat _) rfl,trivial⟩ ⟨rfl,rfl⟩ rfl rfl rfl ?_
  refine gF trivial rfl rfl rfl rfl rfl ?_
  refine gL trivial rfl rfl rfl rfl rfl rfl rfl rfl ?_
  refine gCT (as':=[(6,one ⟨rSp (at_ T (j:Int)).w,33,2⟩)]) (v':=.slice (some ⟨6,0,none⟩) (at_ T (j:Int)).w.length 0) 7 [nA (nm 1 (2 * ((j:Int)).toNat + 1)),nF 6] [1] (clone_any (l:=(at_ T (j:Int)).w) (hB _ (at_mem (by omega) p10)).2) trivial rfl rfl rfl rfl rfl ⟨aRow rfl (rSp_flat _) rfl (inF_1 (by omega) p10) (.inr rfl) (.inr (.inl rfl)) rfl,trivial⟩ ⟨rFlatT (rSp_flat _) rfl,trivial⟩ ⟨rfl,rfl⟩ rfl rfl rfl ?_
  refine gU trivial rfl rfl rfl rfl rfl rfl rfl rfl ?_
  refine gR (u':=8) trivial rfl rfl rfl rfl rfl rfl rfl rfl rfl rfl rfl rfl rfl rfl ?_
  refine gAp (u':=9) trivial rfl rfl rfl rfl rfl rfl rfl rfl rfl rfl rfl rfl (by rw [rowL_len (n:=2) (fun _=>rfl),tabV_len,take_len' (by omega)]) (Nat.le_refl _) rfl (show (j + 1) * (48 + 1)≤140737488355328 by omega) (row_snoc (enc:=eHv) (x:=⟨.slice (some ⟨5,0,none⟩) (at_ T (j:Int)).r.length 0,.slice (some ⟨6,0,none⟩) (at_ T (j:Int)).w.length 0⟩)) rfl ?_
  refine gM trivial (.inr rfl) rfl rfl rfl ?_
  refine rg_nil (fun _=>by kernel_rfl) ?_
  refine vc_region hm ?_
  refine gA trivial rfl rfl rfl rfl rfl rfl (by omega) ?_
  refine gM trivial (.inl rfl) rfl rfl rfl ?_
  refine rg_nil nofun ?_
  exact lp_nextT ⟨j + 1,(by omega),rfl,rfl⟩ (by omega) (re_fold (ms:=[0,1,8,3]) (C:=3) (C':=3) (i:=2 * (j)) (a:=5) (b:=6) rfl ⟨⟨⟨rfl,rfl⟩,rfl⟩,⟨⟨rfl,rfl⟩,rfl⟩,⟨⟨rfl,rfl⟩,rfl⟩,⟨⟨rfl,rfl⟩,rfl⟩,trivial⟩ ⟨ktTab (k:=0) rfl rfl (.inr (.inl rfl)) id rfl rfl,ktIn rfl id rfl,ktTabC rfl (ap_x p10) (fun _=>ap_i p10) (fun i h h'=>ap_j p10 h h') (.inr (.inl rfl)) id rfl rfl,kPutC (fun i h h'=>ap_g p10 h h') (ap_ho p10) rfl rfl rfl (.inr ⟨.inl rfl,.inr ⟨by decide,by decide,by decide⟩,.inr ⟨by decide,by decide,by decide⟩⟩) (fun _=>⟨rfl,rfl,rfl⟩) rfl,trivial⟩ rfl rfl (rig_of rfl) rfl rfl)
 ·skip
  have p10:=of_decide_eq_false c10
  refine vc_exit ?_
  refine vc_seq ?_
  refine vc_region hm ?_
  refine gM trivial (.inl rfl) rfl rfl rfl ?_
  refine gM trivial (.inr rfl) rfl rfl rfl ?_
  refine rg_nil nofun ?_
  refine vc_ret ?_
  obtain rfl:j=T.length:=by omega
  rw [List.take_length]
  exact ⟨_,endsT [(2,2,one ⟨rHv (tabV 3 zo T),54,2⟩),(3,3,inF zo 33 77 T)] (.inr rfl) (.tmp rfl rfl .nil) rfl rfl trivial ⟨asTab rfl rfl rfl,asIn rfl,trivial⟩ rfl⟩
theorem spec_l4Put_c {T:List Ho} {who:Int} {h:Ho} (hT:T.length≤1048576) (hB:∀ h ∈ T,h.r.length≤1048576∧h.w.length≤1048576) (hr:h.r.length≤1048576) (hw:h.w.length≤1048576) (hwho:0≤who∧who<3) (hT3:T.length=3):FDoes Try.prog 57 [.slice (some ⟨0,0,none⟩) T.length 0,.int .i64 who,.agg #[.slice (some ⟨2,0,none⟩) h.r.length 0,.slice (some ⟨3,0,none⟩) h.w.length 0]] (hp [(0,false,one ⟨rHv (tabV 1 zo T),54,0⟩),(1,false,inF zo 33 0 T),(2,false,one ⟨rSp h.r,33,0⟩),(3,false,one ⟨rSp h.w,33,0⟩)]) (mkF (.tuple #[.slice (some ⟨4,0,none⟩) (repT T who h).length 0,.bool (lockOk (setH T who h))]) [0,1,2,3] [] [(4,one ⟨rHv (tabV 5 zo (repT T who h)),54,2⟩),(5,inF zo 33 77 (repT T who h))]):=by
 have hm:Try.prog.follows .mixedOrders=true:=by kernel_rfl
 have hd_:∀ x_ ∈ ([(0,false,one ⟨rHv (tabV 1 zo T),54,0⟩),(1,false,inF zo 33 0 T),(2,false,one ⟨rSp h.r,33,0⟩),(3,false,one ⟨rSp h.w,33,0⟩)]:List (Nat × Bool × Fam)),∀ k_ y_,x_.2.2 k_=some y_→DetB (lt 4) y_:=by
  intro x_ hx k_ y_ e
  simp only [List.mem_cons,List.not_mem_nil,or_false] at hx
  rcases hx with rfl|rfl|rfl|rfl
  ·exact det_tab (k0:=0) rfl e
  ·exact det_in e
  ·exact det_row (rSp_flat h.r) e
  ·exact det_row (rSp_flat h.w) e
 refine fn_exact (u0:=4) Try.func57 rfl rfl (gets rfl rfl rfl hd_ rfl) ?_
 clear hd_
 refine vc_seq ?_
 refine vc_region hm ?_
 refine gB (u':=5) trivial rfl rfl rfl rfl rfl rfl rfl rfl ?_
 refine gM trivial (.inr rfl) rfl rfl rfl ?_
 refine gM trivial (.inr rfl) rfl rfl rfl ?_
 refine rg_nil nofun ?_
 refine vc_seq ?_
 refine vc_region hm ?_
 refine gM trivial (.inl rfl) rfl rfl rfl ?_
 refine gCT (as':=[(5,one ⟨rHv (tabV 6 zo T),54,2⟩),(6,inF zo 33 77 T)]) (v':=.slice (some ⟨5,0,none⟩) T.length 0) 7 [nA (nm 0 (0)),nF 1,nF 5,nF 6] [0,1] (spec_l4Copy_c (T:=T) hT hB) trivial rfl rfl rfl rfl rfl ⟨aTab (k:=0) rfl rfl rfl rfl (.inl rfl) (.inl rfl) rfl rfl,aIn rfl rfl (.inl rfl) (.inl rfl) rfl,trivial⟩ ⟨rTab rfl rfl rfl,rIn rfl,trivial⟩ ⟨rfl,rfl⟩ rfl rfl rfl ?_
 refine gM trivial (.inr rfl) rfl rfl rfl ?_
 refine rg_nil nofun ?_
 refine vc_seq ?_
 refine vc_region hm ?_
 refine gM trivial (.inl rfl) rfl rfl rfl ?_
 refine gM trivial (.inl rfl) rfl rfl rfl ?_
 refine gL trivial rfl rfl rfl rfl rfl rfl rfl rfl ?_
 refine gX trivial rfl rfl rfl rfl rfl rfl rfl rfl (by omega) (by omega) tabV_ne ?_
 refine gT trivial rfl rfl rfl rfl rfl rfl rfl rfl rfl rfl (show 0 + who.toNat * 2 + 2≤_ from by rw [rowL_len (n:=2) (fun _=>rfl),tabV_len];omega) (tab_put (i:=who.toNat) (show 0 + who.toNat * 2=who.toNat * 2 by omega) (by rw [tabV_len];omega)) ?_
 refine rg_nil nofun ?_
 refine vc_seq ?_
 refine vc_seq ?_
 refine vc_region hm ?_
 refine gM trivial (.inl rfl) rfl rfl rfl ?_
 refine gCT0 [nA (nm 5 (0)),nX 6 (2 * who.toNat) 2 3] [5,6,2,3] (spec_LockOk_c (T:=(setH T who h)) (by rw [setH_len];exact hT) (setH_B hB ⟨hr,hw⟩)) trivial rfl rfl rfl (by rw [setH_len];rfl) rfl ⟨aTabX rfl rfl rfl rfl set_xl (fun q=>set_i hwho.1 q) (fun j q q'=>set_j q q') (.inl rfl) (.inl rfl) rfl rfl,aInX rfl rfl rfl rfl (fun j q _=>set_g q) (set_at (by omega)) rfl,trivial⟩ rfl rfl rfl rfl ?_
 refine gN trivial rfl rfl rfl rfl ?_
 refine rg_nil nofun ?_
 refine cI rfl (fun c17=>?_) (fun c17=>?_)
 ·skip
  have n17:=unT c17
  refine vc_seq ?_
  refine vc_region hm ?_
  refine gM trivial (.inl rfl) rfl rfl rfl ?_
  refine gCT (as':=[(7,one ⟨rHv (tabV 8 zo T),54,2⟩),(8,inF zo 33 77 T)]) (v':=.slice (some ⟨7,0,none⟩) T.length 0) 9 [nA (nm 0 (0)),nF 1,nF 7,nF 8] [0,1] (spec_l4Copy_c (T:=T) hT hB) trivial rfl rfl rfl rfl rfl ⟨aTab (k:=0) rfl rfl rfl rfl (.inl rfl) (.inl rfl) rfl rfl,aIn rfl rfl (.inl rfl) (.inl rfl) rfl,trivial⟩ ⟨rTab rfl rfl rfl,rIn rfl,trivial⟩ ⟨rfl,rfl⟩ rfl rfl rfl ?_
  refine gM trivial (.inr rfl) rfl rfl rfl ?_
  refine gM trivial (.inr rfl) rfl rfl rfl ?_
  refine rg_nil nofun ?_
  refine vc_ret ?_
  rw [repT_F n17,n17]
  exact ⟨_,endsT [(4,7,one ⟨rHv (tabV 5 zo T),54,2⟩),(5,8,inF zo 33 77 T)] (.inr rfl) (.tmp rfl rfl (.tmp rfl rfl .nil)) rfl rfl trivial ⟨asTab rfl rfl rfl,asIn rfl,trivial⟩ rfl⟩
 ·skip
  have n17:=unF c17
  refine vc_skip ?_
  refine vc_seq ?_
  refine vc_region hm ?_
  refine gM trivial (.inl rfl) rfl rfl rfl ?_
  refine gCT (as':=[(7,one ⟨rHv (tabV 8 zo (setH T who h)),54,2⟩),(8,inF zo 33 77 (setH T who h))]) (v':=.slice (some ⟨7,0,none⟩) (setH T who h).length 0) 9 [nA (nm 5 (0)),nX 6 (2 * who.toNat) 2 3,nF 7,nF 8] [5,6,2,3] (spec_l4Copy_c (T:=(setH T who h)) (by rw [setH_len];exact hT) (setH_B hB ⟨hr,hw⟩)) trivial rfl rfl rfl (by rw [setH_len];rfl) rfl ⟨aTabX rfl rfl rfl rfl set_xl (fun q=>set_i hwho.1 q) (fun j q q'=>set_j q q') (.inl rfl) (.inl rfl) rfl rfl,aInX rfl rfl rfl rfl (fun j q _=>set_g q) (set_at (by omega)) rfl,trivial⟩ ⟨rTab rfl rfl rfl,rIn rfl,trivial⟩ ⟨rfl,rfl⟩ rfl rfl rfl ?_
  refine gM trivial (.inr rfl) rfl rfl rfl ?_
  refine gM trivial (.inr rfl) rfl rfl rfl ?_
  refine rg_nil nofun ?_
  refine vc_ret ?_
  rw [repT_T n17,n17]
  exact ⟨_,endsT [(4,7,one ⟨rHv (tabV 5 zo (setH T who h)),54,2⟩),(5,8,inF zo 33 77 (setH T who h))] (.inr rfl) (.tmp rfl rfl (.tmp rfl rfl .nil)) rfl rfl trivial ⟨asTab rfl rfl rfl,asIn rfl,trivial⟩ rfl⟩
theorem spec_l4Who_c (who:Int):FDoes Try.prog 49 [.int .i64 who] (hp []) { v:=.bool (whoOk who) }:=by
 have hm:Try.prog.follows .mixedOrders=true:=by kernel_rfl
 have hd_:∀ x ∈ ([]:List (Nat × Bool × Fam)),∀ k y,x.2.2 k=some y→DetB (lt 0) y:=fun x_ hx=>(by cases hx)
 refine fn_exact (u0:=0) Try.func49 rfl rfl (gets rfl rfl rfl hd_ rfl) ?_
 clear hd_
 refine vc_seq ?_
 refine vc_region hm ?_
 refine gM trivial (.inr rfl) rfl rfl rfl ?_
 refine rg_nil nofun ?_
 refine vc_seq ?_
 refine vc_region hm ?_
 refine gM trivial (.inl rfl) rfl rfl rfl ?_
 refine gI trivial rfl rfl rfl rfl rfl rfl ?_
 refine gM trivial (.inl rfl) rfl rfl rfl ?_
 refine gI2 (d:=5) rfl (fun c5=>?_) (fun c5=>?_)
 ·skip
  have p5:=of_decide_eq_true c5
  refine gM ⟨_,_,rfl,rfl,c5⟩ (.inl rfl) rfl rfl rfl ?_
  refine gI ⟨_,_,rfl,rfl,c5⟩ rfl rfl rfl rfl rfl rfl ?_
  refine gPT trivial rfl rfl c5 rfl rfl rfl ?_
  refine gM trivial (.inr rfl) rfl rfl rfl ?_
  refine rg_nil nofun ?_
  refine vc_ret ?_
  exact ⟨idm,ends0 (.inr rfl) rfl (eqB (by unfold whoOk;first|exact decide_eq_true (by omega)|exact decide_eq_false (by omega)|exact decide_eq_decide.2 (by omega))) rfl rfl rfl⟩
 ·skip
  have p5:=of_decide_eq_false c5
  refine gO ⟨_,_,rfl,rfl,c5⟩ rfl rfl ?_
  refine gO ⟨_,_,rfl,rfl,c5⟩ rfl rfl ?_
  refine gPF trivial rfl rfl c5 rfl rfl rfl ?_
  refine gM trivial (.inr rfl) rfl rfl rfl ?_
  refine rg_nil nofun ?_
  refine vc_ret ?_
  exact ⟨idm,ends0 (.inr rfl) rfl (eqB (by unfold whoOk;first|exact decide_eq_true (by omega)|exact decide_eq_false (by omega)|exact decide_eq_decide.2 (by omega))) rfl rfl rfl⟩
theorem client_c (who:Int):FDoes Try.prog 52 [.int .i64 who] (hp []) { v:=.bool (whoOk who) }:=by
 have hm:Try.prog.follows .mixedOrders=true:=by kernel_rfl
 have hd_:∀ x ∈ ([]:List (Nat × Bool × Fam)),∀ k y,x.2.2 k=some y→DetB (lt 0) y:=fun x_ hx=>(by cases hx)
 refine fn_exact (u0:=0) Try.func52 rfl rfl (gets rfl rfl rfl hd_ rfl) ?_
 clear hd_
 refine vc_seq ?_
 refine vc_region hm ?_
 refine gM trivial (.inr rfl) rfl rfl rfl ?_
 refine rg_nil nofun ?_
 refine vc_seq ?_
 refine vc_region hm ?_
 refine gM trivial (.inl rfl) rfl rfl rfl ?_
 refine gI trivial rfl rfl rfl rfl rfl rfl ?_
 refine gM trivial (.inl rfl) rfl rfl rfl ?_
 refine gI2 (d:=5) rfl (fun c5=>?_) (fun c5=>?_)
 ·skip
  have p5:=of_decide_eq_true c5
  refine gM ⟨_,_,rfl,rfl,c5⟩ (.inl rfl) rfl rfl rfl ?_
  refine gI ⟨_,_,rfl,rfl,c5⟩ rfl rfl rfl rfl rfl rfl ?_
  refine gPT trivial rfl rfl c5 rfl rfl rfl ?_
  refine gM trivial (.inr rfl) rfl rfl rfl ?_
  refine rg_nil nofun ?_
  refine vc_ret ?_
  exact ⟨idm,ends0 (.inr rfl) rfl (eqB (by unfold whoOk;first|exact decide_eq_true (by omega)|exact decide_eq_false (by omega)|exact decide_eq_decide.2 (by omega))) rfl rfl rfl⟩
 ·skip
  have p5:=of_decide_eq_false c5
  refine gO ⟨_,_,rfl,rfl,c5⟩ rfl rfl ?_
  refine gO ⟨_,_,rfl,rfl,c5⟩ rfl rfl ?_
  refine gPF trivial rfl rfl c5 rfl rfl rfl ?_
  refine gM trivial (.inr rfl) rfl rfl rfl ?_
  refine rg_nil nofun ?_
  refine vc_ret ?_
  exact ⟨idm,ends0 (.inr rfl) rfl (eqB (by unfold whoOk;first|exact decide_eq_true (by omega)|exact decide_eq_false (by omega)|exact decide_eq_decide.2 (by omega))) rfl rfl rfl⟩
theorem spec_l4Bars_c {T:List Ho} {who:Int} {write:Bool} {s:Sp} (hT:T.length≤1048576) (hB:∀ h ∈ T,h.r.length≤1048576∧h.w.length≤1048576):FDoes Try.prog 54 [.slice (some ⟨0,0,none⟩) T.length 0,.int .i64 who,.bool write,vSp s] (hp [(0,false,one ⟨rHv (tabV 1 zo T),54,0⟩),(1,false,inF zo 33 0 T)]) (mkF (.slice (some ⟨2,0,none⟩) (barsL T who write s T.length).length 0) [0,1] [] [(2,one ⟨rI (barsL T who write s T.length),3,1⟩)]):=by
 have hm:Try.prog.follows .mixedOrders=true:=by kernel_rfl
 have hd_:∀ x_ ∈ ([(0,false,one ⟨rHv (tabV 1 zo T),54,0⟩),(1,false,inF zo 33 0 T)]:List (Nat × Bool × Fam)),∀ k_ y_,x_.2.2 k_=some y_→DetB (lt 2) y_:=by
  intro x_ hx k_ y_ e
  simp only [List.mem_cons,List.not_mem_nil,or_false] at hx
  rcases hx with rfl|rfl
  ·exact det_tab (k0:=0) rfl e
  ·exact det_in e
 refine fn_exact (u0:=2) Try.func54 rfl rfl (gets rfl rfl rfl hd_ rfl) ?_
 clear hd_
 refine vc_seq ?_
 refine vc_region hm ?_
 refine gB (u':=3) trivial rfl rfl rfl rfl rfl rfl rfl rfl ?_
 refine gM trivial (.inr rfl) rfl rfl rfl ?_
 refine rg_nil nofun ?_
 refine vc_seq ?_
 refine vc_region hm ?_
 refine gR (u':=4) trivial rfl rfl rfl rfl rfl rfl rfl rfl rfl rfl rfl rfl rfl rfl ?_
 refine gM trivial (.inr rfl) rfl rfl rfl ?_
 refine rg_nil nofun ?_
 refine vc_seq ?_
 refine vc_region hm ?_
 refine gL trivial rfl rfl rfl rfl rfl rfl rfl rfl ?_
 refine gR (u':=5) (out:=rSp [s]) trivial rfl rfl rfl rfl rfl rfl rfl rfl rfl rfl rfl rfl rfl rfl ?_
 refine gM trivial (.inr rfl) rfl rfl rfl ?_
 refine rg_nil nofun ?_
 refine vc_seq ?_
 refine vc_seq ?_
 refine vc_region hm ?_
 refine gM trivial (.inr rfl) rfl rfl rfl ?_
 refine rg_nil nofun ?_
 refine vc_block ?_
 refine vc_loopT (fun n_ S_=>∃ (j:Nat),j≤T.length∧n_=T.length - j∧S_=⟨5,[(0,.slice (some ⟨0,0,none⟩) T.length 0),(1,.int .i64 who),(2,.bool write),(7,.pointer (some ⟨2,0,none⟩)),(9,.slice (some ⟨3,0,none⟩) (barsL T who write s j).length 0),(10,.slice (some ⟨4,0,none⟩) 1 0),(11,.int .i64 j)],[(0,false,one ⟨rHv (tabV 1 zo T),54,0⟩),(1,false,inF zo 33 0 T),(2,true,one ⟨[.int .i64 s.lo,.int .i64 s.hi],33,2⟩),(3,true,one ⟨rI (barsL T who write s j),3,1⟩),(4,true,one ⟨rSp [s],33,2⟩)]⟩) ⟨0,Nat.zero_le _,rfl,rfl⟩ (re_nil (ms:=[0,1,2,3,4]) (C:=999) rfl ⟨⟨⟨rfl,rfl⟩,rfl⟩,⟨⟨rfl,rfl⟩,rfl⟩,⟨⟨rfl,rfl⟩,rfl⟩,⟨⟨rfl,rfl⟩,rfl⟩,⟨⟨rfl,rfl⟩,rfl⟩,⟨⟨rfl,rfl⟩,rfl⟩,⟨⟨rfl,rfl⟩,rfl⟩,trivial⟩ ⟨ktTab (k:=0) rfl rfl (.inr (.inl rfl)) id rfl rfl,ktIn rfl id rfl,ktFlat rfl rfl (.inr (.inl rfl)) id rfl,ktFlat rfl rfl (.inr (.inl rfl)) id rfl,ktFlat (rSp_flat _) rfl (.inr (.inl rfl)) id rfl,trivial⟩ rfl rfl (rig_of rfl) rfl) ?_
 rintro n_ S_ ⟨j,hj,rfl,rfl⟩
 refine vc_seq ?_
 refine vc_seq ?_
 refine vc_region hm ?_
 refine gM trivial (.inl rfl) rfl rfl rfl ?_
 refine gM trivial (.inl rfl) rfl rfl rfl ?_
 refine gK trivial rfl rfl rfl rfl rfl rfl tabV_nil ?_
 refine gI trivial rfl rfl rfl rfl rfl rfl ?_
 refine rg_nil nofun ?_
 refine cI rfl (fun c18=>?_) (fun c18=>?_)
 ·skip
  have p18:=of_decide_eq_true c18
  refine vc_skip ?_
  refine vc_seq ?_
  refine vc_block ?_
  refine vc_seq ?_
  refine vc_region hm ?_
  refine gM trivial (.inl rfl) rfl rfl rfl ?_
  refine gM trivial (.inl rfl) rfl rfl rfl ?_
  refine gI trivial rfl rfl rfl rfl rfl rfl ?_
  refine gM trivial (.inl rfl) rfl rfl rfl ?_
  refine gI2 (d:=24) rfl (fun c24=>?_) (fun c24=>?_)
  ·skip
   have p24:=bne_iff_ne.1 c24
   refine gM ⟨_,_,rfl,rfl,c24⟩ (.inl rfl) rfl rfl rfl ?_
   refine gM ⟨_,_,rfl,rfl,c24⟩ (.inl rfl) rfl rfl rfl ?_
   refine gX ⟨_,_,rfl,rfl,c24⟩ rfl rfl rfl rfl rfl rfl rfl rfl (by omega) p18 tabV_ne ?_
   refine gF ⟨_,_,rfl,rfl,c24⟩ rfl rfl rfl rfl rfl ?_
   refine gL ⟨_,_,rfl,rfl,c24⟩ rfl rfl rfl rfl rfl rfl rfl (lH1 (by omega) p18) ?_
   refine gM ⟨_,_,rfl,rfl,c24⟩ (.inl rfl) rfl rfl rfl ?_
   refine gCT0 [nA (nm 1 (2 * ((j:Int)).toNat + 1)),nA (nm 4 (0))] [1,4] (spec_l4Clear_c (a:=(at_ T (j:Int)).w) (b:=[s]) (hB _ (at_mem (by omega) p18)).2 (show 1≤1048576 by decide)) ⟨_,_,rfl,rfl,c24⟩ rfl rfl rfl rfl rfl ⟨aRow rfl (rSp_flat _) rfl (inF_1 (by omega) p18) (.inl rfl) (.inl rfl) rfl,aRow rfl (rSp_flat [s]) rfl rfl (.inl rfl) (.inl rfl) rfl,trivial⟩ rfl rfl rfl rfl ?_
   refine gN ⟨_,_,rfl,rfl,c24⟩ rfl rfl rfl rfl ?_
   refine gM ⟨_,_,rfl,rfl,c24⟩ (.inl rfl) rfl rfl rfl ?_
   refine gI2 (d:=33) rfl (fun c33=>?_) (fun c33=>?_)
   ·skip
    have n33:=unT c33
    refine gO ⟨_,_,rfl,rfl,c33⟩ rfl rfl ?_
    refine gO ⟨_,_,rfl,rfl,c33⟩ rfl rfl ?_
    refine gO ⟨_,_,rfl,rfl,trivial⟩ rfl rfl ?_
    refine gO ⟨_,_,rfl,rfl,trivial⟩ rfl rfl ?_
    refine gO ⟨_,_,rfl,rfl,trivial⟩ rfl rfl ?_
    refine gO ⟨_,_,rfl,rfl,trivial⟩ rfl rfl ?_
    refine gO ⟨_,_,rfl,rfl,trivial⟩ rfl rfl ?_
    refine gO ⟨_,_,rfl,rfl,trivial⟩ rfl rfl ?_
    refine gO ⟨_,_,rfl,rfl,trivial⟩ rfl rfl ?_
    refine gO ⟨_,_,rfl,rfl,trivial⟩ rfl rfl ?_
    refine gO ⟨_,_,rfl,rfl,c33⟩ rfl rfl ?_
    refine gPT ⟨_,_,rfl,rfl,c24⟩ rfl rfl c33 rfl rfl rfl ?_
    refine gPT trivial rfl rfl c24 rfl rfl rfl ?_
    refine rg_nil nofun ?_
    refine cT rfl rfl ?_
    refine vc_region hm ?_
    refine gM trivial (.inl rfl) rfl rfl rfl ?_
    refine gM trivial (.inl rfl) rfl rfl rfl ?_
    refine gR (u':=6) (out:=rI [(j:Int)]) trivial rfl rfl rfl rfl rfl rfl rfl rfl rfl rfl rfl rfl rfl rfl ?_
    refine gAp (u':=7) trivial rfl rfl rfl rfl rfl rfl rfl rfl rfl rfl rfl rfl (by rw [rowL_len (n:=1) (fun _=>rfl)]) (Nat.le_refl _) rfl (show ((barsL T who write s j).length + 1) * (8 + 1)≤140737488355328 by have:=bars_len (T:=T) (who:=who) (write:=write) (s:=s) j;omega) (row_snoc (enc:=eI) (x:=(j:Int))) rfl ?_
    refine gM trivial (.inr rfl) rfl rfl rfl ?_
    refine rg_nil nofun ?_
    refine vc_region hm ?_
    refine gM trivial (.inl rfl) rfl rfl rfl ?_
    refine gA trivial rfl rfl rfl rfl rfl rfl (by omega) ?_
    refine gM trivial (.inr rfl) rfl rfl rfl ?_
    refine rg_nil nofun ?_
    exact lp_nextT ⟨j + 1,(by omega),rfl,rfl⟩ (by omega) (re_nil (ms:=[0,1,2,6,4]) (C:=999) rfl ⟨⟨⟨rfl,rfl⟩,rfl⟩,⟨⟨rfl,rfl⟩,rfl⟩,⟨⟨rfl,rfl⟩,rfl⟩,⟨⟨rfl,rfl⟩,rfl⟩,⟨⟨rfl,eqSl (by rw [← bars_T (barS_2 p24 n33)];simp)⟩,rfl⟩,⟨⟨rfl,rfl⟩,rfl⟩,⟨⟨rfl,rfl⟩,rfl⟩,trivial⟩ ⟨ktTab (k:=0) rfl rfl (.inr (.inl rfl)) id rfl rfl,ktIn rfl id rfl,ktFlat rfl rfl (.inr (.inl rfl)) id rfl,ktFlat (rI_flat _) (eqH (congrArg rI (bars_T (barS_2 p24 n33)))) (.inr (.inl rfl)) id rfl,ktFlat (rSp_flat _) rfl (.inr (.inl rfl)) id rfl,trivial⟩ rfl rfl (rig_of rfl) rfl)
   ·skip
    have n33:=unF c33
    refine gM ⟨_,_,rfl,rfl,c33⟩ (.inl rfl) rfl rfl rfl ?_
    refine gM ⟨_,_,rfl,rfl,c33⟩ (.inl rfl) rfl rfl rfl ?_
    refine gI2 (d:=35) rfl (fun c35=>?_) (fun c35=>?_)
    ·skip
     refine gM ⟨_,_,rfl,rfl,c35⟩ (.inl rfl) rfl rfl rfl ?_
     refine gM ⟨_,_,rfl,rfl,c35⟩ (.inl rfl) rfl rfl rfl ?_
     refine gX ⟨_,_,rfl,rfl,c35⟩ rfl rfl rfl rfl rfl rfl rfl rfl (by omega) p18 tabV_ne ?_
     refine gF ⟨_,_,rfl,rfl,c35⟩ rfl rfl rfl rfl rfl ?_
     refine gL ⟨_,_,rfl,rfl,c35⟩ rfl rfl rfl rfl rfl rfl rfl (lH0 (by omega) p18) ?_
     refine gM ⟨_,_,rfl,rfl,c35⟩ (.inl rfl) rfl rfl rfl ?_
     refine gCT0 [nA (nm 1 (2 * ((j:Int)).toNat)),nA (nm 4 (0))] [1,4] (spec_l4Clear_c (a:=(at_ T (j:Int)).r) (b:=[s]) (hB _ (at_mem (by omega) p18)).1 (show 1≤1048576 by decide)) ⟨_,_,rfl,rfl,c35⟩ rfl rfl rfl rfl rfl ⟨aRow rfl (rSp_flat _) rfl (inF_0 (by omega) p18) (.inl rfl) (.inl rfl) rfl,aRow rfl (rSp_flat [s]) rfl rfl (.inl rfl) (.inl rfl) rfl,trivial⟩ rfl rfl rfl rfl ?_
     refine gN ⟨_,_,rfl,rfl,c35⟩ rfl rfl rfl rfl ?_
     refine gPT ⟨_,_,rfl,rfl,c33⟩ rfl rfl c35 rfl rfl rfl ?_
     refine gPF ⟨_,_,rfl,rfl,c24⟩ rfl rfl c33 rfl rfl rfl ?_
     refine gPT trivial rfl rfl c24 rfl rfl rfl ?_
     refine rg_nil nofun ?_
     refine cI rfl (fun c46=>?_) (fun c46=>?_)
     ·skip
      have n46:=unT c46
      refine vc_region hm ?_
      refine gM trivial (.inl rfl) rfl rfl rfl ?_
      refine gM trivial (.inl rfl) rfl rfl rfl ?_
      refine gR (u':=6) (out:=rI [(j:Int)]) trivial rfl rfl rfl rfl rfl rfl rfl rfl rfl rfl rfl rfl rfl rfl ?_
      refine gAp (u':=7) trivial rfl rfl rfl rfl rfl rfl rfl rfl rfl rfl rfl rfl (by rw [rowL_len (n:=1) (fun _=>rfl)]) (Nat.le_refl _) rfl (show ((barsL T who write s j).length + 1) * (8 + 1)≤140737488355328 by have:=bars_len (T:=T) (who:=who) (write:=write) (s:=s) j;omega) (row_snoc (enc:=eI) (x:=(j:Int))) rfl ?_
      refine gM trivial (.inr rfl) rfl rfl rfl ?_
      refine rg_nil nofun ?_
      refine vc_region hm ?_
      refine gM trivial (.inl rfl) rfl rfl rfl ?_
      refine gA trivial rfl rfl rfl rfl rfl rfl (by omega) ?_
      refine gM trivial (.inr rfl) rfl rfl rfl ?_
      refine rg_nil nofun ?_
      exact lp_nextT ⟨j + 1,(by omega),rfl,rfl⟩ (by omega) (re_nil (ms:=[0,1,2,6,4]) (C:=999) rfl ⟨⟨⟨rfl,rfl⟩,rfl⟩,⟨⟨rfl,rfl⟩,rfl⟩,⟨⟨rfl,rfl⟩,rfl⟩,⟨⟨rfl,rfl⟩,rfl⟩,⟨⟨rfl,eqSl (by rw [← bars_T (barS_4 p24 c35 n46)];simp)⟩,rfl⟩,⟨⟨rfl,rfl⟩,rfl⟩,⟨⟨rfl,rfl⟩,rfl⟩,trivial⟩ ⟨ktTab (k:=0) rfl rfl (.inr (.inl rfl)) id rfl rfl,ktIn rfl id rfl,ktFlat rfl rfl (.inr (.inl rfl)) id rfl,ktFlat (rI_flat _) (eqH (congrArg rI (bars_T (barS_4 p24 c35 n46)))) (.inr (.inl rfl)) id rfl,ktFlat (rSp_flat _) rfl (.inr (.inl rfl)) id rfl,trivial⟩ rfl rfl (rig_of rfl) rfl)
     ·skip
      have n46:=unF c46
      refine vc_skip ?_
      refine vc_region hm ?_
      refine gM trivial (.inl rfl) rfl rfl rfl ?_
      refine gA trivial rfl rfl rfl rfl rfl rfl (by omega) ?_
      refine gM trivial (.inr rfl) rfl rfl rfl ?_
      refine rg_nil nofun ?_
      exact lp_nextT ⟨j + 1,(by omega),rfl,rfl⟩ (by omega) (re_nil (ms:=[0,1,2,3,4]) (C:=999) rfl ⟨⟨⟨rfl,rfl⟩,rfl⟩,⟨⟨rfl,rfl⟩,rfl⟩,⟨⟨rfl,rfl⟩,rfl⟩,⟨⟨rfl,rfl⟩,rfl⟩,⟨⟨rfl,eqSl (by rw [← bars_F (barS_5 n33 n46)])⟩,rfl⟩,⟨⟨rfl,rfl⟩,rfl⟩,⟨⟨rfl,rfl⟩,rfl⟩,trivial⟩ ⟨ktTab (k:=0) rfl rfl (.inr (.inl rfl)) id rfl rfl,ktIn rfl id rfl,ktFlat rfl rfl (.inr (.inl rfl)) id rfl,ktFlat (rI_flat _) (eqH (congrArg rI (bars_F (barS_5 n33 n46)))) (.inr (.inl rfl)) id rfl,ktFlat (rSp_flat _) rfl (.inr (.inl rfl)) id rfl,trivial⟩ rfl rfl (rig_of rfl) rfl)
    ·skip
     refine gO ⟨_,_,rfl,rfl,c35⟩ rfl rfl ?_
     refine gO ⟨_,_,rfl,rfl,c35⟩ rfl rfl ?_
     refine gO ⟨_,_,rfl,rfl,c35⟩ rfl rfl ?_
     refine gO ⟨_,_,rfl,rfl,c35⟩ rfl rfl ?_
     refine gO ⟨_,_,rfl,rfl,c35⟩ rfl rfl ?_
     refine gO ⟨_,_,rfl,rfl,c35⟩ rfl rfl ?_
     refine gO ⟨_,_,rfl,rfl,c35⟩ rfl rfl ?_
     refine gO ⟨_,_,rfl,rfl,c35⟩ rfl rfl ?_
     refine gPF ⟨_,_,rfl,rfl,c33⟩ rfl rfl c35 rfl rfl rfl ?_
     refine gPF ⟨_,_,rfl,rfl,c24⟩ rfl rfl c33 rfl rfl rfl ?_
     refine gPT trivial rfl rfl c24 rfl rfl rfl ?_
     refine rg_nil nofun ?_
     refine cF rfl rfl ?_
     refine vc_skip ?_
     refine vc_region hm ?_
     refine gM trivial (.inl rfl) rfl rfl rfl ?_
     refine gA trivial rfl rfl rfl rfl rfl rfl (by omega) ?_
     refine gM trivial (.inr rfl) rfl rfl rfl ?_
     refine rg_nil nofun ?_
     exact lp_nextT ⟨j + 1,(by omega),rfl,rfl⟩ (by omega) (re_nil (ms:=[0,1,2,3,4]) (C:=999) rfl ⟨⟨⟨rfl,rfl⟩,rfl⟩,⟨⟨rfl,rfl⟩,rfl⟩,⟨⟨rfl,rfl⟩,rfl⟩,⟨⟨rfl,rfl⟩,rfl⟩,⟨⟨rfl,eqSl (by rw [← bars_F (barS_3 n33 c35)])⟩,rfl⟩,⟨⟨rfl,rfl⟩,rfl⟩,⟨⟨rfl,rfl⟩,rfl⟩,trivial⟩ ⟨ktTab (k:=0) rfl rfl (.inr (.inl rfl)) id rfl rfl,ktIn rfl id rfl,ktFlat rfl rfl (.inr (.inl rfl)) id rfl,ktFlat (rI_flat _) (eqH (congrArg rI (bars_F (barS_3 n33 c35)))) (.inr (.inl rfl)) id rfl,ktFlat (rSp_flat _) rfl (.inr (.inl rfl)) id rfl,trivial⟩ rfl rfl (rig_of rfl) rfl)
  ·skip
   have p24:=bne_eq_false_iff_eq.1 c24
   refine gO ⟨_,_,rfl,rfl,c24⟩ rfl rfl ?_
   refine gO ⟨_,_,rfl,rfl,c24⟩ rfl rfl ?_
   refine gO ⟨_,_,rfl,rfl,c24⟩ rfl rfl ?_
   refine gO ⟨_,_,rfl,rfl,c24⟩ rfl rfl ?_
   refine gO ⟨_,_,rfl,rfl,c24⟩ rfl rfl ?_
   refine gO ⟨_,_,rfl,rfl,c24⟩ rfl rfl ?_
   refine gO ⟨_,_,rfl,rfl,c24⟩ rfl rfl ?_
   refine gO ⟨_,_,rfl,rfl,c24⟩ rfl rfl ?_
   refine gO ⟨_,_,rfl,rfl,c24⟩ rfl rfl ?_
   refine gO ⟨_,_,rfl,rfl,trivial⟩ rfl rfl ?_
   refine gO ⟨_,_,rfl,rfl,trivial⟩ rfl rfl ?_
   refine gO ⟨_,_,rfl,rfl,trivial⟩ rfl rfl ?_
   refine gO ⟨_,_,rfl,rfl,trivial⟩ rfl rfl ?_
   refine gO ⟨_,_,rfl,rfl,trivial⟩ rfl rfl ?_
   refine gO ⟨_,_,rfl,rfl,trivial⟩ rfl rfl ?_
   refine gO ⟨_,_,rfl,rfl,trivial⟩ rfl rfl ?_
   refine gO ⟨_,_,rfl,rfl,trivial⟩ rfl rfl ?_
   refine gO ⟨_,_,rfl,rfl,trivial⟩ rfl rfl ?_
   refine gO ⟨_,_,rfl,rfl,trivial⟩ rfl rfl ?_
   refine gO ⟨_,_,rfl,rfl,trivial⟩ rfl rfl ?_
   refine gO ⟨_,_,rfl,rfl,c24⟩ rfl rfl ?_
   refine gPF trivial rfl rfl c24 rfl rfl rfl ?_
   refine rg_nil nofun ?_
   refine cF rfl rfl ?_
   refine vc_skip ?_
   refine vc_region hm ?_
   refine gM trivial (.inl rfl) rfl rfl rfl ?_
   refine gA trivial rfl rfl rfl rfl rfl rfl (by omega) ?_
   refine gM trivial (.inr rfl) rfl rfl rfl ?_
   refine rg_nil nofun ?_
   exact lp_nextT ⟨j + 1,(by omega),rfl,rfl⟩ (by omega) (re_nil (ms:=[0,1,2,3,4]) (C:=999) rfl ⟨⟨⟨rfl,rfl⟩,rfl⟩,⟨⟨rfl,rfl⟩,rfl⟩,⟨⟨rfl,rfl⟩,rfl⟩,⟨⟨rfl,rfl⟩,rfl⟩,⟨⟨rfl,eqSl (by rw [← bars_F (barS_1 p24)])⟩,rfl⟩,⟨⟨rfl,rfl⟩,rfl⟩,⟨⟨rfl,rfl⟩,rfl⟩,trivial⟩ ⟨ktTab (k:=0) rfl rfl (.inr (.inl rfl)) id rfl rfl,ktIn rfl id rfl,ktFlat rfl rfl (.inr (.inl rfl)) id rfl,ktFlat (rI_flat _) (eqH (congrArg rI (bars_F (barS_1 p24)))) (.inr (.inl rfl)) id rfl,ktFlat (rSp_flat _) rfl (.inr (.inl rfl)) id rfl,trivial⟩ rfl rfl (rig_of rfl) rfl)
 ·skip
  have p18:=of_decide_eq_false c18
  refine vc_exit ?_
  refine vc_seq ?_
  refine vc_region hm ?_
  refine gM trivial (.inl rfl) rfl rfl rfl ?_
  refine gM trivial (.inr rfl) rfl rfl rfl ?_
  refine rg_nil nofun ?_
  refine vc_ret ?_
  obtain rfl:j=T.length:=by omega
  exact ⟨_,endsT [(2,3,one ⟨rI (barsL T who write s T.length),3,1⟩)] (.inr rfl) (.tmp rfl rfl .nil) rfl rfl trivial ⟨asFlat rfl (rI_flat _),trivial⟩ rfl⟩
theorem impl_LockBars_c {T:List Ho} {who:Int} {write:Bool} {s:Sp} (hT:T.length≤1048576) (hB:∀ h ∈ T,h.r.length≤1048576∧h.w.length≤1048576):FDoes Try.prog 22 [.slice (some ⟨0,0,none⟩) T.length 0,.int .i64 who,.bool write,vSp s] (hp [(0,false,one ⟨rHv (tabV 1 zo T),54,0⟩),(1,false,inF zo 33 0 T)]) (mkF (.slice (some ⟨2,0,none⟩) (lockBars T who write s).length 0) [0,1] [] [(2,one ⟨rI (lockBars T who write s),3,1⟩)]):=by
 have hm:Try.prog.follows .mixedOrders=true:=by kernel_rfl
 have hd_:∀ x_ ∈ ([(0,false,one ⟨rHv (tabV 1 zo T),54,0⟩),(1,false,inF zo 33 0 T)]:List (Nat × Bool × Fam)),∀ k_ y_,x_.2.2 k_=some y_→DetB (lt 2) y_:=by
  intro x_ hx k_ y_ e
  simp only [List.mem_cons,List.not_mem_nil,or_false] at hx
  rcases hx with rfl|rfl
  ·exact det_tab (k0:=0) rfl e
  ·exact det_in e
 refine fn_exact (u0:=2) Try.func22 rfl rfl (gets rfl rfl rfl hd_ rfl) ?_
 clear hd_
 refine vc_seq ?_
 refine vc_region hm ?_
 refine gB (u':=3) trivial rfl rfl rfl rfl rfl rfl rfl rfl ?_
 refine gM trivial (.inr rfl) rfl rfl rfl ?_
 refine rg_nil nofun ?_
 refine vc_seq ?_
 refine vc_seq ?_
 refine vc_region hm ?_
 refine gM trivial (.inl rfl) rfl rfl rfl ?_
 refine gCT0 [nA (nm 0 (0)),nF 1] [0,1] (impl_LockOk_c (T:=T) hT hB) trivial rfl rfl rfl rfl rfl ⟨aTab (k:=0) rfl rfl rfl rfl (.inl rfl) (.inl rfl) rfl rfl,aIn rfl rfl (.inl rfl) (.inl rfl) rfl,trivial⟩ rfl rfl rfl rfl ?_
 refine gN trivial rfl rfl rfl rfl ?_
 refine gM trivial (.inl rfl) rfl rfl rfl ?_
 refine gI2 (d:=16) rfl (fun c16=>?_) (fun c16=>?_)
 ·skip
  have n16:=unT c16
  refine gO ⟨_,_,rfl,rfl,c16⟩ rfl rfl ?_
  refine gO ⟨_,_,rfl,rfl,c16⟩ rfl rfl ?_
  refine gO ⟨_,_,rfl,rfl,c16⟩ rfl rfl ?_
  refine gPT trivial rfl rfl c16 rfl rfl rfl ?_
  refine gM trivial (.inl rfl) rfl rfl rfl ?_
  refine gO ⟨_,_,rfl,rfl,rfl⟩ rfl rfl ?_
  refine gO ⟨_,_,rfl,rfl,rfl⟩ rfl rfl ?_
  refine gO ⟨_,_,rfl,rfl,rfl⟩ rfl rfl ?_
  refine gPT trivial rfl rfl rfl rfl rfl rfl ?_
  refine rg_nil nofun ?_
  refine cT rfl rfl ?_
  refine vc_seq ?_
  refine vc_region hm ?_
  refine gM trivial (.inr rfl) rfl rfl rfl ?_
  refine rg_nil nofun ?_
  refine vc_re (S2:=⟨4,[(8,.slice (some ⟨3,0,none⟩) 0 0)],[(0,false,one ⟨rHv (tabV 1 zo T),54,0⟩),(1,false,inF zo 33 0 T),(3,true,one ⟨[],3,1⟩)]⟩) (re_nil (ms:=[0,1]) (C:=3) rfl ⟨⟨⟨rfl,rfl⟩,rfl⟩,trivial⟩ ⟨ktTab (k:=0) rfl rfl (.inr (.inl rfl)) id rfl rfl,ktIn rfl id rfl,ktC1 rfl (by decide) rfl,trivial⟩ rfl rfl (rig_of rfl) rfl) ?_
  refine vc_ret ?_
  rw [(lb_no (by first|exact .inl (by assumption)|exact .inr (.inl (by assumption))|exact .inr (.inr (by assumption))))]
  exact ⟨_,endsT [(2,3,one ⟨[],3,1⟩)] (.inr rfl) (.tmp rfl rfl .nil) rfl rfl trivial ⟨asFlat rfl rfl,trivial⟩ rfl⟩
 ·skip
  have n16:=unF c16
  refine gM ⟨_,_,rfl,rfl,c16⟩ (.inl rfl) rfl rfl rfl ?_
  refine gC0 [] (client_c who) ⟨_,_,rfl,rfl,c16⟩ rfl rfl rfl rfl (by trivial) rfl rfl rfl rfl rfl ?_
  refine gN ⟨_,_,rfl,rfl,c16⟩ rfl rfl rfl rfl ?_
  refine gPF trivial rfl rfl c16 rfl rfl rfl ?_
  refine gM trivial (.inl rfl) rfl rfl rfl ?_
  refine gI2 (d:=21) rfl (fun c21=>?_) (fun c21=>?_)
  ·skip
   have n21:=unT c21
   refine gO ⟨_,_,rfl,rfl,c21⟩ rfl rfl ?_
   refine gO ⟨_,_,rfl,rfl,c21⟩ rfl rfl ?_
   refine gO ⟨_,_,rfl,rfl,c21⟩ rfl rfl ?_
   refine gPT trivial rfl rfl c21 rfl rfl rfl ?_
   refine rg_nil nofun ?_
   refine cT rfl rfl ?_
   refine vc_seq ?_
   refine vc_region hm ?_
   refine gM trivial (.inr rfl) rfl rfl rfl ?_
   refine rg_nil nofun ?_
   refine vc_re (S2:=⟨4,[(8,.slice (some ⟨3,0,none⟩) 0 0)],[(0,false,one ⟨rHv (tabV 1 zo T),54,0⟩),(1,false,inF zo 33 0 T),(3,true,one ⟨[],3,1⟩)]⟩) (re_nil (ms:=[0,1]) (C:=3) rfl ⟨⟨⟨rfl,rfl⟩,rfl⟩,trivial⟩ ⟨ktTab (k:=0) rfl rfl (.inr (.inl rfl)) id rfl rfl,ktIn rfl id rfl,ktC1 rfl (by decide) rfl,trivial⟩ rfl rfl (rig_of rfl) rfl) ?_
   refine vc_ret ?_
   rw [(lb_no (by first|exact .inl (by assumption)|exact .inr (.inl (by assumption))|exact .inr (.inr (by assumption))))]
   exact ⟨_,endsT [(2,3,one ⟨[],3,1⟩)] (.inr rfl) (.tmp rfl rfl .nil) rfl rfl trivial ⟨asFlat rfl rfl,trivial⟩ rfl⟩
  ·skip
   have n21:=unF c21
   refine gL ⟨_,_,rfl,rfl,c21⟩ rfl rfl rfl rfl rfl rfl rfl rfl ?_
   refine gC0 [] (impl_SpanOk_c s) ⟨_,_,rfl,rfl,c21⟩ rfl rfl rfl rfl (by trivial) rfl rfl rfl rfl rfl ?_
   refine gN ⟨_,_,rfl,rfl,c21⟩ rfl rfl rfl rfl ?_
   refine gPF trivial rfl rfl c21 rfl rfl rfl ?_
   refine rg_nil nofun ?_
   refine cI rfl (fun c25=>?_) (fun c25=>?_)
   ·skip
    have n25:=unT c25
    refine vc_seq ?_
    refine vc_region hm ?_
    refine gM trivial (.inr rfl) rfl rfl rfl ?_
    refine rg_nil nofun ?_
    refine vc_re (S2:=⟨4,[(8,.slice (some ⟨3,0,none⟩) 0 0)],[(0,false,one ⟨rHv (tabV 1 zo T),54,0⟩),(1,false,inF zo 33 0 T),(3,true,one ⟨[],3,1⟩)]⟩) (re_nil (ms:=[0,1]) (C:=3) rfl ⟨⟨⟨rfl,rfl⟩,rfl⟩,trivial⟩ ⟨ktTab (k:=0) rfl rfl (.inr (.inl rfl)) id rfl rfl,ktIn rfl id rfl,ktC1 rfl (by decide) rfl,trivial⟩ rfl rfl (rig_of rfl) rfl) ?_
    refine vc_ret ?_
    rw [(lb_no (by first|exact .inl (by assumption)|exact .inr (.inl (by assumption))|exact .inr (.inr (by assumption))))]
    exact ⟨_,endsT [(2,3,one ⟨[],3,1⟩)] (.inr rfl) (.tmp rfl rfl .nil) rfl rfl trivial ⟨asFlat rfl rfl,trivial⟩ rfl⟩
   ·skip
    have n25:=unF c25
    refine vc_skip ?_
    refine vc_seq ?_
    refine vc_region hm ?_
    refine gR (u':=4) trivial rfl rfl rfl rfl rfl rfl rfl rfl rfl rfl rfl rfl rfl rfl ?_
    refine gM trivial (.inr rfl) rfl rfl rfl ?_
    refine rg_nil nofun ?_
    refine vc_seq ?_
    refine vc_seq ?_
    refine vc_region hm ?_
    refine gM trivial (.inl rfl) rfl rfl rfl ?_
    refine gK trivial rfl rfl rfl rfl rfl rfl tabV_nil ?_
    refine gM trivial (.inl rfl) rfl rfl rfl ?_
    refine rg_nil nofun ?_
    refine vc_block ?_
    refine vc_loopT (fun n_ S_=>∃ (j:Nat),j≤T.length∧n_=T.length - j∧S_=⟨4,[(1,.int .i64 who),(2,.bool write),(7,.pointer (some ⟨2,0,none⟩)),(9,.slice (some ⟨3,0,none⟩) (barsL T who write s j).length 0),(27,.slice (some ⟨0,0,none⟩) T.length 0),(28,.int .i64 T.length),(29,.int .i64 j)],[(0,false,one ⟨rHv (tabV 1 zo T),54,0⟩),(1,false,inF zo 33 0 T),(2,true,one ⟨[.int .i64 s.lo,.int .i64 s.hi],33,2⟩),(3,true,one ⟨rI (barsL T who write s j),3,1⟩)]⟩) ⟨0,Nat.zero_le _,rfl,rfl⟩ (re_nil (ms:=[0,1,2,3]) (C:=999) rfl ⟨⟨⟨rfl,rfl⟩,rfl⟩,⟨⟨rfl,rfl⟩,rfl⟩,⟨⟨rfl,rfl⟩,rfl⟩,⟨⟨rfl,rfl⟩,rfl⟩,⟨⟨rfl,rfl⟩,rfl⟩,⟨⟨rfl,rfl⟩,rfl⟩,⟨⟨rfl,rfl⟩,rfl⟩,trivial⟩ ⟨ktTab (k:=0) rfl rfl (.inr (.inl rfl)) id rfl rfl,ktIn rfl id rfl,ktFlat rfl rfl (.inr (.inl rfl)) id rfl,ktFlat rfl rfl (.inr (.inl rfl)) id rfl,trivial⟩ rfl rfl (rig_of rfl) rfl) ?_
    rintro n_ S_ ⟨j,hj,rfl,rfl⟩
    refine vc_seq ?_
    refine vc_region hm ?_
    refine gI trivial rfl rfl rfl rfl rfl rfl ?_
    refine rg_nil nofun ?_
    refine vc_seq ?_
    refine cI rfl (fun c30=>?_) (fun c30=>?_)
    ·skip
     have p30:=of_decide_eq_true c30
     refine vc_skip ?_
     refine vc_seq ?_
     refine vc_block ?_
     refine vc_seq ?_
     refine vc_region hm ?_
     refine gM trivial (.inl rfl) rfl rfl rfl ?_
     refine gX trivial rfl rfl rfl rfl rfl rfl rfl rfl (by omega) p30 tabV_ne ?_
     refine gL trivial rfl rfl rfl rfl rfl rfl rfl (aH (by omega) p30) ?_
     refine gZ (u':=5) trivial rfl rfl rfl rfl rfl rfl rfl rfl ?_
     refine gM trivial (.inr rfl) rfl rfl rfl ?_
     refine gT trivial rfl rfl rfl rfl rfl rfl rfl rfl rfl rfl (Nat.le_of_ble_eq_true rfl) rfl ?_
     refine rg_nil nofun ?_
     refine vc_seq ?_
     refine vc_region hm ?_
     refine gF trivial rfl rfl rfl rfl rfl ?_
     refine gL trivial rfl rfl rfl rfl rfl rfl rfl rfl ?_
     refine gCT0 [nA (nm 1 (2 * ((j:Int)).toNat + 1))] [1] (of_c (l:=(at_ T (j:Int)).w) (inB_of (ok_at (by assumption) (by omega)).2.1) (by have:=spansOk_len (l:=(at_ T (j:Int)).w) (ok_at (by assumption) (by omega)).2.1;omega)) trivial rfl rfl rfl rfl rfl ⟨aRow rfl (rSp_flat _) rfl (inF_1 (by omega) p30) (.inl rfl) (.inl rfl) rfl,trivial⟩ (vPl_flat _) rfl rfl rfl ?_
     refine gZ (u':=6) trivial rfl rfl rfl rfl rfl rfl rfl (show cellsL _=plL noP from rfl) ?_
     refine gT trivial rfl rfl rfl rfl rfl rfl rfl rfl rfl rfl zPl pPl ?_
     refine rg_nil nofun ?_
     refine vc_seq ?_
     refine vc_seq ?_
     refine vc_region hm ?_
     refine gM trivial (.inl rfl) rfl rfl rfl ?_
     refine rg_nil nofun ?_
     refine cI rfl (fun c37=>?_) (fun c37=>?_)
     ·skip
      refine vc_region hm ?_
      refine gL trivial rfl rfl rfl rfl rfl rfl rfl wPl ?_
      refine gF trivial rfl rfl rfl rfl rfl ?_
      refine gL trivial rfl rfl rfl rfl rfl rfl rfl rfl ?_
      refine gCT0 [nA (nm 1 (2 * ((j:Int)).toNat))] [1] (of_c (l:=(at_ T (j:Int)).r) (inB_of (ok_at (by assumption) (by omega)).1) (by have:=spansOk_len (l:=(at_ T (j:Int)).r) (ok_at (by assumption) (by omega)).1;omega)) trivial rfl rfl rfl rfl rfl ⟨aRow rfl (rSp_flat _) rfl (inF_0 (by omega) p30) (.inl rfl) (.inl rfl) rfl,trivial⟩ (vPl_flat _) rfl rfl rfl ?_
      refine gC0 [] (put_c (ofP (at_ T (j:Int)).w) (ofP (at_ T (j:Int)).r) true) trivial rfl rfl rfl rfl (by trivial) rfl rfl (vPl_flat _) rfl rfl ?_
      refine gT trivial rfl rfl rfl rfl rfl rfl rfl rfl rfl rfl zPl pPl ?_
      refine rg_nil (fun _=>by kernel_rfl) ?_
      refine vc_seq ?_
      refine vc_region hm ?_
      refine gM trivial (.inl rfl) rfl rfl rfl ?_
      refine gM trivial (.inl rfl) rfl rfl rfl ?_
      refine gI trivial rfl rfl rfl rfl rfl rfl ?_
      refine gM trivial (.inl rfl) rfl rfl rfl ?_
      refine gI2 (d:=46) rfl (fun c46=>?_) (fun c46=>?_)
      ·skip
       have p46:=bne_iff_ne.1 c46
       refine gL ⟨_,_,rfl,rfl,c46⟩ rfl rfl rfl rfl rfl rfl rfl wPl ?_
       refine gL ⟨_,_,rfl,rfl,c46⟩ rfl rfl rfl rfl rfl rfl rfl rfl ?_
       refine gR (u':=7) (out:=rSp [s]) ⟨_,_,rfl,rfl,c46⟩ rfl rfl rfl rfl rfl rfl rfl rfl rfl rfl rfl rfl rfl rfl ?_
       refine gC0 [6] (of_c (l:=[s]) (inB_one' (by assumption)) (show 1≤1000000 by decide)) ⟨_,_,rfl,rfl,c46⟩ rfl rfl rfl rfl ⟨rFlat (rSp_flat [s]) rfl (.inl rfl) rfl,trivial⟩ rfl rfl (vPl_flat _) rfl rfl ?_
       refine gC0 [] (meet_c (putP (ofP (at_ T (j:Int)).w) (ofP (at_ T (j:Int)).r) true) (ofP [s])) ⟨_,_,rfl,rfl,c46⟩ rfl rfl rfl rfl (by trivial) rfl rfl (vPl_flat _) rfl rfl ?_
       refine gU (out:=plL noP) ⟨_,_,rfl,rfl,c46⟩ rfl rfl rfl rfl rfl rfl rfl rfl ?_
       refine gEqPn ⟨_,_,rfl,rfl,c46⟩ rfl rfl rfl rfl rfl (by kernel_rfl) rfl rfl rfl rfl ?_
       refine gPT trivial rfl rfl c46 rfl rfl rfl ?_
       refine rg_nil (fun _=>by kernel_rfl) ?_
       refine cI rfl (fun c54=>?_) (fun c54=>?_)
       ·skip
        have n54:=unT c54
        refine vc_region hm ?_
        refine gM trivial (.inl rfl) rfl rfl rfl ?_
        refine gM trivial (.inl rfl) rfl rfl rfl ?_
        refine gR (u':=8) (out:=rI [(j:Int)]) trivial rfl rfl rfl rfl rfl rfl rfl rfl rfl rfl rfl rfl rfl rfl ?_
        refine gAp (u':=9) trivial rfl rfl rfl rfl rfl rfl rfl rfl rfl rfl rfl rfl (by rw [rowL_len (n:=1) (fun _=>rfl)]) (Nat.le_refl _) rfl (show ((barsL T who write s j).length + 1) * (8 + 1)≤140737488355328 by have:=bars_len (T:=T) (who:=who) (write:=write) (s:=s) j;omega) (row_snoc (enc:=eI) (x:=(j:Int))) rfl ?_
        refine gM trivial (.inr rfl) rfl rfl rfl ?_
        refine rg_nil nofun ?_
        refine vc_region hm ?_
        refine gA trivial rfl rfl rfl rfl rfl rfl (by omega) ?_
        refine gM trivial (.inl rfl) rfl rfl rfl ?_
        refine rg_nil nofun ?_
        exact lp_nextT ⟨j + 1,(by omega),rfl,rfl⟩ (by omega) (re_nil (ms:=[0,1,2,8]) (C:=999) rfl ⟨⟨⟨rfl,rfl⟩,rfl⟩,⟨⟨rfl,rfl⟩,rfl⟩,⟨⟨rfl,rfl⟩,rfl⟩,⟨⟨rfl,eqSl (by rw [← bars_T ((barI_r (by assumption) p30 (by assumption) p46 c37).symm.trans c54)];simp)⟩,rfl⟩,⟨⟨rfl,rfl⟩,rfl⟩,⟨⟨rfl,rfl⟩,rfl⟩,⟨⟨rfl,rfl⟩,rfl⟩,trivial⟩ ⟨ktTab (k:=0) rfl rfl (.inr (.inl rfl)) id rfl rfl,ktIn rfl id rfl,ktFlat rfl rfl (.inr (.inl rfl)) id rfl,ktFlat (rI_flat _) (eqH (congrArg rI (bars_T ((barI_r (by assumption) p30 (by assumption) p46 c37).symm.trans c54)))) (.inr (.inl rfl)) id rfl,trivial⟩ rfl rfl (rig_of rfl) rfl)
       ·skip
        have n54:=unF c54
        refine vc_skip ?_
        refine vc_region hm ?_
        refine gA trivial rfl rfl rfl rfl rfl rfl (by omega) ?_
        refine gM trivial (.inl rfl) rfl rfl rfl ?_
        refine rg_nil nofun ?_
        exact lp_nextT ⟨j + 1,(by omega),rfl,rfl⟩ (by omega) (re_nil (ms:=[0,1,2,3]) (C:=999) rfl ⟨⟨⟨rfl,rfl⟩,rfl⟩,⟨⟨rfl,rfl⟩,rfl⟩,⟨⟨rfl,rfl⟩,rfl⟩,⟨⟨rfl,eqSl (by rw [← bars_F ((barI_r (by assumption) p30 (by assumption) p46 c37).symm.trans c54)])⟩,rfl⟩,⟨⟨rfl,rfl⟩,rfl⟩,⟨⟨rfl,rfl⟩,rfl⟩,⟨⟨rfl,rfl⟩,rfl⟩,trivial⟩ ⟨ktTab (k:=0) rfl rfl (.inr (.inl rfl)) id rfl rfl,ktIn rfl id rfl,ktFlat rfl rfl (.inr (.inl rfl)) id rfl,ktFlat (rI_flat _) (eqH (congrArg rI (bars_F ((barI_r (by assumption) p30 (by assumption) p46 c37).symm.trans c54)))) (.inr (.inl rfl)) id rfl,trivial⟩ rfl rfl (rig_of rfl) rfl)
      ·skip
       have p46:=bne_eq_false_iff_eq.1 c46
       refine gO ⟨_,_,rfl,rfl,c46⟩ rfl rfl ?_
       refine gO ⟨_,_,rfl,rfl,c46⟩ rfl rfl ?_
       refine gO ⟨_,_,rfl,rfl,c46⟩ rfl rfl ?_
       refine gO ⟨_,_,rfl,rfl,c46⟩ rfl rfl ?_
       refine gO ⟨_,_,rfl,rfl,c46⟩ rfl rfl ?_
       refine gO ⟨_,_,rfl,rfl,c46⟩ rfl rfl ?_
       refine gO ⟨_,_,rfl,rfl,c46⟩ rfl rfl ?_
       refine gPF trivial rfl rfl c46 rfl rfl rfl ?_
       refine rg_nil (fun _=>by kernel_rfl) ?_
       refine cF rfl rfl ?_
       refine vc_skip ?_
       refine vc_region hm ?_
       refine gA trivial rfl rfl rfl rfl rfl rfl (by omega) ?_
       refine gM trivial (.inl rfl) rfl rfl rfl ?_
       refine rg_nil nofun ?_
       exact lp_nextT ⟨j + 1,(by omega),rfl,rfl⟩ (by omega) (re_nil (ms:=[0,1,2,3]) (C:=999) rfl ⟨⟨⟨rfl,rfl⟩,rfl⟩,⟨⟨rfl,rfl⟩,rfl⟩,⟨⟨rfl,rfl⟩,rfl⟩,⟨⟨rfl,eqSl (by rw [← bars_F (barS_1 p46)])⟩,rfl⟩,⟨⟨rfl,rfl⟩,rfl⟩,⟨⟨rfl,rfl⟩,rfl⟩,⟨⟨rfl,rfl⟩,rfl⟩,trivial⟩ ⟨ktTab (k:=0) rfl rfl (.inr (.inl rfl)) id rfl rfl,ktIn rfl id rfl,ktFlat rfl rfl (.inr (.inl rfl)) id rfl,ktFlat (rI_flat _) (eqH (congrArg rI (bars_F (barS_1 p46)))) (.inr (.inl rfl)) id rfl,trivial⟩ rfl rfl (rig_of rfl) rfl)
     ·skip
      refine vc_skip ?_
      refine vc_seq ?_
      refine vc_region hm ?_
      refine gM trivial (.inl rfl) rfl rfl rfl ?_
      refine gM trivial (.inl rfl) rfl rfl rfl ?_
      refine gI trivial rfl rfl rfl rfl rfl rfl ?_
      refine gM trivial (.inl rfl) rfl rfl rfl ?_
      refine gI2 (d:=46) rfl (fun c46=>?_) (fun c46=>?_)
      ·skip
       have p46:=bne_iff_ne.1 c46
       refine gL ⟨_,_,rfl,rfl,c46⟩ rfl rfl rfl rfl rfl rfl rfl wPl ?_
       refine gL ⟨_,_,rfl,rfl,c46⟩ rfl rfl rfl rfl rfl rfl rfl rfl ?_
       refine gR (u':=7) (out:=rSp [s]) ⟨_,_,rfl,rfl,c46⟩ rfl rfl rfl rfl rfl rfl rfl rfl rfl rfl rfl rfl rfl rfl ?_
       refine gC0 [6] (of_c (l:=[s]) (inB_one' (by assumption)) (show 1≤1000000 by decide)) ⟨_,_,rfl,rfl,c46⟩ rfl rfl rfl rfl ⟨rFlat (rSp_flat [s]) rfl (.inl rfl) rfl,trivial⟩ rfl rfl (vPl_flat _) rfl rfl ?_
       refine gC0 [] (meet_c (ofP (at_ T (j:Int)).w) (ofP [s])) ⟨_,_,rfl,rfl,c46⟩ rfl rfl rfl rfl (by trivial) rfl rfl (vPl_flat _) rfl rfl ?_
       refine gU (out:=plL noP) ⟨_,_,rfl,rfl,c46⟩ rfl rfl rfl rfl rfl rfl rfl rfl ?_
       refine gEqPn ⟨_,_,rfl,rfl,c46⟩ rfl rfl rfl rfl rfl (by kernel_rfl) rfl rfl rfl rfl ?_
       refine gPT trivial rfl rfl c46 rfl rfl rfl ?_
       refine rg_nil (fun _=>by kernel_rfl) ?_
       refine cI rfl (fun c54=>?_) (fun c54=>?_)
       ·skip
        have n54:=unT c54
        refine vc_region hm ?_
        refine gM trivial (.inl rfl) rfl rfl rfl ?_
        refine gM trivial (.inl rfl) rfl rfl rfl ?_
        refine gR (u':=8) (out:=rI [(j:Int)]) trivial rfl rfl rfl rfl rfl rfl rfl rfl rfl rfl rfl rfl rfl rfl ?_
        refine gAp (u':=9) trivial rfl rfl rfl rfl rfl rfl rfl rfl rfl rfl rfl rfl (by rw [rowL_len (n:=1) (fun _=>rfl)]) (Nat.le_refl _) rfl (show ((barsL T who write s j).length + 1) * (8 + 1)≤140737488355328 by have:=bars_len (T:=T) (who:=who) (write:=write) (s:=s) j;omega) (row_snoc (enc:=eI) (x:=(j:Int))) rfl ?_
        refine gM trivial (.inr rfl) rfl rfl rfl ?_
        refine rg_nil nofun ?_
        refine vc_region hm ?_
        refine gA trivial rfl rfl rfl rfl rfl rfl (by omega) ?_
        refine gM trivial (.inl rfl) rfl rfl rfl ?_
        refine rg_nil nofun ?_
        exact lp_nextT ⟨j + 1,(by omega),rfl,rfl⟩ (by omega) (re_nil (ms:=[0,1,2,8]) (C:=999) rfl ⟨⟨⟨rfl,rfl⟩,rfl⟩,⟨⟨rfl,rfl⟩,rfl⟩,⟨⟨rfl,rfl⟩,rfl⟩,⟨⟨rfl,eqSl (by rw [← bars_T ((barI_w (by assumption) p30 (by assumption) p46 c37).symm.trans c54)];simp)⟩,rfl⟩,⟨⟨rfl,rfl⟩,rfl⟩,⟨⟨rfl,rfl⟩,rfl⟩,⟨⟨rfl,rfl⟩,rfl⟩,trivial⟩ ⟨ktTab (k:=0) rfl rfl (.inr (.inl rfl)) id rfl rfl,ktIn rfl id rfl,ktFlat rfl rfl (.inr (.inl rfl)) id rfl,ktFlat (rI_flat _) (eqH (congrArg rI (bars_T ((barI_w (by assumption) p30 (by assumption) p46 c37).symm.trans c54)))) (.inr (.inl rfl)) id rfl,trivial⟩ rfl rfl (rig_of rfl) rfl)
       ·skip
        have n54:=unF c54
        refine vc_skip ?_
        refine vc_region hm ?_
        refine gA trivial rfl rfl rfl rfl rfl rfl (by omega) ?_
        refine gM trivial (.inl rfl) rfl rfl rfl ?_
        refine rg_nil nofun ?_
        exact lp_nextT ⟨j + 1,(by omega),rfl,rfl⟩ (by omega) (re_nil (ms:=[0,1,2,3]) (C:=999) rfl ⟨⟨⟨rfl,rfl⟩,rfl⟩,⟨⟨rfl,rfl⟩,rfl⟩,⟨⟨rfl,rfl⟩,rfl⟩,⟨⟨rfl,eqSl (by rw [← bars_F ((barI_w (by assumption) p30 (by assumption) p46 c37).symm.trans c54)])⟩,rfl⟩,⟨⟨rfl,rfl⟩,rfl⟩,⟨⟨rfl,rfl⟩,rfl⟩,⟨⟨rfl,rfl⟩,rfl⟩,trivial⟩ ⟨ktTab (k:=0) rfl rfl (.inr (.inl rfl)) id rfl rfl,ktIn rfl id rfl,ktFlat rfl rfl (.inr (.inl rfl)) id rfl,ktFlat (rI_flat _) (eqH (congrArg rI (bars_F ((barI_w (by assumption) p30 (by assumption) p46 c37).symm.trans c54)))) (.inr (.inl rfl)) id rfl,trivial⟩ rfl rfl (rig_of rfl) rfl)
      ·skip
       have p46:=bne_eq_false_iff_eq.1 c46
       refine gO ⟨_,_,rfl,rfl,c46⟩ rfl rfl ?_
       refine gO ⟨_,_,rfl,rfl,c46⟩ rfl rfl ?_
       refine gO ⟨_,_,rfl,rfl,c46⟩ rfl rfl ?_
       refine gO ⟨_,_,rfl,rfl,c46⟩ rfl rfl ?_
       refine gO ⟨_,_,rfl,rfl,c46⟩ rfl rfl ?_
       refine gO ⟨_,_,rfl,rfl,c46⟩ rfl rfl ?_
       refine gO ⟨_,_,rfl,rfl,c46⟩ rfl rfl ?_
       refine gPF trivial rfl rfl c46 rfl rfl rfl ?_
       refine rg_nil (fun _=>by kernel_rfl) ?_
       refine cF rfl rfl ?_
       refine vc_skip ?_
       refine vc_region hm ?_
       refine gA trivial rfl rfl rfl rfl rfl rfl (by omega) ?_
       refine gM trivial (.inl rfl) rfl rfl rfl ?_
       refine rg_nil nofun ?_
       exact lp_nextT ⟨j + 1,(by omega),rfl,rfl⟩ (by omega) (re_nil (ms:=[0,1,2,3]) (C:=999) rfl ⟨⟨⟨rfl,rfl⟩,rfl⟩,⟨⟨rfl,rfl⟩,rfl⟩,⟨⟨rfl,rfl⟩,rfl⟩,⟨⟨rfl,eqSl (by rw [← bars_F (barS_1 p46)])⟩,rfl⟩,⟨⟨rfl,rfl⟩,rfl⟩,⟨⟨rfl,rfl⟩,rfl⟩,⟨⟨rfl,rfl⟩,rfl⟩,trivial⟩ ⟨ktTab (k:=0) rfl rfl (.inr (.inl rfl)) id rfl rfl,ktIn rfl id rfl,ktFlat rfl rfl (.inr (.inl rfl)) id rfl,ktFlat (rI_flat _) (eqH (congrArg rI (bars_F (barS_1 p46)))) (.inr (.inl rfl)) id rfl,trivial⟩ rfl rfl (rig_of rfl) rfl)
    ·skip
     have p30:=of_decide_eq_false c30
     refine vc_exit ?_
     refine vc_seq ?_
     refine vc_region hm ?_
     refine gM trivial (.inl rfl) rfl rfl rfl ?_
     refine gM trivial (.inr rfl) rfl rfl rfl ?_
     refine rg_nil nofun ?_
     refine vc_ret ?_
     obtain rfl:j=T.length:=by omega
     rw [← (lb_ok (by assumption) (by assumption) (by assumption))]
     exact ⟨_,endsT [(2,3,one ⟨rI (barsL T who write s T.length),3,1⟩)] (.inr rfl) (.tmp rfl rfl .nil) rfl rfl trivial ⟨asFlat rfl (rI_flat _),trivial⟩ rfl⟩
theorem spec_l4Without_c {a b:List Sp} (hn:a.length≤1048576) (hm:b.length≤1048576) (hb:spansOk b=true):FDoes Try.prog 67 [.slice (some ⟨0,0,none⟩) a.length 0,.slice (some ⟨1,0,none⟩) b.length 0] (hp [(0,false,one ⟨rSp a,33,0⟩),(1,false,one ⟨rSp b,33,0⟩)]) (mkE (.slice (some ⟨2,0,none⟩) (withoutL a b).length 0) [0,1] [] [(2,⟨rSp (withoutL a b),33,2⟩)]):=by
 have hm:Try.prog.follows .mixedOrders=true:=by kernel_rfl
 have hd_:∀ x_ ∈ ([(0,false,one ⟨rSp a,33,0⟩),(1,false,one ⟨rSp b,33,0⟩)]:List (Nat × Bool × Fam)),∀ k_ y_,x_.2.2 k_=some y_→DetB (lt 2) y_:=by
  intro x_ hx k_ y_ e
  simp only [List.mem_cons,List.not_mem_nil,or_false] at hx
  rcases hx with rfl|rfl
  ·exact det_row (rSp_flat a) e
  ·exact det_row (rSp_flat b) e
 refine fn_exact (u0:=2) Try.func67 rfl rfl (gets rfl rfl rfl hd_ rfl) ?_
 clear hd_
 refine vc_seq ?_
 refine vc_region hm ?_
 refine gM trivial (.inr rfl) rfl rfl rfl ?_
 refine rg_nil nofun ?_
 refine vc_seq ?_
 refine vc_region hm ?_
 refine gM trivial (.inl rfl) rfl rfl rfl ?_
 refine gCn 3 [0,2] (spec_l1Places_c (l:=a) hn) trivial rfl rfl rfl rfl ⟨rFlat (rSp_flat a) rfl (.inl rfl) rfl,trivial⟩ ⟨plL_flat _,trivial⟩ rfl rfl rfl rfl ?_
 refine gCn 4 [2,3] (spec_l1Of_c (fun x=>l1In a (x:Int))) trivial rfl rfl rfl rfl ⟨rFlat (plL_flat _) rfl (.inl rfl) rfl,trivial⟩ ⟨rSp_flat _,trivial⟩ rfl rfl rfl rfl ?_
 refine gM trivial (.inr rfl) rfl rfl rfl ?_
 refine rg_nil nofun ?_
 refine vc_seq ?_
 refine vc_seq ?_
 refine vc_region hm ?_
 refine gM trivial (.inr rfl) rfl rfl rfl ?_
 refine rg_nil nofun ?_
 refine vc_block ?_
 refine vc_loop' (fun n_ S_=>∃ (j:Nat),j≤b.length∧n_=b.length - j∧S_=⟨3,[(1,.slice (some ⟨1,0,none⟩) b.length 0),(5,.slice (some ⟨2,0,none⟩) (l1ofP fun x=>l1In a (x:Int) && !ofP (b.take j) x).length 0),(6,.int .i64 j)],[(0,false,one ⟨rSp a,33,0⟩),(1,false,one ⟨rSp b,33,0⟩),(2,true,one ⟨rSp (l1ofP fun x=>l1In a (x:Int) && !ofP (b.take j) x),33,2⟩)]⟩) (m0:=(mp [0,1,3])) ⟨0,Nat.zero_le _,rfl,rfl⟩ (le_mk rfl ⟨⟨rfl,rfl⟩,⟨eqSl (by rw [← wo_0 (b:=b)]),rfl⟩,⟨rfl,rfl⟩,trivial⟩ ⟨kFlat (rSp_flat a) rfl id rfl,kFlat (rSp_flat b) rfl id rfl,kFlat (rSp_flat _) (eqH (congrArg _ wo_0)) id rfl,trivial⟩ rfl (rig_of rfl)) ?_
 rintro n_ S_ ⟨j,hj,rfl,rfl⟩
 refine vc_seq ?_
 refine vc_seq ?_
 refine vc_region hm ?_
 refine gM trivial (.inl rfl) rfl rfl rfl ?_
 refine gM trivial (.inl rfl) rfl rfl rfl ?_
 refine gK trivial rfl rfl rfl rfl rfl rfl rSp_nil ?_
 refine gI trivial rfl rfl rfl rfl rfl rfl ?_
 refine rg_nil nofun ?_
 refine cI rfl (fun c13=>?_) (fun c13=>?_)
 ·skip
  have p13:=of_decide_eq_true c13
  refine vc_skip ?_
  refine vc_seq ?_
  refine vc_block ?_
  refine vc_region hm ?_
  refine gM trivial (.inl rfl) rfl rfl rfl ?_
  refine gM trivial (.inl rfl) rfl rfl rfl ?_
  refine gM trivial (.inl rfl) rfl rfl rfl ?_
  refine gX trivial rfl rfl rfl rfl rfl rfl rfl rfl (by omega) p13 rSp_ne ?_
  refine gL trivial rfl rfl rfl rfl rfl rfl rfl (aSp (by omega) p13) ?_
  refine gCn 4 [2,3] (spec_l1Cut_c (l:=(l1ofP fun x=>l1In a (x:Int) && !ofP (b.take j) x)) (s:=at_ b (j:Int)) l48 (spanOk_in (spansOk_at hb _ (at_mem (by omega) p13)))) trivial rfl rfl rfl rfl ⟨rFlat (rSp_flat _) rfl (.inl rfl) rfl,trivial⟩ ⟨rSp_flat _,trivial⟩ rfl rfl rfl rfl ?_
  refine gM trivial (.inr rfl) rfl rfl rfl ?_
  refine rg_nil nofun ?_
  refine vc_region hm ?_
  refine gM trivial (.inl rfl) rfl rfl rfl ?_
  refine gA trivial rfl rfl rfl rfl rfl rfl (by omega) ?_
  refine gM trivial (.inr rfl) rfl rfl rfl ?_
  refine rg_nil nofun ?_
  exact lp_next (m:=(mp [0,1,3])) ⟨j + 1,(by omega),rfl,rfl⟩ (by omega) (le_mk rfl ⟨⟨rfl,rfl⟩,⟨eqSl (by rw [← wo_step p13]),rfl⟩,⟨rfl,rfl⟩,trivial⟩ ⟨kFlat (rSp_flat a) rfl id rfl,kFlat (rSp_flat b) rfl id rfl,kFlat (rSp_flat _) (eqH (congrArg _ (wo_step p13))) id rfl,trivial⟩ rfl (rig_of rfl))
 ·skip
  have p13:=of_decide_eq_false c13
  refine vc_exit ?_
  refine vc_seq ?_
  refine vc_region hm ?_
  refine gM trivial (.inl rfl) rfl rfl rfl ?_
  refine gM trivial (.inr rfl) rfl rfl rfl ?_
  refine rg_nil nofun ?_
  refine vc_ret ?_
  rw [wo_end hj p13]
  exact ⟨_,endsG [(2,2,⟨rSp (withoutL a b),33,2⟩)] (.inr rfl) (.tmp rfl rfl .nil) rfl rfl trivial ⟨⟨rfl,rSp_flat _⟩,trivial⟩ rfl⟩
theorem spec_LockGive_c {T:List Ho} {who:Int} {write:Bool} {s:Sp} (hT:T.length≤1048576) (hB:∀ h ∈ T,h.r.length≤1048576∧h.w.length≤1048576):FDoes Try.prog 34 [.slice (some ⟨0,0,none⟩) T.length 0,.int .i64 who,.bool write,vSp s] (hp [(0,false,one ⟨rHv (tabV 1 zo T),54,0⟩),(1,false,inF zo 33 0 T)]) (mkF (.tuple #[.slice (some ⟨2,0,none⟩) (resT T (goK who s (decide (((lockBars T who write s).length:Int)=0))) who (giveH (at_ T who) write s)).length 0,.bool (resB T (goK who s (decide (((lockBars T who write s).length:Int)=0))) who (giveH (at_ T who) write s))]) [0,1] [] [(2,one ⟨rHv (tabV 3 zo (resT T (goK who s (decide (((lockBars T who write s).length:Int)=0))) who (giveH (at_ T who) write s))),54,2⟩),(3,inF zo 33 77 (resT T (goK who s (decide (((lockBars T who write s).length:Int)=0))) who (giveH (at_ T who) write s)))]):=by
 have hm:Try.prog.follows .mixedOrders=true:=by kernel_rfl
 have hd_:∀ x_ ∈ ([(0,false,one ⟨rHv (tabV 1 zo T),54,0⟩),(1,false,inF zo 33 0 T)]:List (Nat × Bool × Fam)),∀ k_ y_,x_.2.2 k_=some y_→DetB (lt 2) y_:=by
  intro x_ hx k_ y_ e
  simp only [List.mem_cons,List.not_mem_nil,or_false] at hx
  rcases hx with rfl|rfl
  ·exact det_tab (k0:=0) rfl e
  ·exact det_in e
 refine fn_exact (u0:=2) Try.func34 rfl rfl (gets rfl rfl rfl hd_ rfl) ?_
 clear hd_
 refine vc_seq ?_
 refine vc_region hm ?_
 refine gB (u':=3) trivial rfl rfl rfl rfl rfl rfl rfl rfl ?_
 refine gM trivial (.inr rfl) rfl rfl rfl ?_
 refine gM trivial (.inr rfl) rfl rfl rfl ?_
 refine rg_nil nofun ?_
 refine vc_seq ?_
 refine vc_seq ?_
 refine vc_region hm ?_
 refine gM trivial (.inl rfl) rfl rfl rfl ?_
 refine gCT0 [nA (nm 0 (0)),nF 1] [0,1] (spec_LockOk_c (T:=T) hT hB) trivial rfl rfl rfl rfl rfl ⟨aTab (k:=0) rfl rfl rfl rfl (.inl rfl) (.inl rfl) rfl rfl,aIn rfl rfl (.inl rfl) (.inl rfl) rfl,trivial⟩ rfl rfl rfl rfl ?_
 refine gN trivial rfl rfl rfl rfl ?_
 refine rg_nil nofun ?_
 refine cI rfl (fun c13=>?_) (fun c13=>?_)
 ·skip
  have n13:=unT c13
  refine vc_seq ?_
  refine vc_region hm ?_
  refine gR (u':=4) trivial rfl rfl rfl rfl rfl rfl rfl rfl rfl rfl rfl rfl rfl rfl ?_
  refine gM trivial (.inr rfl) rfl rfl rfl ?_
  refine gM trivial (.inr rfl) rfl rfl rfl ?_
  refine rg_nil nofun ?_
  refine vc_re (S2:=⟨5,[(8,.slice (some ⟨3,0,none⟩) 0 0),(9,.bool false)],[(0,false,one ⟨rHv (tabV 1 zo T),54,0⟩),(1,false,inF zo 33 0 T),(3,true,one ⟨rHv (tabV 4 zo []),54,2⟩),(4,true,inF zo 33 77 [])]⟩) (re_nil (ms:=[0,1,2,3]) (C:=4) rfl ⟨⟨⟨rfl,rfl⟩,rfl⟩,⟨⟨rfl,rfl⟩,rfl⟩,trivial⟩ ⟨ktTab (k:=0) rfl rfl (.inr (.inl rfl)) id rfl rfl,ktIn rfl id rfl,ktFlat rfl rfl (.inr (.inl rfl)) id rfl,ktInN (n:=0) rfl (by decide) rfl,trivial⟩ rfl rfl (rig_of rfl) rfl) ?_
  refine vc_ret ?_
  rw [(res_no (by assumption)).1,(res_no (by assumption)).2]
  exact ⟨_,endsT [(2,3,one ⟨rHv (tabV 3 zo []),54,2⟩),(3,4,inF zo 33 77 [])] (.inr rfl) (.tmp rfl rfl (.tmp rfl rfl .nil)) rfl rfl trivial ⟨asTab rfl rfl rfl,asIn rfl,trivial⟩ rfl⟩
 ·skip
  have n13:=unF c13
  refine vc_skip ?_
  refine vc_seq ?_
  refine vc_seq ?_
  refine vc_region hm ?_
  refine gM trivial (.inl rfl) rfl rfl rfl ?_
  refine gC0 [] (spec_l4Who_c who) trivial rfl rfl rfl rfl (by trivial) rfl rfl rfl rfl rfl ?_
  refine gN trivial rfl rfl rfl rfl ?_
  refine gM trivial (.inl rfl) rfl rfl rfl ?_
  refine gI2 (d:=18) rfl (fun c18=>?_) (fun c18=>?_)
  ·skip
   have n18:=unT c18
   refine gO ⟨_,_,rfl,rfl,c18⟩ rfl rfl ?_
   refine gO ⟨_,_,rfl,rfl,c18⟩ rfl rfl ?_
   refine gO ⟨_,_,rfl,rfl,c18⟩ rfl rfl ?_
   refine gPT trivial rfl rfl c18 rfl rfl rfl ?_
   refine gM trivial (.inl rfl) rfl rfl rfl ?_
   refine gO ⟨_,_,rfl,rfl,rfl⟩ rfl rfl ?_
   refine gO ⟨_,_,rfl,rfl,rfl⟩ rfl rfl ?_
   refine gO ⟨_,_,rfl,rfl,rfl⟩ rfl rfl ?_
   refine gO ⟨_,_,rfl,rfl,rfl⟩ rfl rfl ?_
   refine gO ⟨_,_,rfl,rfl,rfl⟩ rfl rfl ?_
   refine gO ⟨_,_,rfl,rfl,rfl⟩ rfl rfl ?_
   refine gO ⟨_,_,rfl,rfl,rfl⟩ rfl rfl ?_
   refine gPT trivial rfl rfl rfl rfl rfl rfl ?_
   refine rg_nil nofun ?_
   refine cT rfl rfl ?_
   refine vc_seq ?_
   refine vc_region hm ?_
   refine gM trivial (.inl rfl) rfl rfl rfl ?_
   refine gCT (as':=[(3,one ⟨rHv (tabV 4 zo T),54,2⟩),(4,inF zo 33 77 T)]) (v':=.slice (some ⟨3,0,none⟩) T.length 0) 5 [nA (nm 0 (0)),nF 1,nF 3,nF 4] [0,1] (spec_l4Copy_c (T:=T) hT hB) trivial rfl rfl rfl rfl rfl ⟨aTab (k:=0) rfl rfl rfl rfl (.inl rfl) (.inl rfl) rfl rfl,aIn rfl rfl (.inl rfl) (.inl rfl) rfl,trivial⟩ ⟨rTab rfl rfl rfl,rIn rfl,trivial⟩ ⟨rfl,rfl⟩ rfl rfl rfl ?_
   refine gM trivial (.inr rfl) rfl rfl rfl ?_
   refine gM trivial (.inr rfl) rfl rfl rfl ?_
   refine rg_nil nofun ?_
   refine vc_ret ?_
   rw [(res_stay (by assumption) (by first|exact goK_1 (by assumption)|exact goK_2 (by assumption)|exact goK_3 (give_no (by assumption) (by assumption) (by assumption) (by assumption)))).1,(res_stay (by assumption) (by first|exact goK_1 (by assumption)|exact goK_2 (by assumption)|exact goK_3 (give_no (by assumption) (by assumption) (by assumption) (by assumption)))).2]
   exact ⟨_,endsT [(2,3,one ⟨rHv (tabV 3 zo T),54,2⟩),(3,4,inF zo 33 77 T)] (.inr rfl) (.tmp rfl rfl (.tmp rfl rfl .nil)) rfl rfl trivial ⟨asTab rfl rfl rfl,asIn rfl,trivial⟩ rfl⟩
  ·skip
   have n18:=unF c18
   refine gL ⟨_,_,rfl,rfl,c18⟩ rfl rfl rfl rfl rfl rfl rfl rfl ?_
   refine gC0 [] (spec_SpanOk_c s) ⟨_,_,rfl,rfl,c18⟩ rfl rfl rfl rfl (by trivial) rfl rfl rfl rfl rfl ?_
   refine gN ⟨_,_,rfl,rfl,c18⟩ rfl rfl rfl rfl ?_
   refine gPF trivial rfl rfl c18 rfl rfl rfl ?_
   refine gM trivial (.inl rfl) rfl rfl rfl ?_
   refine gI2 (d:=23) rfl (fun c23=>?_) (fun c23=>?_)
   ·skip
    have n23:=unT c23
    refine gO ⟨_,_,rfl,rfl,c23⟩ rfl rfl ?_
    refine gO ⟨_,_,rfl,rfl,c23⟩ rfl rfl ?_
    refine gO ⟨_,_,rfl,rfl,c23⟩ rfl rfl ?_
    refine gO ⟨_,_,rfl,rfl,c23⟩ rfl rfl ?_
    refine gO ⟨_,_,rfl,rfl,c23⟩ rfl rfl ?_
    refine gO ⟨_,_,rfl,rfl,c23⟩ rfl rfl ?_
    refine gO ⟨_,_,rfl,rfl,c23⟩ rfl rfl ?_
    refine gPT trivial rfl rfl c23 rfl rfl rfl ?_
    refine rg_nil nofun ?_
    refine cT rfl rfl ?_
    refine vc_seq ?_
    refine vc_region hm ?_
    refine gM trivial (.inl rfl) rfl rfl rfl ?_
    refine gCT (as':=[(3,one ⟨rHv (tabV 4 zo T),54,2⟩),(4,inF zo 33 77 T)]) (v':=.slice (some ⟨3,0,none⟩) T.length 0) 5 [nA (nm 0 (0)),nF 1,nF 3,nF 4] [0,1] (spec_l4Copy_c (T:=T) hT hB) trivial rfl rfl rfl rfl rfl ⟨aTab (k:=0) rfl rfl rfl rfl (.inl rfl) (.inl rfl) rfl rfl,aIn rfl rfl (.inl rfl) (.inl rfl) rfl,trivial⟩ ⟨rTab rfl rfl rfl,rIn rfl,trivial⟩ ⟨rfl,rfl⟩ rfl rfl rfl ?_
    refine gM trivial (.inr rfl) rfl rfl rfl ?_
    refine gM trivial (.inr rfl) rfl rfl rfl ?_
    refine rg_nil nofun ?_
    refine vc_ret ?_
    rw [(res_stay (by assumption) (by first|exact goK_1 (by assumption)|exact goK_2 (by assumption)|exact goK_3 (give_no (by assumption) (by assumption) (by assumption) (by assumption)))).1,(res_stay (by assumption) (by first|exact goK_1 (by assumption)|exact goK_2 (by assumption)|exact goK_3 (give_no (by assumption) (by assumption) (by assumption) (by assumption)))).2]
    exact ⟨_,endsT [(2,3,one ⟨rHv (tabV 3 zo T),54,2⟩),(3,4,inF zo 33 77 T)] (.inr rfl) (.tmp rfl rfl (.tmp rfl rfl .nil)) rfl rfl trivial ⟨asTab rfl rfl rfl,asIn rfl,trivial⟩ rfl⟩
   ·skip
    have n23:=unF c23
    refine gM ⟨_,_,rfl,rfl,c23⟩ (.inl rfl) rfl rfl rfl ?_
    refine gM ⟨_,_,rfl,rfl,c23⟩ (.inl rfl) rfl rfl rfl ?_
    refine gM ⟨_,_,rfl,rfl,c23⟩ (.inl rfl) rfl rfl rfl ?_
    refine gL ⟨_,_,rfl,rfl,c23⟩ rfl rfl rfl rfl rfl rfl rfl rfl ?_
    refine gCT (as':=[(3,one ⟨rI (barsL T who write s T.length),3,1⟩)]) (v':=.slice (some ⟨3,0,none⟩) (barsL T who write s T.length).length 0) 4 [nA (nm 0 (0)),nF 1,nF 3] [0,1] (spec_l4Bars_c (T:=T) (who:=who) (write:=write) (s:=s) hT hB) ⟨_,_,rfl,rfl,c23⟩ rfl rfl rfl rfl rfl ⟨aTab (k:=0) rfl rfl rfl rfl (.inl rfl) (.inl rfl) rfl rfl,aIn rfl rfl (.inl rfl) (.inl rfl) rfl,trivial⟩ ⟨rFlatT (rI_flat _) rfl,trivial⟩ ⟨rfl,rfl⟩ rfl rfl rfl ?_
    refine gK ⟨_,_,rfl,rfl,c23⟩ rfl rfl rfl rfl rfl rfl rI_nil ?_
    refine gI ⟨_,_,rfl,rfl,c23⟩ rfl rfl rfl rfl rfl rfl ?_
    refine gPF trivial rfl rfl c23 rfl rfl rfl ?_
    refine rg_nil nofun ?_
    refine cI rfl (fun c31=>?_) (fun c31=>?_)
    ·skip
     have p31:=of_decide_eq_true c31
     refine vc_seq ?_
     refine vc_region hm ?_
     refine gM trivial (.inl rfl) rfl rfl rfl ?_
     refine gCT (as':=[(4,one ⟨rHv (tabV 5 zo T),54,2⟩),(5,inF zo 33 77 T)]) (v':=.slice (some ⟨4,0,none⟩) T.length 0) 6 [nA (nm 0 (0)),nF 1,nF 4,nF 5] [0,1] (spec_l4Copy_c (T:=T) hT hB) trivial rfl rfl rfl rfl rfl ⟨aTab (k:=0) rfl rfl rfl rfl (.inl rfl) (.inl rfl) rfl rfl,aIn rfl rfl (.inl rfl) (.inl rfl) rfl,trivial⟩ ⟨rTab rfl rfl rfl,rIn rfl,trivial⟩ ⟨rfl,rfl⟩ rfl rfl rfl ?_
     refine gM trivial (.inr rfl) rfl rfl rfl ?_
     refine gM trivial (.inr rfl) rfl rfl rfl ?_
     refine rg_nil nofun ?_
     refine vc_ret ?_
     rw [(res_stay (by assumption) (by first|exact goK_1 (by assumption)|exact goK_2 (by assumption)|exact goK_3 (give_no (by assumption) (by assumption) (by assumption) (by assumption)))).1,(res_stay (by assumption) (by first|exact goK_1 (by assumption)|exact goK_2 (by assumption)|exact goK_3 (give_no (by assumption) (by assumption) (by assumption) (by assumption)))).2]
     exact ⟨_,endsT [(2,4,one ⟨rHv (tabV 3 zo T),54,2⟩),(3,5,inF zo 33 77 T)] (.inr rfl) (.tmp rfl rfl (.tmp rfl rfl .nil)) rfl rfl trivial ⟨asTab rfl rfl rfl,asIn rfl,trivial⟩ rfl⟩
    ·skip
     have p31:=of_decide_eq_false c31
     refine vc_skip ?_
     refine vc_seq ?_
     refine vc_region hm ?_
     refine gM trivial (.inl rfl) rfl rfl rfl ?_
     refine gM trivial (.inl rfl) rfl rfl rfl ?_
     refine gX trivial rfl rfl rfl rfl rfl rfl rfl rfl (by have:=whoOk_in (who:=who) (by assumption);have:=ok_3 (T:=T) (by assumption);omega) (by have:=whoOk_in (who:=who) (by assumption);have:=ok_3 (T:=T) (by assumption);omega) tabV_ne ?_
     refine gL trivial rfl rfl rfl rfl rfl rfl rfl (aH (by have:=whoOk_in (who:=who) (by assumption);have:=ok_3 (T:=T) (by assumption);omega) (by have:=whoOk_in (who:=who) (by assumption);have:=ok_3 (T:=T) (by assumption);omega)) ?_
     refine gZ (u':=5) trivial rfl rfl rfl rfl rfl rfl rfl rfl ?_
     refine gT trivial rfl rfl rfl rfl rfl rfl rfl rfl rfl rfl (Nat.le_of_ble_eq_true rfl) rfl ?_
     refine rg_nil nofun ?_
     refine vc_seq ?_
     refine vc_seq ?_
     refine vc_region hm ?_
     refine gM trivial (.inl rfl) rfl rfl rfl ?_
     refine rg_nil nofun ?_
     refine cI rfl (fun c38=>?_) (fun c38=>?_)
     ·skip
      refine vc_seq ?_
      refine vc_region hm ?_
      refine gM trivial (.inl rfl) rfl rfl rfl ?_
      refine gM trivial (.inl rfl) rfl rfl rfl ?_
      refine gF trivial rfl rfl rfl rfl rfl ?_
      refine gL trivial rfl rfl rfl rfl rfl rfl rfl rfl ?_
      refine gL trivial rfl rfl rfl rfl rfl rfl rfl rfl ?_
      refine gCT (as':=[(5,one ⟨rSp (cutL (at_ T who).r s),33,2⟩)]) (v':=.slice (some ⟨5,0,none⟩) (cutL (at_ T who).r s).length 0) 6 [nA (nm 1 (2 * (who).toNat)),nF 5] [1] (spec_l1Cut_c (l:=(at_ T who).r) (s:=s) (hB _ (at_mem (by have:=whoOk_in (who:=who) (by assumption);have:=ok_3 (T:=T) (by assumption);omega) (by have:=whoOk_in (who:=who) (by assumption);have:=ok_3 (T:=T) (by assumption);omega))).1 (spanOk_in (by assumption))) trivial rfl rfl rfl rfl rfl ⟨aRow rfl (rSp_flat _) rfl (inF_0 (by have:=whoOk_in (who:=who) (by assumption);have:=ok_3 (T:=T) (by assumption);omega) (by have:=whoOk_in (who:=who) (by assumption);have:=ok_3 (T:=T) (by assumption);omega)) (.inl rfl) (.inl rfl) rfl,trivial⟩ ⟨rFlatT (rSp_flat _) rfl,trivial⟩ ⟨rfl,rfl⟩ rfl rfl rfl ?_
      refine gF trivial rfl rfl rfl rfl rfl ?_
      refine gL trivial rfl rfl rfl rfl rfl rfl rfl rfl ?_
      refine gL trivial rfl rfl rfl rfl rfl rfl rfl rfl ?_
      refine gCT (as':=[(6,one ⟨rSp (addL (at_ T who).w s),33,2⟩)]) (v':=.slice (some ⟨6,0,none⟩) (addL (at_ T who).w s).length 0) 7 [nA (nm 1 (2 * (who).toNat + 1)),nF 6] [1] (spec_l1Add_c (l:=(at_ T who).w) (s:=s) (hB _ (at_mem (by have:=whoOk_in (who:=who) (by assumption);have:=ok_3 (T:=T) (by assumption);omega) (by have:=whoOk_in (who:=who) (by assumption);have:=ok_3 (T:=T) (by assumption);omega))).2 (spanOk_in (by assumption))) trivial rfl rfl rfl rfl rfl ⟨aRow rfl (rSp_flat _) rfl (inF_1 (by have:=whoOk_in (who:=who) (by assumption);have:=ok_3 (T:=T) (by assumption);omega) (by have:=whoOk_in (who:=who) (by assumption);have:=ok_3 (T:=T) (by assumption);omega)) (.inl rfl) (.inl rfl) rfl,trivial⟩ ⟨rFlatT (rSp_flat _) rfl,trivial⟩ ⟨rfl,rfl⟩ rfl rfl rfl ?_
      refine gU trivial rfl rfl rfl rfl rfl rfl rfl rfl ?_
      refine gCT (as':=[(7,one ⟨rHv (tabV 8 zo (repT T who ⟨cutL (at_ T who).r s,addL (at_ T who).w s⟩)),54,2⟩),(8,inF zo 33 77 (repT T who ⟨cutL (at_ T who).r s,addL (at_ T who).w s⟩))]) (v':=.tuple #[.slice (some ⟨7,0,none⟩) (repT T who ⟨cutL (at_ T who).r s,addL (at_ T who).w s⟩).length 0,.bool (lockOk (setH T who ⟨cutL (at_ T who).r s,addL (at_ T who).w s⟩))]) 9 [nA (nm 0 (0)),nF 1,nA (nm 5 (0)),nA (nm 6 (0)),nF 7,nF 8] [0,1,5,6] (spec_l4Put_c (T:=T) (who:=who) (h:=⟨cutL (at_ T who).r s,addL (at_ T who).w s⟩) hT hB l48 l48 (whoOk_in (by assumption)) (ok_3 (by assumption))) trivial rfl rfl rfl rfl rfl ⟨aTab (k:=0) rfl rfl rfl rfl (.inl rfl) (.inl rfl) rfl rfl,aIn rfl rfl (.inl rfl) (.inl rfl) rfl,aRow rfl (rSp_flat _) rfl rfl (.inl rfl) (.inl rfl) rfl,aRow rfl (rSp_flat _) rfl rfl (.inl rfl) (.inl rfl) rfl,trivial⟩ ⟨rTab rfl rfl rfl,rIn rfl,trivial⟩ ⟨rfl,rfl⟩ rfl rfl rfl ?_
      refine gE trivial rfl rfl rfl rfl rfl rfl ?_
      refine gE trivial rfl rfl rfl rfl rfl rfl ?_
      refine gM trivial (.inr rfl) rfl rfl rfl ?_
      refine gM trivial (.inr rfl) rfl rfl rfl ?_
      refine rg_nil (fun _=>by kernel_rfl) ?_
      refine vc_ret ?_
      rw [giveH_T c38]
      rw [(res_go (by assumption) (goK_4 (by assumption) (by assumption) (give_yes (by assumption) (by assumption) (by assumption) (by assumption)))).1,(res_go (by assumption) (goK_4 (by assumption) (by assumption) (give_yes (by assumption) (by assumption) (by assumption) (by assumption)))).2]
      exact ⟨_,endsT [(2,7,one ⟨rHv (tabV 3 zo (repT T who ⟨cutL (at_ T who).r s,addL (at_ T who).w s⟩)),54,2⟩),(3,8,inF zo 33 77 (repT T who ⟨cutL (at_ T who).r s,addL (at_ T who).w s⟩))] (.inr rfl) (.tmp rfl rfl (.tmp rfl rfl .nil)) rfl rfl trivial ⟨asTab rfl rfl rfl,asIn rfl,trivial⟩ rfl⟩
     ·skip
      refine vc_skip ?_
      refine vc_seq ?_
      refine vc_region hm ?_
      refine gM trivial (.inl rfl) rfl rfl rfl ?_
      refine gM trivial (.inl rfl) rfl rfl rfl ?_
      refine gF trivial rfl rfl rfl rfl rfl ?_
      refine gL trivial rfl rfl rfl rfl rfl rfl rfl rfl ?_
      refine gL trivial rfl rfl rfl rfl rfl rfl rfl rfl ?_
      refine gCT (as':=[(5,one ⟨rSp (addL (at_ T who).r s),33,2⟩)]) (v':=.slice (some ⟨5,0,none⟩) (addL (at_ T who).r s).length 0) 6 [nA (nm 1 (2 * (who).toNat)),nF 5] [1] (spec_l1Add_c (l:=(at_ T who).r) (s:=s) (hB _ (at_mem (by have:=whoOk_in (who:=who) (by assumption);have:=ok_3 (T:=T) (by assumption);omega) (by have:=whoOk_in (who:=who) (by assumption);have:=ok_3 (T:=T) (by assumption);omega))).1 (spanOk_in (by assumption))) trivial rfl rfl rfl rfl rfl ⟨aRow rfl (rSp_flat _) rfl (inF_0 (by have:=whoOk_in (who:=who) (by assumption);have:=ok_3 (T:=T) (by assumption);omega) (by have:=whoOk_in (who:=who) (by assumption);have:=ok_3 (T:=T) (by assumption);omega)) (.inl rfl) (.inl rfl) rfl,trivial⟩ ⟨rFlatT (rSp_flat _) rfl,trivial⟩ ⟨rfl,rfl⟩ rfl rfl rfl ?_
      refine gF trivial rfl rfl rfl rfl rfl ?_
      refine gL trivial rfl rfl rfl rfl rfl rfl rfl rfl ?_
      refine gCT (as':=[(6,one ⟨rSp (withoutL (addL (at_ T who).r s) (at_ T who).w),33,2⟩)]) (v':=.slice (some ⟨6,0,none⟩) (withoutL (addL (at_ T who).r s) (at_ T who).w).length 0) 7 [nA (nm 5 (0)),nA (nm 1 (2 * (who).toNat + 1)),nF 6] [5,1] (spec_l4Without_c (a:=addL (at_ T who).r s) (b:=(at_ T who).w) l48 (hB _ (at_mem (by have:=whoOk_in (who:=who) (by assumption);have:=ok_3 (T:=T) (by assumption);omega) (by have:=whoOk_in (who:=who) (by assumption);have:=ok_3 (T:=T) (by assumption);omega))).2 (okW (by assumption) (by assumption)).2) trivial rfl rfl rfl rfl rfl ⟨aRow rfl (rSp_flat _) rfl rfl (.inl rfl) (.inl rfl) rfl,aRow rfl (rSp_flat _) rfl (inF_1 (by have:=whoOk_in (who:=who) (by assumption);have:=ok_3 (T:=T) (by assumption);omega) (by have:=whoOk_in (who:=who) (by assumption);have:=ok_3 (T:=T) (by assumption);omega)) (.inl rfl) (.inl rfl) rfl,trivial⟩ ⟨rFlatT (rSp_flat _) rfl,trivial⟩ ⟨rfl,rfl⟩ rfl rfl rfl ?_
      refine gF trivial rfl rfl rfl rfl rfl ?_
      refine gL trivial rfl rfl rfl rfl rfl rfl rfl rfl ?_
      refine gU trivial rfl rfl rfl rfl rfl rfl rfl rfl ?_
      refine gCT (as':=[(7,one ⟨rHv (tabV 8 zo (repT T who ⟨withoutL (addL (at_ T who).r s) (at_ T who).w,(at_ T who).w⟩)),54,2⟩),(8,inF zo 33 77 (repT T who ⟨withoutL (addL (at_ T who).r s) (at_ T who).w,(at_ T who).w⟩))]) (v':=.tuple #[.slice (some ⟨7,0,none⟩) (repT T who ⟨withoutL (addL (at_ T who).r s) (at_ T who).w,(at_ T who).w⟩).length 0,.bool (lockOk (setH T who ⟨withoutL (addL (at_ T who).r s) (at_ T who).w,(at_ T who).w⟩))]) 9 [nA (nm 0 (0)),nF 1,nA (nm 6 (0)),nA (nm 1 (2 * (who).toNat + 1)),nF 7,nF 8] [0,1,6] (spec_l4Put_c (T:=T) (who:=who) (h:=⟨withoutL (addL (at_ T who).r s) (at_ T who).w,(at_ T who).w⟩) hT hB wo_len (hB _ (at_mem (by have:=whoOk_in (who:=who) (by assumption);have:=ok_3 (T:=T) (by assumption);omega) (by have:=whoOk_in (who:=who) (by assumption);have:=ok_3 (T:=T) (by assumption);omega))).2 (whoOk_in (by assumption)) (ok_3 (by assumption))) trivial rfl rfl rfl rfl rfl ⟨aTab (k:=0) rfl rfl rfl rfl (.inl rfl) (.inl rfl) rfl rfl,aIn rfl rfl (.inl rfl) (.inl rfl) rfl,aRow rfl (rSp_flat _) rfl rfl (.inl rfl) (.inl rfl) rfl,aRow rfl (rSp_flat _) rfl (inF_1 (by have:=whoOk_in (who:=who) (by assumption);have:=ok_3 (T:=T) (by assumption);omega) (by have:=whoOk_in (who:=who) (by assumption);have:=ok_3 (T:=T) (by assumption);omega)) (.inl rfl) (.inl rfl) rfl,trivial⟩ ⟨rTab rfl rfl rfl,rIn rfl,trivial⟩ ⟨rfl,rfl⟩ rfl rfl rfl ?_
      refine gE trivial rfl rfl rfl rfl rfl rfl ?_
      refine gE trivial rfl rfl rfl rfl rfl rfl ?_
      refine gM trivial (.inr rfl) rfl rfl rfl ?_
      refine gM trivial (.inr rfl) rfl rfl rfl ?_
      refine rg_nil (fun _=>by kernel_rfl) ?_
      refine vc_ret ?_
      rw [giveH_F c38]
      rw [(res_go (by assumption) (goK_4 (by assumption) (by assumption) (give_yes (by assumption) (by assumption) (by assumption) (by assumption)))).1,(res_go (by assumption) (goK_4 (by assumption) (by assumption) (give_yes (by assumption) (by assumption) (by assumption) (by assumption)))).2]
      exact ⟨_,endsT [(2,7,one ⟨rHv (tabV 3 zo (repT T who ⟨withoutL (addL (at_ T who).r s) (at_ T who).w,(at_ T who).w⟩)),54,2⟩),(3,8,inF zo 33 77 (repT T who ⟨withoutL (addL (at_ T who).r s) (at_ T who).w,(at_ T who).w⟩))] (.inr rfl) (.tmp rfl rfl (.tmp rfl rfl .nil)) rfl rfl trivial ⟨asTab rfl rfl rfl,asIn rfl,trivial⟩ rfl⟩
theorem give1_c (f g z:Nat→Bool) {write:Bool}:FDoes Try.prog 68 [vPl f,vPl g,vPl z,.pointer (some ⟨0,0,none⟩)] (hp [(0,false,one ⟨[.bool write],4,1⟩)]) { v:=.tuple #[vPl (give1F f g z write),vPl (give1G g z write)],rd:=[0] }:=by
 have hm:Try.prog.follows .mixedOrders=true:=by kernel_rfl
 have hd_:∀ x_ ∈ ([(0,false,one ⟨[.bool write],4,1⟩)]:List (Nat × Bool × Fam)),∀ k_ y_,x_.2.2 k_=some y_→DetB (lt 1) y_:=by
  intro x_ hx k_ y_ e
  simp only [List.mem_cons,List.not_mem_nil,or_false] at hx
  subst hx
  exact det_row (rfl:[Value.bool write].all flat1=true) e
 refine fn_exact (u0:=1) Try.func68 rfl rfl (gets rfl rfl rfl hd_ rfl) ?_
 clear hd_
 refine vc_seq ?_
 refine vc_region hm ?_
 refine gB (u':=2) trivial rfl rfl rfl rfl rfl rfl rfl (show cellsL _=plL f from rfl) ?_
 refine gB (u':=3) trivial rfl rfl rfl rfl rfl rfl rfl (show cellsL _=plL g from rfl) ?_
 refine gB (u':=4) trivial rfl rfl rfl rfl rfl rfl rfl (show cellsL _=plL z from rfl) ?_
 refine gZ (u':=5) trivial rfl rfl rfl rfl rfl rfl rfl (show cellsL _=plL noP from rfl) ?_
 refine gZ (u':=6) trivial rfl rfl rfl rfl rfl rfl rfl (show cellsL _=plL noP from rfl) ?_
 refine rg_nil nofun ?_
 refine vc_seq ?_
 refine vc_seq ?_
 refine vc_region hm ?_
 refine gL trivial rfl rfl rfl rfl rfl rfl rfl rfl ?_
 refine rg_nil nofun ?_
 refine cI rfl (fun c9=>?_) (fun c9=>?_)
 ·skip
  refine vc_seq ?_
  refine vc_region hm ?_
  refine gL trivial rfl rfl rfl rfl rfl rfl rfl wPl ?_
  refine gL trivial rfl rfl rfl rfl rfl rfl rfl wPl ?_
  refine gC0 [] (put_c f z false) trivial rfl rfl rfl rfl (by trivial) rfl rfl (vPl_flat _) rfl rfl ?_
  refine gL trivial rfl rfl rfl rfl rfl rfl rfl wPl ?_
  refine gL trivial rfl rfl rfl rfl rfl rfl rfl wPl ?_
  refine gC0 [] (put_c g z true) trivial rfl rfl rfl rfl (by trivial) rfl rfl (vPl_flat _) rfl rfl ?_
  refine gT trivial rfl rfl rfl rfl rfl rfl rfl rfl rfl rfl zPl pPl ?_
  refine gT trivial rfl rfl rfl rfl rfl rfl rfl rfl rfl rfl zPl pPl ?_
  refine rg_nil (fun _=>by kernel_rfl) ?_
  refine vc_ret ?_
  exact ⟨idm,endsF (.inr rfl) (.cell rfl rfl rfl rfl wPl (.cell rfl rfl rfl rfl wPl .nil)) (give1_T (by assumption)) (pp_flat _ _) rfl⟩
 ·skip
  refine vc_skip ?_
  refine vc_seq ?_
  refine vc_region hm ?_
  refine gL trivial rfl rfl rfl rfl rfl rfl rfl wPl ?_
  refine gL trivial rfl rfl rfl rfl rfl rfl rfl wPl ?_
  refine gL trivial rfl rfl rfl rfl rfl rfl rfl wPl ?_
  refine gC0 [] (put_c z g false) trivial rfl rfl rfl rfl (by trivial) rfl rfl (vPl_flat _) rfl rfl ?_
  refine gC0 [] (put_c f (putP z g false) true) trivial rfl rfl rfl rfl (by trivial) rfl rfl (vPl_flat _) rfl rfl ?_
  refine gL trivial rfl rfl rfl rfl rfl rfl rfl wPl ?_
  refine gT trivial rfl rfl rfl rfl rfl rfl rfl rfl rfl rfl zPl pPl ?_
  refine gT trivial rfl rfl rfl rfl rfl rfl rfl rfl rfl rfl zPl pPl ?_
  refine rg_nil (fun _=>by kernel_rfl) ?_
  refine vc_ret ?_
  exact ⟨idm,endsF (.inr rfl) (.cell rfl rfl rfl rfl wPl (.cell rfl rfl rfl rfl wPl .nil)) (give1_F (by assumption)) (pp_flat _ _) rfl⟩
theorem turned_give {T:List Ho} {who:Int} {s:Sp} {may:Bool} {write:Bool} (hT:T.length≤1048576) (hB:∀ h ∈ T,h.r.length≤1048576∧h.w.length≤1048576):FDoes Try.prog 60 [.slice (some ⟨0,0,none⟩) T.length 0,.int .i64 who,vSp s,.bool may,.func (.func 68) #[] #[.pointer (some ⟨2,0,none⟩)]] (hp [(0,false,one ⟨rHv (tabV 1 zo T),54,0⟩),(1,false,inF zo 33 77 T),(2,false,one ⟨[.bool write],4,1⟩)]) (mkF (.tuple #[.slice (some ⟨3,0,none⟩) (resT T (goK who s may) who (giveI2 (at_ T who) write s)).length 0,.bool (resB T (goK who s may) who (giveI2 (at_ T who) write s))]) [0,1,2] [] [(3,one ⟨rHv (tabV 4 zo (resT T (goK who s may) who (giveI2 (at_ T who) write s))),54,2⟩),(4,inF zo 33 77 (resT T (goK who s may) who (giveI2 (at_ T who) write s)))]):=by
 have hm:Try.prog.follows .mixedOrders=true:=by kernel_rfl
 have hd_:∀ x_ ∈ ([(0,false,one ⟨rHv (tabV 1 zo T),54,0⟩),(1,false,inF zo 33 77 T),(2,false,one ⟨[.bool write],4,1⟩)]:List (Nat × Bool × Fam)),∀ k_ y_,x_.2.2 k_=some y_→DetB (lt 3) y_:=by
  intro x_ hx k_ y_ e
  simp only [List.mem_cons,List.not_mem_nil,or_false] at hx
  rcases hx with rfl|rfl|rfl
  ·exact det_tab (k0:=0) rfl e
  ·exact det_in e
  ·exact det_row (rfl:[Value.bool write].all flat1=true) e
 refine fn_exact (u0:=3) Try.func60 rfl rfl (gets rfl rfl rfl hd_ rfl) ?_
 clear hd_
 refine vc_seq ?_
 refine vc_region hm ?_
 refine gB (u':=4) trivial rfl rfl rfl rfl rfl rfl rfl rfl ?_
 refine gM trivial (.inr rfl) rfl rfl rfl ?_
 refine gM trivial (.inr rfl) rfl rfl rfl ?_
 refine rg_nil nofun ?_
 refine vc_seq ?_
 refine vc_seq ?_
 refine vc_region hm ?_
 refine gM trivial (.inl rfl) rfl rfl rfl ?_
 refine gCT0 [nA (nm 0 (0)),nF 1] [0,1] (impl_LockOk_c (T:=T) hT hB) trivial rfl rfl rfl rfl rfl ⟨aTab (k:=0) rfl rfl rfl rfl (.inl rfl) (.inl rfl) rfl rfl,aIn rfl rfl (.inl rfl) (.inl rfl) rfl,trivial⟩ rfl rfl rfl rfl ?_
 refine gN trivial rfl rfl rfl rfl ?_
 refine rg_nil nofun ?_
 refine cI rfl (fun c17=>?_) (fun c17=>?_)
 ·skip
  have n17:=unT c17
  refine vc_seq ?_
  refine vc_region hm ?_
  refine gM trivial (.inr rfl) rfl rfl rfl ?_
  refine gM trivial (.inr rfl) rfl rfl rfl ?_
  refine rg_nil nofun ?_
  refine vc_re (S2:=⟨5,[(10,.slice (some ⟨4,0,none⟩) 0 0),(11,.bool false)],[(0,false,one ⟨rHv (tabV 1 zo T),54,0⟩),(1,false,inF zo 33 77 T),(2,false,one ⟨[.bool write],4,1⟩),(4,true,one ⟨[],54,2⟩)]⟩) (re_nil (ms:=[0,1,2,3,4]) (C:=4) rfl ⟨⟨⟨rfl,rfl⟩,rfl⟩,⟨⟨rfl,rfl⟩,rfl⟩,trivial⟩ ⟨ktTab (k:=0) rfl rfl (.inr (.inl rfl)) id rfl rfl,ktIn rfl id rfl,ktFlat rfl rfl (.inr (.inl rfl)) id rfl,ktC1 rfl (by decide) rfl,trivial⟩ rfl rfl (rig_of rfl) rfl) ?_
  refine vc_re (S2:=⟨6,[(10,.slice (some ⟨4,0,none⟩) 0 0),(11,.bool false)],[(0,false,one ⟨rHv (tabV 1 zo T),54,0⟩),(1,false,inF zo 33 77 T),(2,false,one ⟨[.bool write],4,1⟩),(4,true,one ⟨rHv (tabV 5 zo []),54,2⟩),(5,true,inF zo 33 77 [])]⟩) (re_nil (ms:=[0,1,2,3,4,5]) (C:=5) rfl ⟨⟨⟨rfl,rfl⟩,rfl⟩,⟨⟨rfl,rfl⟩,rfl⟩,trivial⟩ ⟨ktTab (k:=0) rfl rfl (.inr (.inl rfl)) id rfl rfl,ktIn rfl id rfl,ktFlat rfl rfl (.inr (.inl rfl)) id rfl,ktFlat rfl rfl (.inr (.inl rfl)) id rfl,ktInN (n:=0) rfl (by decide) rfl,trivial⟩ rfl rfl (rig_of rfl) rfl) ?_
  refine vc_ret ?_
  rw [(res_no (by assumption)).1,(res_no (by assumption)).2]
  exact ⟨_,endsT [(3,4,one ⟨rHv (tabV 4 zo []),54,2⟩),(4,5,inF zo 33 77 [])] (.inr rfl) (.tmp rfl rfl (.tmp rfl rfl .nil)) rfl rfl trivial ⟨asTab rfl rfl rfl,asIn rfl,trivial⟩ rfl⟩
 ·skip
  have n17:=unF c17
  refine vc_skip ?_
  refine vc_seq ?_
  refine vc_region hm ?_
  refine gM trivial (.inl rfl) rfl rfl rfl ?_
  refine gCT (as':=[(4,one ⟨rHv (tabV 5 zo T),54,2⟩),(5,inF zo 33 77 T)]) (v':=.slice (some ⟨4,0,none⟩) T.length 0) 6 [nA (nm 0 (0)),nF 1,nF 4,nF 5] [0,1] (copied_c (T:=T) hT hB) trivial rfl rfl rfl rfl rfl ⟨aTab (k:=0) rfl rfl rfl rfl (.inl rfl) (.inl rfl) rfl rfl,aIn rfl rfl (.inr rfl) (.inr (.inl rfl)) rfl,trivial⟩ ⟨rTab rfl rfl rfl,rIn rfl,trivial⟩ ⟨rfl,rfl⟩ rfl rfl rfl ?_
  refine gM trivial (.inr rfl) rfl rfl rfl ?_
  refine rg_nil nofun ?_
  refine vc_seq ?_
  refine vc_seq ?_
  refine vc_region hm ?_
  refine gM trivial (.inl rfl) rfl rfl rfl ?_
  refine gC0 [] (client_c who) trivial rfl rfl rfl rfl (by trivial) rfl rfl rfl rfl rfl ?_
  refine gN trivial rfl rfl rfl rfl ?_
  refine gM trivial (.inl rfl) rfl rfl rfl ?_
  refine gI2 (d:=23) rfl (fun c23=>?_) (fun c23=>?_)
  ·skip
   have n23:=unT c23
   refine gO ⟨_,_,rfl,rfl,c23⟩ rfl rfl ?_
   refine gO ⟨_,_,rfl,rfl,c23⟩ rfl rfl ?_
   refine gO ⟨_,_,rfl,rfl,c23⟩ rfl rfl ?_
   refine gPT trivial rfl rfl c23 rfl rfl rfl ?_
   refine gM trivial (.inl rfl) rfl rfl rfl ?_
   refine gO ⟨_,_,rfl,rfl,rfl⟩ rfl rfl ?_
   refine gO ⟨_,_,rfl,rfl,rfl⟩ rfl rfl ?_
   refine gPT trivial rfl rfl rfl rfl rfl rfl ?_
   refine rg_nil nofun ?_
   refine cT rfl rfl ?_
   refine vc_seq ?_
   refine vc_region hm ?_
   refine gM trivial (.inl rfl) rfl rfl rfl ?_
   refine gM trivial (.inr rfl) rfl rfl rfl ?_
   refine gM trivial (.inr rfl) rfl rfl rfl ?_
   refine rg_nil nofun ?_
   refine vc_ret ?_
   rw [(res_stay (by assumption) (by first|exact goK_1 (by assumption)|exact goK_2 (by assumption)|exact goK_3 (by assumption))).1,(res_stay (by assumption) (by first|exact goK_1 (by assumption)|exact goK_2 (by assumption)|exact goK_3 (by assumption))).2]
   exact ⟨_,endsT [(3,4,one ⟨rHv (tabV 4 zo T),54,2⟩),(4,5,inF zo 33 77 T)] (.inr rfl) (.tmp rfl rfl (.tmp rfl rfl .nil)) rfl rfl trivial ⟨asTab rfl rfl rfl,asIn rfl,trivial⟩ rfl⟩
  ·skip
   have n23:=unF c23
   refine gL ⟨_,_,rfl,rfl,c23⟩ rfl rfl rfl rfl rfl rfl rfl rfl ?_
   refine gC0 [] (impl_SpanOk_c s) ⟨_,_,rfl,rfl,c23⟩ rfl rfl rfl rfl (by trivial) rfl rfl rfl rfl rfl ?_
   refine gN ⟨_,_,rfl,rfl,c23⟩ rfl rfl rfl rfl ?_
   refine gPF trivial rfl rfl c23 rfl rfl rfl ?_
   refine gM trivial (.inl rfl) rfl rfl rfl ?_
   refine gI2 (d:=28) rfl (fun c28=>?_) (fun c28=>?_)
   ·skip
    have n28:=unT c28
    refine gO ⟨_,_,rfl,rfl,c28⟩ rfl rfl ?_
    refine gO ⟨_,_,rfl,rfl,c28⟩ rfl rfl ?_
    refine gPT trivial rfl rfl c28 rfl rfl rfl ?_
    refine rg_nil nofun ?_
    refine cT rfl rfl ?_
    refine vc_seq ?_
    refine vc_region hm ?_
    refine gM trivial (.inl rfl) rfl rfl rfl ?_
    refine gM trivial (.inr rfl) rfl rfl rfl ?_
    refine gM trivial (.inr rfl) rfl rfl rfl ?_
    refine rg_nil nofun ?_
    refine vc_ret ?_
    rw [(res_stay (by assumption) (by first|exact goK_1 (by assumption)|exact goK_2 (by assumption)|exact goK_3 (by assumption))).1,(res_stay (by assumption) (by first|exact goK_1 (by assumption)|exact goK_2 (by assumption)|exact goK_3 (by assumption))).2]
    exact ⟨_,endsT [(3,4,one ⟨rHv (tabV 4 zo T),54,2⟩),(4,5,inF zo 33 77 T)] (.inr rfl) (.tmp rfl rfl (.tmp rfl rfl .nil)) rfl rfl trivial ⟨asTab rfl rfl rfl,asIn rfl,trivial⟩ rfl⟩
   ·skip
    have n28:=unF c28
    refine gM ⟨_,_,rfl,rfl,c28⟩ (.inl rfl) rfl rfl rfl ?_
    refine gN ⟨_,_,rfl,rfl,c28⟩ rfl rfl rfl rfl ?_
    refine gPF trivial rfl rfl c28 rfl rfl rfl ?_
    refine rg_nil nofun ?_
    refine cI rfl (fun c31=>?_) (fun c31=>?_)
    ·skip
     have n31:=unT c31
     refine vc_seq ?_
     refine vc_region hm ?_
     refine gM trivial (.inl rfl) rfl rfl rfl ?_
     refine gM trivial (.inr rfl) rfl rfl rfl ?_
     refine gM trivial (.inr rfl) rfl rfl rfl ?_
     refine rg_nil nofun ?_
     refine vc_ret ?_
     rw [(res_stay (by assumption) (by first|exact goK_1 (by assumption)|exact goK_2 (by assumption)|exact goK_3 (by assumption))).1,(res_stay (by assumption) (by first|exact goK_1 (by assumption)|exact goK_2 (by assumption)|exact goK_3 (by assumption))).2]
     exact ⟨_,endsT [(3,4,one ⟨rHv (tabV 4 zo T),54,2⟩),(4,5,inF zo 33 77 T)] (.inr rfl) (.tmp rfl rfl (.tmp rfl rfl .nil)) rfl rfl trivial ⟨asTab rfl rfl rfl,asIn rfl,trivial⟩ rfl⟩
    ·skip
     have n31:=unF c31
     refine vc_skip ?_
     refine vc_seq ?_
     refine vc_region hm ?_
     refine gM trivial (.inl rfl) rfl rfl rfl ?_
     refine gM trivial (.inl rfl) rfl rfl rfl ?_
     refine gM trivial (.inl rfl) rfl rfl rfl ?_
     refine gX trivial rfl rfl rfl rfl rfl rfl rfl rfl (by have:=whoOk_in (who:=who) (by assumption);have:=ok_3 (T:=T) (by assumption);omega) (by have:=whoOk_in (who:=who) (by assumption);have:=ok_3 (T:=T) (by assumption);omega) tabV_ne ?_
     refine gF trivial rfl rfl rfl rfl rfl ?_
     refine gL trivial rfl rfl rfl rfl rfl rfl rfl (lH0 (by have:=whoOk_in (who:=who) (by assumption);have:=ok_3 (T:=T) (by assumption);omega) (by have:=whoOk_in (who:=who) (by assumption);have:=ok_3 (T:=T) (by assumption);omega)) ?_
     refine gCT0 [nA (nm 1 (2 * (who).toNat))] [1] (of_c (l:=(at_ T who).r) (inB_of (okW (by assumption) (by assumption)).1) (by have:=spansOk_len (l:=(at_ T who).r) (okW (by assumption) (by assumption)).1;omega)) trivial rfl rfl rfl rfl rfl ⟨aRow rfl (rSp_flat _) rfl (inF_0 (by have:=whoOk_in (who:=who) (by assumption);have:=ok_3 (T:=T) (by assumption);omega) (by have:=whoOk_in (who:=who) (by assumption);have:=ok_3 (T:=T) (by assumption);omega)) (.inl rfl) (.inl rfl) rfl,trivial⟩ (vPl_flat _) rfl rfl rfl ?_
     refine gM trivial (.inl rfl) rfl rfl rfl ?_
     refine gM trivial (.inl rfl) rfl rfl rfl ?_
     refine gX trivial rfl rfl rfl rfl rfl rfl rfl rfl (by have:=whoOk_in (who:=who) (by assumption);have:=ok_3 (T:=T) (by assumption);omega) (by have:=whoOk_in (who:=who) (by assumption);have:=ok_3 (T:=T) (by assumption);omega) tabV_ne ?_
     refine gF trivial rfl rfl rfl rfl rfl ?_
     refine gL trivial rfl rfl rfl rfl rfl rfl rfl (lH1 (by have:=whoOk_in (who:=who) (by assumption);have:=ok_3 (T:=T) (by assumption);omega) (by have:=whoOk_in (who:=who) (by assumption);have:=ok_3 (T:=T) (by assumption);omega)) ?_
     refine gCT0 [nA (nm 1 (2 * (who).toNat + 1))] [1] (of_c (l:=(at_ T who).w) (inB_of (okW (by assumption) (by assumption)).2) (by have:=spansOk_len (l:=(at_ T who).w) (okW (by assumption) (by assumption)).2;omega)) trivial rfl rfl rfl rfl rfl ⟨aRow rfl (rSp_flat _) rfl (inF_1 (by have:=whoOk_in (who:=who) (by assumption);have:=ok_3 (T:=T) (by assumption);omega) (by have:=whoOk_in (who:=who) (by assumption);have:=ok_3 (T:=T) (by assumption);omega)) (.inl rfl) (.inl rfl) rfl,trivial⟩ (vPl_flat _) rfl rfl rfl ?_
     refine gL trivial rfl rfl rfl rfl rfl rfl rfl rfl ?_
     refine gR (u':=7) (out:=rSp [s]) trivial rfl rfl rfl rfl rfl rfl rfl rfl rfl rfl rfl rfl rfl rfl ?_
     refine gC0 [6] (of_c (l:=[s]) (inB_one' (by assumption)) (show 1≤1000000 by decide)) trivial rfl rfl rfl rfl ⟨rFlat (rSp_flat [s]) rfl (.inl rfl) rfl,trivial⟩ rfl rfl (vPl_flat _) rfl rfl ?_
     refine gCcT (as_:=[]) (as':=[]) (v':=.tuple #[vPl (give1F (ofP (at_ T who).r) (ofP (at_ T who).w) (ofP [s]) write),vPl (give1G (ofP (at_ T who).w) (ofP [s]) write)]) 7 [nA (nm 2 (0))] [2] (give1_c (ofP (at_ T who).r) (ofP (at_ T who).w) (ofP [s]) (write:=write)) trivial rfl rfl rfl rfl rfl rfl rfl ⟨aRow rfl rfl rfl rfl (.inr rfl) (.inr (.inl rfl)) rfl,trivial⟩ trivial ⟨(po3_flatT (pp_flat _ _)).2.symm,(po3_flatT (pp_flat _ _)).1⟩ rfl rfl rfl ?_
     refine gM trivial (.inl rfl) rfl rfl rfl ?_
     refine gE trivial rfl rfl rfl rfl rfl rfl ?_
     refine gE trivial rfl rfl rfl rfl rfl rfl ?_
     refine gZ (u':=8) trivial rfl rfl rfl rfl rfl rfl rfl (show cellsL _=plL noP from rfl) ?_
     refine gZ (u':=9) trivial rfl rfl rfl rfl rfl rfl rfl (show cellsL _=plL noP from rfl) ?_
     refine gT trivial rfl rfl rfl rfl rfl rfl rfl rfl rfl rfl zPl pPl ?_
     refine gT trivial rfl rfl rfl rfl rfl rfl rfl rfl rfl rfl zPl pPl ?_
     refine rg_nil (fun _=>by kernel_rfl) ?_
     refine vc_seq ?_
     refine vc_region hm ?_
     refine gM trivial (.inl rfl) rfl rfl rfl ?_
     refine gM trivial (.inl rfl) rfl rfl rfl ?_
     refine gL trivial rfl rfl rfl rfl rfl rfl rfl wPl ?_
     refine gCn 10 [9] (spans_c (give1F (ofP (at_ T who).r) (ofP (at_ T who).w) (ofP [s]) write)) trivial rfl rfl rfl rfl (by trivial) ⟨rSp_flat _,trivial⟩ rfl rfl rfl rfl ?_
     refine gL trivial rfl rfl rfl rfl rfl rfl rfl wPl ?_
     refine gCn 11 [10] (spans_c (give1G (ofP (at_ T who).w) (ofP [s]) write)) trivial rfl rfl rfl rfl (by trivial) ⟨rSp_flat _,trivial⟩ rfl rfl rfl rfl ?_
     refine gU trivial rfl rfl rfl rfl rfl rfl rfl rfl ?_
     refine gX trivial rfl rfl rfl rfl rfl rfl rfl rfl (by have:=whoOk_in (who:=who) (by assumption);have:=ok_3 (T:=T) (by assumption);omega) (by have:=whoOk_in (who:=who) (by assumption);have:=ok_3 (T:=T) (by assumption);omega) tabV_ne ?_
     refine gT trivial rfl rfl rfl rfl rfl rfl rfl rfl rfl rfl (show 0 + who.toNat * 2 + 2≤_ from by have:=whoOk_in (who:=who) (by assumption);have:=ok_3 (T:=T) (by assumption);rw [rowL_len (n:=2) (fun _=>rfl),tabV_len];omega) (tab_put (i:=who.toNat) (show 0 + who.toNat * 2=who.toNat * 2 by omega) (by rw [tabV_len];have:=whoOk_in (who:=who) (by assumption);have:=ok_3 (T:=T) (by assumption);omega)) ?_
     refine rg_nil (fun _=>by kernel_rfl) ?_
     refine vc_seq ?_
     refine vc_seq ?_
     refine vc_region hm ?_
     refine gM trivial (.inl rfl) rfl rfl rfl ?_
     refine gCT0 [nA (nm 4 (0)),nX 5 (2 * who.toNat) 9 10] [4,5,9,10] (impl_LockOk_c (T:=(setH T who (giveI2 (at_ T who) write s))) (by rw [setH_len];exact hT) (setH_B hB ⟨l48,l48⟩)) trivial rfl rfl rfl (by rw [setH_len];rfl) rfl ⟨aTabX rfl rfl rfl rfl set_xl (fun q=>set_i (whoOk_in (by assumption)).1 q) (fun j q q'=>set_j q q') (.inl rfl) (.inl rfl) rfl rfl,aInX rfl rfl rfl rfl (fun j q _=>set_g q) (set_at (by have:=whoOk_in (who:=who) (by assumption);have:=ok_3 (T:=T) (by assumption);omega)) rfl,trivial⟩ rfl rfl rfl rfl ?_
     refine gN trivial rfl rfl rfl rfl ?_
     refine rg_nil nofun ?_
     refine cI rfl (fun c63=>?_) (fun c63=>?_)
     ·skip
      have n63:=unT c63
      refine vc_seq ?_
      refine vc_region hm ?_
      refine gM trivial (.inl rfl) rfl rfl rfl ?_
      refine gCT (as':=[(11,one ⟨rHv (tabV 12 zo T),54,2⟩),(12,inF zo 33 77 T)]) (v':=.slice (some ⟨11,0,none⟩) T.length 0) 13 [nA (nm 0 (0)),nF 1,nF 11,nF 12] [0,1] (copied_c (T:=T) hT hB) trivial rfl rfl rfl rfl rfl ⟨aTab (k:=0) rfl rfl rfl rfl (.inl rfl) (.inl rfl) rfl rfl,aIn rfl rfl (.inr rfl) (.inr (.inl rfl)) rfl,trivial⟩ ⟨rTab rfl rfl rfl,rIn rfl,trivial⟩ ⟨rfl,rfl⟩ rfl rfl rfl ?_
      refine gM trivial (.inr rfl) rfl rfl rfl ?_
      refine gM trivial (.inr rfl) rfl rfl rfl ?_
      refine rg_nil nofun ?_
      refine vc_ret ?_
      rw [(res_go (by assumption) (goK_4 (by assumption) (by assumption) (by assumption))).1,(res_go (by assumption) (goK_4 (by assumption) (by assumption) (by assumption))).2,repT_F n63,n63]
      exact ⟨_,endsT [(3,11,one ⟨rHv (tabV 4 zo T),54,2⟩),(4,12,inF zo 33 77 T)] (.inr rfl) (.tmp rfl rfl (.tmp rfl rfl .nil)) rfl rfl trivial ⟨asTab rfl rfl rfl,asIn rfl,trivial⟩ rfl⟩
     ·skip
      have n63:=unF c63
      refine vc_skip ?_
      refine vc_seq ?_
      refine vc_region hm ?_
      refine gM trivial (.inl rfl) rfl rfl rfl ?_
      refine gM trivial (.inr rfl) rfl rfl rfl ?_
      refine gM trivial (.inr rfl) rfl rfl rfl ?_
      refine rg_nil nofun ?_
      refine vc_re (S2:=⟨6,[(10,.slice (some ⟨4,0,none⟩) T.length 0),(11,.bool true)],[(0,false,one ⟨rHv (tabV 1 zo T),54,0⟩),(1,false,inF zo 33 77 T),(2,false,one ⟨[.bool write],4,1⟩),(4,true,one ⟨rHv (tabV 5 zo (setH T who (giveI2 (at_ T who) write s))),54,2⟩),(5,true,inF zo 33 77 (setH T who (giveI2 (at_ T who) write s)))]⟩) (re_fold (ms:=[0,1,2,3,4,5]) (C:=5) (C':=5) (i:=2 * who.toNat) (a:=9) (b:=10) rfl ⟨⟨⟨rfl,rfl⟩,rfl⟩,⟨⟨rfl,rfl⟩,rfl⟩,trivial⟩ ⟨ktTab (k:=0) rfl rfl (.inr (.inl rfl)) id rfl rfl,ktIn rfl id rfl,ktFlat rfl rfl (.inr (.inl rfl)) id rfl,ktTabC rfl set_xl (fun q=>set_i (whoOk_in (by assumption)).1 q) (fun j q q'=>set_j q q') (.inr (.inl rfl)) id rfl rfl,kPutC (T1:=T) (e:=77) (e1:=77) (ea:=2) (eb:=2) (fun j q _=>set_g (T:=T) q) (set_at (T:=T) (who:=who) (by have:=whoOk_in (who:=who) (by assumption);have:=ok_3 (T:=T) (by assumption);omega)) rfl rfl rfl (.inr ⟨.inl rfl,.inr ⟨by decide,by decide,by decide⟩,.inr ⟨by decide,by decide,by decide⟩⟩) (fun _=>⟨rfl,rfl,rfl⟩) rfl,trivial⟩ rfl rfl (rig_of rfl) rfl rfl) ?_
      refine vc_ret ?_
      rw [(res_go (by assumption) (goK_4 (by assumption) (by assumption) (by assumption))).1,(res_go (by assumption) (goK_4 (by assumption) (by assumption) (by assumption))).2,repT_T n63,n63]
      exact ⟨_,endsT [(3,4,one ⟨rHv (tabV 4 zo (setH T who (giveI2 (at_ T who) write s))),54,2⟩),(4,5,inF zo 33 77 (setH T who (giveI2 (at_ T who) write s)))] (.inr rfl) (.tmp rfl rfl (.tmp rfl rfl .nil)) (by rw [setH_len];rfl) rfl trivial ⟨asTab rfl rfl rfl,asIn rfl,trivial⟩ rfl⟩
theorem impl_LockGive_c {T:List Ho} {who:Int} {write:Bool} {s:Sp} (hT:T.length≤1048576) (hB:∀ h ∈ T,h.r.length≤1048576∧h.w.length≤1048576):FDoes Try.prog 35 [.slice (some ⟨0,0,none⟩) T.length 0,.int .i64 who,.bool write,vSp s] (hp [(0,false,one ⟨rHv (tabV 1 zo T),54,0⟩),(1,false,inF zo 33 77 T)]) (mkF (.tuple #[.slice (some ⟨2,0,none⟩) (resT T (goK who s (decide (((lockBars T who write s).length:Int)=0))) who (giveH (at_ T who) write s)).length 0,.bool (resB T (goK who s (decide (((lockBars T who write s).length:Int)=0))) who (giveH (at_ T who) write s))]) [0,1] [] [(2,one ⟨rHv (tabV 3 zo (resT T (goK who s (decide (((lockBars T who write s).length:Int)=0))) who (giveH (at_ T who) write s))),54,2⟩),(3,inF zo 33 77 (resT T (goK who s (decide (((lockBars T who write s).length:Int)=0))) who (giveH (at_ T who) write s)))]):=by
 have hm:Try.prog.follows .mixedOrders=true:=by kernel_rfl
 have hd_:∀ x_ ∈ ([(0,false,one ⟨rHv (tabV 1 zo T),54,0⟩),(1,false,inF zo 33 77 T)]:List (Nat × Bool × Fam)),∀ k_ y_,x_.2.2 k_=some y_→DetB (lt 2) y_:=by
  intro x_ hx k_ y_ e
  simp only [List.mem_cons,List.not_mem_nil,or_false] at hx
  rcases hx with rfl|rfl
  ·exact det_tab (k0:=0) rfl e
  ·exact det_in e
 refine fn_exact (u0:=2) Try.func35 rfl rfl (gets rfl rfl rfl hd_ rfl) ?_
 clear hd_
 refine vc_seq ?_
 refine vc_region hm ?_
 refine gB (u':=3) trivial rfl rfl rfl rfl rfl rfl rfl rfl ?_
 refine gB (u':=4) trivial rfl rfl rfl rfl rfl rfl rfl rfl ?_
 refine gM trivial (.inr rfl) rfl rfl rfl ?_
 refine gM trivial (.inr rfl) rfl rfl rfl ?_
 refine rg_nil nofun ?_
 refine vc_seq ?_
 refine vc_region hm ?_
 refine gM trivial (.inl rfl) rfl rfl rfl ?_
 refine gM trivial (.inl rfl) rfl rfl rfl ?_
 refine gL trivial rfl rfl rfl rfl rfl rfl rfl rfl ?_
 refine gM trivial (.inl rfl) rfl rfl rfl ?_
 refine gM trivial (.inl rfl) rfl rfl rfl ?_
 refine gL trivial rfl rfl rfl rfl rfl rfl rfl rfl ?_
 refine gL trivial rfl rfl rfl rfl rfl rfl rfl rfl ?_
 refine gCT (as':=[(4,one ⟨rI (lockBars T who write s),3,1⟩)]) (v':=.slice (some ⟨4,0,none⟩) (lockBars T who write s).length 0) 5 [nA (nm 0 (0)),nF 1,nF 4] [0,1] (impl_LockBars_c (T:=T) (who:=who) (write:=write) (s:=s) hT hB) trivial rfl rfl rfl rfl rfl ⟨aTab (k:=0) rfl rfl rfl rfl (.inl rfl) (.inl rfl) rfl rfl,aIn rfl rfl (.inl rfl) (.inl rfl) rfl,trivial⟩ ⟨rFlatT (rI_flat _) rfl,trivial⟩ ⟨rfl,rfl⟩ rfl rfl rfl ?_
 refine gK trivial rfl rfl rfl rfl rfl rfl rI_nil ?_
 refine gI trivial rfl rfl rfl rfl rfl rfl ?_
 refine gFn trivial rfl rfl rfl rfl rfl ?_
 refine gCT (as':=[(5,one ⟨rHv (tabV 6 zo (resT T (goK who s (decide (((lockBars T who write s).length:Int)=0))) who (giveI2 (at_ T who) write s))),54,2⟩),(6,inF zo 33 77 (resT T (goK who s (decide (((lockBars T who write s).length:Int)=0))) who (giveI2 (at_ T who) write s)))]) (v':=.tuple #[.slice (some ⟨5,0,none⟩) (resT T (goK who s (decide (((lockBars T who write s).length:Int)=0))) who (giveI2 (at_ T who) write s)).length 0,.bool (resB T (goK who s (decide (((lockBars T who write s).length:Int)=0))) who (giveI2 (at_ T who) write s))]) 7 [nA (nm 0 (0)),nF 1,nA (nm 2 (0)),nF 5,nF 6] [0,1,2] (turned_give (T:=T) (who:=who) (s:=s) (may:=(decide (((lockBars T who write s).length:Int)=0))) (write:=write) hT hB) trivial rfl rfl rfl rfl rfl ⟨aTab (k:=0) rfl rfl rfl rfl (.inl rfl) (.inl rfl) rfl rfl,aIn rfl rfl (.inr rfl) (.inr (.inl rfl)) rfl,aRow rfl rfl rfl rfl (.inr rfl) (.inr (.inl rfl)) rfl,trivial⟩ ⟨rTab rfl rfl rfl,rIn rfl,trivial⟩ ⟨rfl,rfl⟩ rfl rfl rfl ?_
 refine gE trivial rfl rfl rfl rfl rfl rfl ?_
 refine gE trivial rfl rfl rfl rfl rfl rfl ?_
 refine gM trivial (.inr rfl) rfl rfl rfl ?_
 refine gM trivial (.inr rfl) rfl rfl rfl ?_
 refine rg_nil (fun _=>by kernel_rfl) ?_
 refine vc_ret ?_
 rw [giveR,giveRB]
 exact ⟨_,endsT [(2,5,one ⟨rHv (tabV 3 zo (resT T (goK who s (decide (((lockBars T who write s).length:Int)=0))) who (giveI2 (at_ T who) write s))),54,2⟩),(3,6,inF zo 33 77 (resT T (goK who s (decide (((lockBars T who write s).length:Int)=0))) who (giveI2 (at_ T who) write s)))] (.inr rfl) (.tmp rfl rfl (.tmp rfl rfl .nil)) rfl rfl trivial ⟨asTab rfl rfl rfl,asIn rfl,trivial⟩ rfl⟩
end Go.Proofs.Ytcdhnaojdhdehaa.A
namespace Go.Proofs.Ytcdhnaojdhdehaa.A
open Go Go.RowKit
open Go.Joins Go.ChangeShapes Go.WideShapes Go.Deep
def RawN (w:World) (v:Value) (N:Nam) (k n:Nat) (cs:List Value):Prop :=
 v=(if N.nil=true then zv N.z else .slice (some ⟨N.blk,k,none⟩) n (N.cap - 0))∧(if N.nil=true then hls k cs = [] else ∃ (c:Array Value) (t:TypeId) (z:Nat × Nat),w.heap[N.blk]?=some (.cells c t z)∧∀ (i:Nat) (x:Value),(hls k cs)[i]?=some x→x ≠ hole→c[i]?=some x)
theorem raw_none {w:World}:RawN w (.slice none 0 0) ⟨0,0,true,none⟩ 0 0 []:=⟨rfl,rfl⟩
theorem raw_of {α:Type} {enc:α→List Value} {m:Nat} (he:∀ x,(enc x).length=m) (hm:0<m) {w:World} {a:Addr} {cap:Nat} {l:List α} (h:∀ i x,(rowL enc l)[i]?=some x→w.cell? (a.add i)=some x):∃ N k,RawN w (.slice (some a) l.length cap) N k l.length (rowL enc l):=by
 rcases l with _|⟨x,xs⟩
 ·exact ⟨⟨0,0,true,some (a,cap)⟩,0,rfl,rfl⟩
 ·have hp0:0<(rowL enc (x :: xs)).length:=by rw [rowL_len he,List.length_cons];exact Nat.mul_pos (Nat.succ_pos _) hm
  have h0:=h 0 _ (List.getElem?_eq_getElem hp0)
  have h1:∃ c t z,w.heap[a.block]?=some (.cells c t z)∧a.spot=none:=by
   have e:a.add 0=a:=by simp [Addr.add]
   unfold World.cell? at h0
   rw [e] at h0
   split at h0
   ·rename_i c t z hh
    refine ⟨c,t,z,hh,?_⟩
    split at h0
    ·cases h0
    ·rename_i hs;simpa using hs
   ·cases h0
  obtain ⟨c,t,z,hh,hs⟩:=h1
  obtain ⟨b,off,sp⟩:=a
  simp only at hs hh
  subst hs
  refine ⟨⟨b,cap,false,none⟩,off,rfl,(if_neg Bool.false_ne_true).mpr ⟨c,t,z,hh,fun i v hv hne=>?_⟩⟩
  unfold hls at hv
  by_cases hi:i<off
  ·rw [List.getElem?_append_left (by simpa using hi)] at hv
   have:=List.mem_of_getElem? hv
   exact absurd (List.eq_of_mem_replicate this) hne
  ·rw [List.getElem?_append_right (by simpa using hi),List.length_replicate] at hv
   have:=h (i - off) v hv
   rw [add_eq,cell_eq hh] at this
   rw [← this]
   congr 1
   omega
def AtL (ρ:Env) (w:World):List (Nat × Bool × Fam)→Prop
 | []=>True
 | x :: l=>famAt ρ w x.1 x.2.2∧AtL ρ w l
theorem atL_mem {ρ:Env} {w:World}:∀ {l:List (Nat × Bool × Fam)},AtL ρ w l→∀ b o F,l.lookup b=some (o,F)→famAt ρ w b F
 | x :: l,h,b,o,F,e=>by
  obtain ⟨c,y⟩:=x
  rw [List.lookup_cons] at e
  by_cases hb:b=c
  ·subst hb
   simp at e
   subst e
   exact h.1
  ·have:(b == c)=false:=by simpa using hb
   rw [this] at e
   exact atL_mem h.2 b o F e
theorem law_done {P:Program} {f:FuncId} {args:List Value} {hl:List (Nat × Bool × Fam)} {rd:List Nat} {ρ:Env} {w:World} {vs:Array Value} (h:FDoes P f args (hp hl) { v:=.bool true,rd:=rd }) (ha:(args.map (r3 ρ)).toArray=vs) (hr:AtL ρ w hl) :
  Calls P f vs w fun e w'=>e = .returned (.bool true)∧Below w.heap.size w w':=by
 subst ha
 refine (h.run ρ w ⟨fun b _ o F e=>atL_mem hr b o F e,fun b hb=>(by cases hb)⟩).mono fun e w' ⟨ρ',hB,he⟩=>⟨he,?_⟩
 have hf:=hB.frm
 exact Frm.below ⟨hf.os,hf.tape,hf.output,hf.size,fun k hk hn=>hf.block k hk fun ⟨b,hb,_⟩=>(by cases hb)⟩
section
variable {H:Type} {enc:TypeId × Value→H} {P:Program} {w:World} {base:Nat} {spare:Nat→Bool} {held:Bool}
theorem open_agg2 {r:Reach} {b0:Nat} {t:TypeId} {f0 f1:Field} {v:Value} {d:DataW H} {p:List MemPlace} (hs:P.underlying t=some (.struct #[f0,f1])) (hone:oneCellFields P #[f0,f1]=true) (hC:P.cellsOf t=2)
  (hv:Value.okWide P w r b0 t v) (h:DataW.Trod enc P w base spare held t v d p) :
  ∃ (v0 v1:Value) (y0 y1:DataW H × List MemPlace) (n:Nat),v = .agg #[v0,v1]∧DataW.trod enc P w base spare held n f0.type [v0]=some y0∧DataW.trod enc P w base spare held n f1.type [v1]=some y1:=by
 obtain ⟨cs,rfl,hsz⟩:=okWide_struct hs hv
 obtain ⟨l⟩:=cs
 match l,hsz.trans hC with
 | [c0,c1],_ =>
  obtain ⟨fuel,hf⟩:=h
  obtain ⟨xs,n,_,hx,_,hlen,hg⟩:=DataW.trod_struct hs hf
  obtain ⟨o0,k0⟩:=hone_of hone 0 f0 rfl
  obtain ⟨o1,k1⟩:=hone_of hone 1 f1 rfl
  match xs,hlen with
  | [y0,y1],_ =>
   exact ⟨c0,c1,y0,y1,n,rfl,by simpa [Value.cells,o0,k0] using hg 0 f0 rfl,by simpa [Value.cells,o1,k1] using hg 1 f1 rfl⟩
end
def vInt:Value→Int
 | .int _ n=>n
 | _=>0
def Fits64 (n:Int):Prop:=-9223372036854775808≤n∧n≤9223372036854775807
theorem fits_of {n:Int} (h:(Lit.int .i64 n).wf=true):Fits64 n:=by
 have e1:IntKind.i64.min = -9223372036854775808:=by decide
 have e2:IntKind.i64.max=9223372036854775807:=by decide
 simp only [Lit.wf,e1,e2,Bool.and_eq_true,decide_eq_true_eq] at h
 exact h
section
variable {H:Type} {enc:TypeId × Value→H} {w:World} {base:Nat} {spare:Nat→Bool} {held:Bool}
theorem open_spanA {r:Reach} {b0:Nat} {v:Value} {d:DataW H} {p:List MemPlace} (hv:Value.okWide Try.prog w r b0 31 v) (h:DataW.Trod enc Try.prog w base spare held 31 v d p):∃ s:Sp,v=vSp s∧Fits64 s.lo∧Fits64 s.hi:=by
 obtain ⟨v0,v1,y0,y1,n,rfl,h0,h1⟩:=open_agg2 Try.underlying31 (by kernel_rfl) (by kernel_rfl) hv h
 obtain ⟨a0,e0,_,w0⟩:=DataW.trod_int Try.underlying3 h0
 obtain ⟨a1,e1,_,w1⟩:=DataW.trod_int Try.underlying3 h1
 simp only [List.cons.injEq,_root_.and_true] at e0 e1
 exact ⟨⟨a0,a1⟩,by rw [e0,e1];rfl,fits_of w0,fits_of w1⟩
theorem rd_spansA {fuel:Nat} {v:Value} {x:DataW H × List MemPlace} (h:DataW.trod enc Try.prog w base spare held fuel 48 [v]=some x) :
  ∃ (l:List Sp) (N:Nam) (k:Nat),RawN w v N k l.length (rSp l)∧l.length≤9223372036854775807:=by
 rcases open_slice_pairs Try.underlying48 Try.underlying31 (by kernel_rfl) rfl rfl (by kernel_rfl) (by kernel_rfl) h with ⟨h1,_⟩|⟨a,len,cap,m,n,V0,V1,D0,D1,P0,P1,h1,_,hl,hm,hz,_,hc⟩
 ·simp only [List.cons.injEq,_root_.and_true] at h1
  subst h1
  exact ⟨[],_,_,raw_none,by decide⟩
 ·simp only [List.cons.injEq,_root_.and_true] at h1
  unfold maxLen at hm
  have hlm:len≤m:=by rw [hz];split <;> omega
  have hn:((List.range len).map fun i=>(⟨vInt (V0 i),vInt (V1 i)⟩:Sp)).length=len:=by rw [List.length_map,List.length_range]
  have key:∀ i x,(rSp ((List.range len).map fun i=>(⟨vInt (V0 i),vInt (V1 i)⟩:Sp)))[i]?=some x→w.cell? (a.add i)=some x:=fun i x hx=>by
   have hi:i<len * 2:=by
    have:=(List.getElem?_eq_some_iff.1 hx).1
    rw [rowL_len (n:=2) (fun _=>rfl),hn] at this
    exact this
   have hj:i / 2<len:=by omega
   obtain ⟨q0,q1,t0,t1⟩:=hc (i / 2) (by omega)
   obtain ⟨n0,e0,_,_⟩:=DataW.trod_int Try.underlying3 t0
   obtain ⟨n1,e1,_,_⟩:=DataW.trod_int Try.underlying3 t1
   simp only [List.cons.injEq,_root_.and_true] at e0 e1
   have hg:=rowL_get (enc:=eSp) (n:=2) (fun _=>rfl) ((List.range len).map fun i=>(⟨vInt (V0 i),vInt (V1 i)⟩:Sp)) (i / 2) (i % 2) (by rw [hn];exact hj) (Nat.mod_lt _ (by decide))
   rw [show i / 2 * 2 + i % 2=i by omega,hx,List.getElem_map,List.getElem_range] at hg
   rcases Nat.mod_two_eq_zero_or_one i with hm2|hm2
   ·rw [hm2] at hg
    rw [show a.add i=a.add (i / 2 * 2) by rw [show i / 2 * 2=i by omega],q0,hg,e0];rfl
   ·rw [hm2] at hg
    rw [show a.add i=a.add (i / 2 * 2 + 1) by rw [show i / 2 * 2 + 1=i by omega],q1,hg,e1];rfl
  obtain ⟨N,k,hr⟩:=raw_of (enc:=eSp) (m:=2) (fun _=>rfl) (by decide) (cap:=cap) key
  exact ⟨_,N,k,by rw [h1];rw [hn] at hr ⊢;exact hr,by rw [hn];omega⟩
theorem open_intA {r:Reach} {b0:Nat} {v:Value} {d:DataW H} {p:List MemPlace} (hv:Value.okWide Try.prog w r b0 3 v) (h:DataW.Trod enc Try.prog w base spare held 3 v d p):∃ n,v = .int .i64 n∧Fits64 n:=by
 obtain ⟨n,rfl,_,_,hw⟩:=open_int Try.underlying3 hv h
 exact ⟨n,rfl,fits_of hw⟩
end
def envG (gs:List (Nat→Nam)):Env:=fun n=>match gs[n % 1000]? with
 | some g=>g (n / 1000)
 | none=>⟨0,0,true,none⟩
theorem envG_nm {gs:List (Nat→Nam)} {b k:Nat} {g:Nat→Nam} (hb:b<1000) (hg:gs[b]?=some g):envG gs (nm b k)=g k:=by
 unfold envG
 rw [nm_mod hb,hg,nm_div hb]
def g0 (N:Nam):Nat→Nam:=fun _=>N
structure HoldsArg (w:World) (v:Value) (T:List Ho) (N:Nam) (k:Nat) (NI:Nat→Nam) (off:Nat→Nat):Prop where
 v:v=if N.nil=true then zv N.z else .slice (some ⟨N.blk,k,none⟩) T.length (N.cap - 0)
 nil:N.nil=true→T = []∧k=0
 row:N.nil=false→∃ (c:Array Value) (t:TypeId) (z:Nat × Nat),w.heap[N.blk]?=some (.cells c t z)∧∀ i:Nat,i<T.length→∃ v0 v1,c[k + 2 * i]?=some v0∧c[k + 2 * i + 1]?=some v1∧RawN w v0 (NI (2 * i)) (off (2 * i)) (at_ T (i:Int)).r.length (rSp (at_ T (i:Int)).r)∧RawN w v1 (NI (2 * i + 1)) (off (2 * i + 1)) (at_ T (i:Int)).w.length (rSp (at_ T (i:Int)).w)
 len:T.length≤9223372036854775807
 lens:∀ h ∈ T,h.r.length≤9223372036854775807∧h.w.length≤9223372036854775807
theorem holds_r3 {w:World} {v:Value} {T:List Ho} {N:Nam} {k:Nat} {NI:Nat→Nam} {off:Nat→Nat} {gs:List (Nat→Nam)} {a:Nat} (h:HoldsArg w v T N k NI off) (ha:gs[a]?=some (g0 N)) (ha':a<1000):r3 (envG gs) (.slice (some ⟨a,k,none⟩) T.length 0)=v:=by
 have e:envG gs a=N:=by
  have:=envG_nm (k:=0) ha' ha
  rw [show nm a 0=a by simp [nm]] at this
  exact this
 show (if (envG gs a).nil=true then zv (envG gs a).z else .slice (some ⟨(envG gs a).blk,k,none⟩) T.length ((envG gs a).cap - 0))=v
 rw [e,h.v]
theorem raw_cell {w:World} {v:Value} {N:Nam} {k n b j:Nat} {cs:List Value} {gs:List (Nat→Nam)} {g:Nat→Nam} (h:RawN w v N k n cs) (hb:gs[b]?=some g) (hb':b<1000) (hj:g j=N):r1 (envG gs) (.slice (some ⟨nm b j,k,none⟩) n 0)=v:=by
 show (if (envG gs (nm b j)).nil=true then zv (envG gs (nm b j)).z else .slice (some ⟨(envG gs (nm b j)).blk,k,none⟩) n ((envG gs (nm b j)).cap - 0))=v
 rw [envG_nm hb' hb,hj,h.1]
theorem raw_blk {w:World} {v:Value} {N:Nam} {k n b j:Nat} {cs:List Value} {t:TypeId} {gs:List (Nat→Nam)} {g:Nat→Nam} (h:RawN w v N k n cs) (hf:cs.all flat1=true) (hb:gs[b]?=some g) (hb':b<1000) (hj:g j=N):blkAt (envG gs) w (nm b j) ⟨hls k cs,t,0⟩:=by
 unfold blkAt
 rw [envG_nm hb' hb,hj]
 have h2:=h.2
 cases hn:N.nil with
 | true=>rw [hn,if_pos rfl] at h2;rw [if_pos rfl];exact ⟨h2,fun q=>absurd rfl q,(by decide:0<100)⟩
 | false =>
  rw [hn,if_neg (by decide)] at h2
  rw [if_neg (by decide),if_pos rfl]
  obtain ⟨c,t',z,h3,h4⟩:=h2
  refine ⟨c,t',z,h3,fun i v hv hne=>?_⟩
  rw [r1_flat (List.all_eq_true.1 (hls_flat (k:=k) hf) v (List.mem_of_getElem? hv))]
  exact h4 i v hv hne
theorem holds_at1 {w:World} {v:Value} {T:List Ho} {N:Nam} {k:Nat} {NI:Nat→Nam} {off:Nat→Nat} {gs:List (Nat→Nam)} {b:Nat} {t:TypeId} (h:HoldsArg w v T N k NI off) (hb:gs[b]?=some NI) (hb':b<1000):famAt (envG gs) w b (inF off t 0 T):=by
 intro j x hx
 unfold inF at hx
 simp only [Option.map_eq_some_iff] at hx
 obtain ⟨y,hy,rfl⟩:=hx
 have hlt:j / 2<T.length:=(List.getElem?_eq_some_iff.1 hy).1
 have hat:at_ T ((j / 2:Nat):Int)=y:=at_of hy
 cases hn:N.nil with
 | true=>rw [(h.nil hn).1] at hlt;simp at hlt
 | false =>
  obtain ⟨c,t',z,_,hr⟩:=h.row hn
  obtain ⟨v0,v1,_,_,r0,r1⟩:=hr (j / 2) hlt
  rw [hat] at r0 r1
  rcases Nat.mod_two_eq_zero_or_one j with hm|hm
  ·have e:2 * (j / 2)=j:=by omega
   rw [e] at r0
   rw [show sel y j=y.r by unfold sel;rw [if_pos hm]]
   exact raw_blk r0 (rSp_flat _) hb hb' rfl
  ·have e:2 * (j / 2) + 1=j:=by omega
   rw [e] at r1
   rw [show sel y j=y.w by unfold sel;rw [if_neg (by omega)]]
   exact raw_blk r1 (rSp_flat _) hb hb' rfl
theorem holds_at0 {w:World} {v:Value} {T:List Ho} {N:Nam} {k:Nat} {NI:Nat→Nam} {off:Nat→Nat} {gs:List (Nat→Nam)} {a b:Nat} {t:TypeId} (h:HoldsArg w v T N k NI off) (ha:gs[a]?=some (g0 N)) (ha':a<1000) (hb:gs[b]?=some NI) (hb':b<1000):famAt (envG gs) w a (one ⟨hls k (rHv (tabV b off T)),t,0⟩):=by
 intro k' x e
 obtain ⟨rfl,rfl⟩:=one_some e
 unfold blkAt
 rw [envG_nm ha' ha]
 show if N.nil=true then _ else _
 cases hn:N.nil with
 | true =>
  obtain ⟨h1,h2⟩:=h.nil hn
  subst h1
  subst h2
  rw [if_pos rfl]
  exact ⟨rfl,fun q=>absurd rfl q,(by decide:0<100)⟩
 | false =>
  rw [if_neg (by decide),if_pos rfl]
  obtain ⟨c,t',z,hh,hr⟩:=h.row hn
  refine ⟨c,t',z,hh,fun i x hx hne=>?_⟩
  have hx:(hls k (rHv (tabV b off T)))[i]?=some x:=hx
  unfold hls at hx
  by_cases hi:i<k
  ·rw [List.getElem?_append_left (by simpa using hi)] at hx
   exact absurd (List.eq_of_mem_replicate (List.mem_of_getElem? hx)) hne
  ·rw [List.getElem?_append_right (by simpa using hi),List.length_replicate] at hx
   have hlt:=(List.getElem?_eq_some_iff.1 hx).1
   rw [rowL_len (n:=2) (fun _=>rfl),tabV_len] at hlt
   have hq:(i - k) / 2<T.length:=by omega
   obtain ⟨v0,v1,c0,c1,r0,r1⟩:=hr ((i - k) / 2) hq
   have hg:=rowL_get (enc:=eHv) (n:=2) (fun _=>rfl) (tabV b off T) ((i - k) / 2) ((i - k) % 2) (by rw [tabV_len];exact hq) (Nat.mod_lt _ (by decide))
   rw [show (i - k) / 2 * 2 + (i - k) % 2=i - k by omega,hx,at_get (by rw [tabV_len];exact hq),at_tabV (by omega) (by omega)] at hg
   rw [Int.toNat_natCast] at hg
   rcases Nat.mod_two_eq_zero_or_one (i - k) with hm|hm
   ·rw [hm] at hg
    have hg:some x=some (.slice (some ⟨nm b (2 * ((i - k) / 2)),off (2 * ((i - k) / 2)),none⟩) (at_ T (((i - k) / 2:Nat):Int)).r.length 0):=hg
    rw [Option.some.inj hg,raw_cell r0 hb hb' rfl,← c0]
    congr 1
    omega
   ·rw [hm] at hg
    have hg:some x=some (.slice (some ⟨nm b (2 * ((i - k) / 2) + 1),off (2 * ((i - k) / 2) + 1),none⟩) (at_ T (((i - k) / 2:Nat):Int)).w.length 0):=hg
    rw [Option.some.inj hg,raw_cell r1 hb hb' rfl,← c1]
    congr 1
    omega
theorem choose2 {n:Nat} {α β γ:Type} [Inhabited α] [Inhabited β] [Inhabited γ] {R:Nat→α→β→γ→Prop} (h:∀ i,i<n→∃ a b c,R i a b c):∃ (f:Nat→α) (g:Nat→β) (k:Nat→γ),∀ i,i<n→R i (f i) (g i) (k i):=by
 classical
 refine ⟨fun i=>if hi:i<n then (h i hi).choose else default,fun i=>if hi:i<n then (h i hi).choose_spec.choose else default,fun i=>if hi:i<n then (h i hi).choose_spec.choose_spec.choose else default,fun i hi=>?_⟩
 simp only [hi,dif_pos]
 exact (h i hi).choose_spec.choose_spec.choose_spec
instance:Inhabited Nam:=⟨⟨0,0,true,none⟩⟩
section
variable {H:Type} {enc:TypeId × Value→H} {w:World} {base:Nat} {spare:Nat→Bool} {held:Bool}
theorem open_holdsA {r:Reach} {b0:Nat} {v:Value} {d:DataW H} {p:List MemPlace} (hv:Value.okWide Try.prog w r b0 22 v) (h:DataW.Trod enc Try.prog w base spare held 22 v d p):∃ T N k NI off,HoldsArg w v T N k NI off:=by
 obtain ⟨a1,len,cap,rfl⟩:=okWide_slice Try.underlying22 hv
 obtain ⟨fuel,hf⟩:=h
 rcases open_slice_pairs Try.underlying22 Try.underlying50 (by kernel_rfl) rfl rfl (by kernel_rfl) (by kernel_rfl) hf with ⟨h1,_⟩|⟨a,len',cap',m,n,V0,V1,D0,D1,P0,P1,h1,_,hl,hm,hz,_,hc⟩
 ·simp only [Value.cells,List.cons.injEq,_root_.and_true,Value.slice.injEq] at h1
  obtain ⟨rfl,rfl,rfl⟩:=h1
  exact ⟨[],⟨0,0,true,none⟩,0,fun _=>⟨0,0,true,none⟩,fun _=>0,⟨rfl,fun _=>⟨rfl,rfl⟩,fun q=>(by cases q),by decide,fun x hx=>(by cases hx)⟩⟩
 ·simp only [Value.cells,List.cons.injEq,_root_.and_true,Value.slice.injEq] at h1
  obtain ⟨rfl,rfl,rfl⟩:=h1
  unfold maxLen at hm
  have hlm:len≤m:=by rw [hz];split <;> omega
  obtain ⟨L0,M0,K0,e0⟩:=choose2 (n:=len) (R:=fun i l N k=>RawN w (V0 i) N k l.length (rSp l)∧l.length≤9223372036854775807) fun i hi=>rd_spansA (hc i (by omega)).2.2.1
  obtain ⟨L1,M1,K1,e1⟩:=choose2 (n:=len) (R:=fun i l N k=>RawN w (V1 i) N k l.length (rSp l)∧l.length≤9223372036854775807) fun i hi=>rd_spansA (hc i (by omega)).2.2.2
  let T:List Ho:=(List.range len).map fun i=>⟨L0 i,L1 i⟩
  have hT:T.length=len:=by simp [T]
  have hat:∀ i:Nat,i<len→at_ T (i:Int)=⟨L0 i,L1 i⟩:=fun i hi=>at_of (by simp [T,hi])
  have hlens:∀ h ∈ T,h.r.length≤9223372036854775807∧h.w.length≤9223372036854775807:=fun h hh=>by
   obtain ⟨i,hi,rfl⟩:=List.mem_map.1 hh
   have hi:=List.mem_range.1 hi
   exact ⟨(e0 i hi).2,(e1 i hi).2⟩
  rcases Nat.eq_zero_or_pos len with h0|h0
  ·subst h0
   exact ⟨[],⟨0,0,true,some (a,cap)⟩,0,fun _=>⟨0,0,true,none⟩,fun _=>0,⟨rfl,fun _=>⟨rfl,rfl⟩,fun q=>(by cases q),by decide,fun x hx=>(by cases hx)⟩⟩
  ·have q0:=(hc 0 (by omega)).1
   have hblk:∃ c t z,w.heap[a.block]?=some (.cells c t z)∧a.spot=none:=by
    have e:a.add (0 * 2)=a:=by simp [Addr.add]
    unfold World.cell? at q0
    rw [e] at q0
    split at q0
    ·rename_i c t z hh
     refine ⟨c,t,z,hh,?_⟩
     split at q0
     ·cases q0
     ·rename_i hs;simpa using hs
    ·cases q0
   obtain ⟨c,t,z,hh,hs⟩:=hblk
   obtain ⟨b,off,sp⟩:=a
   simp only at hs hh
   subst hs
   refine ⟨T,⟨b,cap,false,none⟩,off,fun j=>if j % 2=0 then M0 (j / 2) else M1 (j / 2),fun j=>if j % 2=0 then K0 (j / 2) else K1 (j / 2),⟨by rw [hT];rfl,fun q=>(by cases q),fun _=>⟨c,t,z,hh,fun i hi=>?_⟩,by rw [hT];omega,hlens⟩⟩
   rw [hT] at hi
   obtain ⟨p0,p1,_,_⟩:=hc i (by omega)
   rw [add_eq,cell_eq hh] at p0 p1
   refine ⟨V0 i,V1 i,by rw [← p0];congr 1;omega,by rw [← p1];congr 1;omega,?_,?_⟩
   ·rw [hat i hi]
    have e2:2 * i % 2=0:=by omega
    have e3:2 * i / 2=i:=by omega
    simp only [e2,e3,if_true]
    exact (e0 i hi).1
   ·rw [hat i hi]
    have e2:(2 * i + 1) % 2=1:=by omega
    have e3:(2 * i + 1) / 2=i:=by omega
    simp only [e2,e3,Nat.one_ne_zero,if_false]
    exact (e1 i hi).1
theorem open_boolA {r:Reach} {b0:Nat} {v:Value} {d:DataW H} {p:List MemPlace} (hv:Value.okWide Try.prog w r b0 4 v) (h:DataW.Trod enc Try.prog w base spare held 4 v d p):∃ b,v = .bool b:=by
 obtain ⟨b,rfl,_⟩:=open_bool Try.underlying4 hv h
 exact ⟨b,rfl⟩
end
end Go.Proofs.Ytcdhnaojdhdehaa.A
namespace Go.Proofs.Ytcdhnaojdhdehaa.A
open Go Go.RowKit
set_option maxHeartbeats 4000000
theorem FnExactLockGive_c {T:List Ho} {k:Nat} {off:Nat→Nat} (hT:T.length≤9223372036854775807) (hB:∀ h ∈ T,h.r.length≤9223372036854775807∧h.w.length≤9223372036854775807) {who:Int} (hwho:Fits64 who) (write:Bool) {s:Sp} (hs:Fits64 s.lo∧Fits64 s.hi):FDoes Try.prog 10 [.slice (some ⟨0,k,none⟩) T.length 0,.int .i64 who,.bool write,vSp s] (hp [(0,false,one ⟨hls k (rHv (tabV 1 off T)),50,0⟩),(1,false,inF off 31 0 T)]) { v:=.bool true,rd:=[0,1] }:=by
 have hm:Try.prog.follows .mixedOrders=true:=by kernel_rfl
 have hd_:∀ x_ ∈ ([(0,false,one ⟨hls k (rHv (tabV 1 off T)),50,0⟩),(1,false,inF off 31 0 T)]:List (Nat × Bool × Fam)),∀ k_ y_,x_.2.2 k_=some y_→DetB (lt 2) y_:=by
  intro x_ hx k_ y_ e
  simp only [List.mem_cons,List.not_mem_nil,or_false] at hx
  rcases hx with rfl|rfl
  ·exact det_tab (k0:=k) rfl e
  ·exact det_in e
 refine fn_exact (u0:=2) Try.func10 rfl rfl (gets rfl rfl rfl hd_ rfl) ?_
 clear hd_
 refine vc_seq ?_
 refine vc_region hm ?_
 refine gB (u':=3) trivial rfl rfl rfl rfl rfl rfl rfl rfl ?_
 refine gM trivial (.inr rfl) rfl rfl rfl ?_
 refine rg_nil nofun ?_
 refine vc_seq ?_
 refine vc_region hm ?_
 refine gM trivial (.inr rfl) rfl rfl rfl ?_
 refine rg_nil nofun ?_
 refine vc_seq ?_
 refine vc_region hm ?_
 refine gM trivial (.inl rfl) rfl rfl rfl ?_
 refine gM trivial (.inl rfl) rfl rfl rfl ?_
 refine gCT0 [nA (nm 0 (0)),nF 1] [0,1] (laws_szHoldS_c (T:=T) (k:=k) (off:=off) (left:=1048576) (by decide) (by decide) hT hB) trivial rfl rfl rfl rfl rfl ⟨aTab (k:=k) rfl rfl rfl rfl (.inl rfl) (.inl rfl) rfl rfl,aIn rfl rfl (.inl rfl) (.inl rfl) rfl,trivial⟩ rfl rfl rfl rfl ?_
 refine gM trivial (.inr rfl) rfl rfl rfl ?_
 refine rg_nil nofun ?_
 refine vc_seq ?_
 refine vc_seq ?_
 refine vc_region hm ?_
 refine gM trivial (.inl rfl) rfl rfl rfl ?_
 refine gI trivial rfl rfl rfl rfl rfl rfl ?_
 refine rg_nil nofun ?_
 refine cI rfl (fun c24=>?_) (fun c24=>?_)
 ·skip
  have p24:=of_decide_eq_true c24
  refine vc_seq ?_
  refine vc_region hm ?_
  refine gM trivial (.inr rfl) rfl rfl rfl ?_
  refine rg_nil nofun ?_
  refine vc_ret ?_
  exact ⟨idm,ends0 (.inr rfl) rfl (eqB rfl) rfl rfl rfl⟩
 ·skip
  have p24:=of_decide_eq_false c24
  refine vc_skip ?_
  refine vc_seq ?_
  refine vc_region hm ?_
  refine gM trivial (.inl rfl) rfl rfl rfl ?_
  refine gCT (as':=[(3,one ⟨rHv (tabV 4 zo T),54,102⟩),(4,inF zo 33 77 T)]) (v':=.slice (some ⟨3,0,none⟩) T.length 0) 5 [nA (nm 0 (0)),nF 1,nF 3,nF 4] [0,1] (laws_toHoldS_c (T:=T) (k:=k) (off:=off) (szT_B p24 (by decide)).1 (szT_B p24 (by decide)).2) trivial rfl rfl rfl rfl rfl ⟨aTab (k:=k) rfl rfl rfl rfl (.inl rfl) (.inl rfl) rfl rfl,aIn rfl rfl (.inl rfl) (.inl rfl) rfl,trivial⟩ ⟨rTab rfl rfl rfl,rIn rfl,trivial⟩ ⟨rfl,rfl⟩ rfl rfl rfl ?_
  refine gM trivial (.inl rfl) rfl rfl rfl ?_
  refine gM trivial (.inl rfl) rfl rfl rfl ?_
  refine gL trivial rfl rfl rfl rfl rfl rfl rfl rfl ?_
  refine gC0 [] (laws_toSpan_c s) trivial rfl rfl rfl rfl (by trivial) rfl rfl rfl rfl rfl ?_
  refine gCT (as':=[(5,one ⟨rHv (tabV 6 zo (resT T (goK who s (decide (((lockBars T who write s).length:Int)=0))) who (giveH (at_ T who) write s))),54,2⟩),(6,inF zo 33 77 (resT T (goK who s (decide (((lockBars T who write s).length:Int)=0))) who (giveH (at_ T who) write s)))]) (v':=.tuple #[.slice (some ⟨5,0,none⟩) (resT T (goK who s (decide (((lockBars T who write s).length:Int)=0))) who (giveH (at_ T who) write s)).length 0,.bool (resB T (goK who s (decide (((lockBars T who write s).length:Int)=0))) who (giveH (at_ T who) write s))]) 7 [nA (nm 3 (0)),nF 4,nF 5,nF 6] [3,4] (spec_LockGive_c (T:=T) (who:=who) (write:=write) (s:=s) (szT_B p24 (by decide)).1 (szT_B p24 (by decide)).2) trivial rfl rfl rfl rfl rfl ⟨aTab (k:=0) rfl rfl rfl rfl (.inl rfl) (.inl rfl) rfl rfl,aIn rfl rfl (.inl rfl) (.inl rfl) rfl,trivial⟩ ⟨rTab rfl rfl rfl,rIn rfl,trivial⟩ ⟨rfl,rfl⟩ rfl rfl rfl ?_
  refine gM trivial (.inl rfl) rfl rfl rfl ?_
  refine gE trivial rfl rfl rfl rfl rfl rfl ?_
  refine gE trivial rfl rfl rfl rfl rfl rfl ?_
  refine gM trivial (.inr rfl) rfl rfl rfl ?_
  refine gM trivial (.inr rfl) rfl rfl rfl ?_
  refine rg_nil (fun _=>by kernel_rfl) ?_
  refine vc_seq ?_
  refine vc_region hm ?_
  refine gM trivial (.inl rfl) rfl rfl rfl ?_
  refine gCT (as':=[(7,one ⟨rHv (tabV 8 zo T),54,102⟩),(8,inF zo 33 77 T)]) (v':=.slice (some ⟨7,0,none⟩) T.length 0) 9 [nA (nm 0 (0)),nF 1,nF 7,nF 8] [0,1] (laws_toHoldS_c (T:=T) (k:=k) (off:=off) (szT_B p24 (by decide)).1 (szT_B p24 (by decide)).2) trivial rfl rfl rfl rfl rfl ⟨aTab (k:=k) rfl rfl rfl rfl (.inl rfl) (.inl rfl) rfl rfl,aIn rfl rfl (.inl rfl) (.inl rfl) rfl,trivial⟩ ⟨rTab rfl rfl rfl,rIn rfl,trivial⟩ ⟨rfl,rfl⟩ rfl rfl rfl ?_
  refine gM trivial (.inr rfl) rfl rfl rfl ?_
  refine rg_nil nofun ?_
  refine vc_seq ?_
  refine vc_region hm ?_
  refine gM trivial (.inl rfl) rfl rfl rfl ?_
  refine gM trivial (.inl rfl) rfl rfl rfl ?_
  refine gM trivial (.inl rfl) rfl rfl rfl ?_
  refine gL trivial rfl rfl rfl rfl rfl rfl rfl rfl ?_
  refine gC0 [] (laws_toSpan_c s) trivial rfl rfl rfl rfl (by trivial) rfl rfl rfl rfl rfl ?_
  refine gCT (as':=[(9,one ⟨rHv (tabV 10 zo (resT T (goK who s (decide (((lockBars T who write s).length:Int)=0))) who (giveH (at_ T who) write s))),54,2⟩),(10,inF zo 33 77 (resT T (goK who s (decide (((lockBars T who write s).length:Int)=0))) who (giveH (at_ T who) write s)))]) (v':=.tuple #[.slice (some ⟨9,0,none⟩) (resT T (goK who s (decide (((lockBars T who write s).length:Int)=0))) who (giveH (at_ T who) write s)).length 0,.bool (resB T (goK who s (decide (((lockBars T who write s).length:Int)=0))) who (giveH (at_ T who) write s))]) 11 [nA (nm 7 (0)),nF 8,nF 9,nF 10] [7,8] (impl_LockGive_c (T:=T) (who:=who) (write:=write) (s:=s) (szT_B p24 (by decide)).1 (szT_B p24 (by decide)).2) trivial rfl rfl rfl rfl rfl ⟨aTab (k:=0) rfl rfl rfl rfl (.inl rfl) (.inl rfl) rfl rfl,aIn rfl rfl (.inr rfl) (.inr (.inl rfl)) rfl,trivial⟩ ⟨rTab rfl rfl rfl,rIn rfl,trivial⟩ ⟨rfl,rfl⟩ rfl rfl rfl ?_
  refine gM trivial (.inl rfl) rfl rfl rfl ?_
  refine gE trivial rfl rfl rfl rfl rfl rfl ?_
  refine gE trivial rfl rfl rfl rfl rfl rfl ?_
  refine gM trivial (.inr rfl) rfl rfl rfl ?_
  refine gM trivial (.inr rfl) rfl rfl rfl ?_
  refine rg_nil nofun ?_
  refine vc_seq ?_
  refine vc_seq ?_
  refine vc_region hm ?_
  refine gM trivial (.inl rfl) rfl rfl rfl ?_
  refine gM trivial (.inl rfl) rfl rfl rfl ?_
  refine gCT0 [nA (nm 9 (0)),nF 10,nA (nm 5 (0)),nF 6] [9,10,5,6] (laws_eqHoldS_c (A:=(resT T (goK who s (decide (((lockBars T who write s).length:Int)=0))) who (giveH (at_ T who) write s))) (B:=(resT T (goK who s (decide (((lockBars T who write s).length:Int)=0))) who (giveH (at_ T who) write s))) res_len res_big) trivial rfl rfl rfl rfl rfl ⟨aTab (k:=0) rfl rfl rfl rfl (.inl rfl) (.inl rfl) rfl rfl,aIn rfl rfl (.inl rfl) (.inl rfl) rfl,aTab (k:=0) rfl rfl rfl rfl (.inl rfl) (.inl rfl) rfl rfl,aIn rfl rfl (.inl rfl) (.inl rfl) rfl,trivial⟩ rfl rfl rfl rfl ?_
  refine gN trivial rfl rfl rfl rfl ?_
  refine gM trivial (.inl rfl) rfl rfl rfl ?_
  refine gM ⟨_,_,rfl,rfl,(notT (decide_eq_true rfl))⟩ (.inl rfl) rfl rfl rfl ?_
  refine gM ⟨_,_,rfl,rfl,(notT (decide_eq_true rfl))⟩ (.inl rfl) rfl rfl rfl ?_
  refine gBN ⟨_,_,rfl,rfl,(notT (decide_eq_true rfl))⟩ rfl rfl rfl rfl rfl rfl ?_
  refine gPF trivial rfl rfl (notT (decide_eq_true rfl)) rfl rfl rfl ?_
  refine rg_nil nofun ?_
  refine cF rfl (nself _) ?_
  refine vc_skip ?_
  refine vc_seq ?_
  refine vc_seq ?_
  refine vc_region hm ?_
  refine gM trivial (.inl rfl) rfl rfl rfl ?_
  refine gM trivial (.inl rfl) rfl rfl rfl ?_
  refine gCT (as':=[(11,one ⟨rHv (tabV 12 zo T),54,102⟩),(12,inF zo 33 77 T)]) (v':=.slice (some ⟨11,0,none⟩) T.length 0) 13 [nA (nm 0 (0)),nF 1,nF 11,nF 12] [0,1] (laws_toHoldS_c (T:=T) (k:=k) (off:=off) (szT_B p24 (by decide)).1 (szT_B p24 (by decide)).2) trivial rfl rfl rfl rfl rfl ⟨aTab (k:=k) rfl rfl rfl rfl (.inl rfl) (.inl rfl) rfl rfl,aIn rfl rfl (.inl rfl) (.inl rfl) rfl,trivial⟩ ⟨rTab rfl rfl rfl,rIn rfl,trivial⟩ ⟨rfl,rfl⟩ rfl rfl rfl ?_
  refine gCT0 [nA (nm 7 (0)),nF 8,nA (nm 11 (0)),nF 12] [7,8,11,12] (laws_eqHoldS_c (A:=T) (B:=T) (szT_B p24 (by decide)).1 (szT_B p24 (by decide)).2) trivial rfl rfl rfl rfl rfl ⟨aTab (k:=0) rfl rfl rfl rfl (.inl rfl) (.inl rfl) rfl rfl,aIn rfl rfl (.inl rfl) (.inl rfl) rfl,aTab (k:=0) rfl rfl rfl rfl (.inl rfl) (.inl rfl) rfl rfl,aIn rfl rfl (.inl rfl) (.inl rfl) rfl,trivial⟩ rfl rfl rfl rfl ?_
  refine gN trivial rfl rfl rfl rfl ?_
  refine rg_nil nofun ?_
  refine cF rfl (notT (decide_eq_true rfl)) ?_
  refine vc_skip ?_
  refine vc_seq ?_
  refine vc_region hm ?_
  refine gM trivial (.inr rfl) rfl rfl rfl ?_
  refine rg_nil nofun ?_
  refine vc_seq ?_
  refine vc_region hm ?_
  refine gM trivial (.inl rfl) rfl rfl rfl ?_
  refine gM trivial (.inl rfl) rfl rfl rfl ?_
  refine gMarkT (B:=7) (C:=8) (laws_markHoldS_c (T:=T) (k:=1) (szT_B p24 (by decide)).1 (by have:=(szT_le p24).1;have:=tot_nn T;omega) (by decide) (by decide)) trivial rfl rfl rfl rfl rfl rfl rfl inF_some rfl rfl rfl ?_
  refine gM trivial (.inr rfl) rfl rfl rfl ?_
  refine rg_nil nofun ?_
  refine vc_seq ?_
  refine vc_seq ?_
  refine vc_region hm ?_
  refine gM trivial (.inl rfl) rfl rfl rfl ?_
  refine gI trivial rfl rfl rfl rfl rfl rfl ?_
  refine gM trivial (.inl rfl) rfl rfl rfl ?_
  refine gM ⟨_,_,rfl,rfl,(decide_eq_false (by have:=tot_nn T;omega))⟩ (.inl rfl) rfl rfl rfl ?_
  refine gM ⟨_,_,rfl,rfl,(decide_eq_false (by have:=tot_nn T;omega))⟩ (.inl rfl) rfl rfl rfl ?_
  refine gCT0 [nA (nm 9 (0)),nF 10,nA (nm 5 (0)),nF 6] [9,10,5,6] (laws_eqHoldS_c (A:=(resT T (goK who s (decide (((lockBars T who write s).length:Int)=0))) who (giveH (at_ T who) write s))) (B:=(resT T (goK who s (decide (((lockBars T who write s).length:Int)=0))) who (giveH (at_ T who) write s))) res_len res_big) ⟨_,_,rfl,rfl,(decide_eq_false (by have:=tot_nn T;omega))⟩ rfl rfl rfl rfl rfl ⟨aTab (k:=0) rfl rfl rfl rfl (.inl rfl) (.inl rfl) rfl rfl,aIn rfl rfl (.inl rfl) (.inl rfl) rfl,aTab (k:=0) rfl rfl rfl rfl (.inl rfl) (.inl rfl) rfl rfl,aIn rfl rfl (.inl rfl) (.inl rfl) rfl,trivial⟩ rfl rfl rfl rfl ?_
  refine gN ⟨_,_,rfl,rfl,(decide_eq_false (by have:=tot_nn T;omega))⟩ rfl rfl rfl rfl ?_
  refine gPF trivial rfl rfl (decide_eq_false (by have:=tot_nn T;omega)) rfl rfl rfl ?_
  refine gM trivial (.inl rfl) rfl rfl rfl ?_
  refine gM ⟨_,_,rfl,rfl,(notT (decide_eq_true rfl))⟩ (.inl rfl) rfl rfl rfl ?_
  refine gM ⟨_,_,rfl,rfl,(notT (decide_eq_true rfl))⟩ (.inl rfl) rfl rfl rfl ?_
  refine gBN ⟨_,_,rfl,rfl,(notT (decide_eq_true rfl))⟩ rfl rfl rfl rfl rfl rfl ?_
  refine gPF trivial rfl rfl (notT (decide_eq_true rfl)) rfl rfl rfl ?_
  refine rg_nil nofun ?_
  refine cF rfl (nself _) ?_
  refine vc_skip ?_
  refine vc_seq ?_
  refine vc_region hm ?_
  refine gM trivial (.inr rfl) rfl rfl rfl ?_
  refine rg_nil nofun ?_
  refine vc_seq ?_
  refine vc_region hm ?_
  refine gM trivial (.inl rfl) rfl rfl rfl ?_
  refine gM trivial (.inl rfl) rfl rfl rfl ?_
  refine gMarkT (B:=9) (C:=10) (laws_markHoldS_c (T:=(resT T (goK who s (decide (((lockBars T who write s).length:Int)=0))) who (giveH (at_ T who) write s))) (k:=1) res_len res_tot (by decide) (by decide)) trivial rfl rfl rfl rfl rfl rfl rfl inF_some rfl rfl rfl ?_
  refine gM trivial (.inr rfl) rfl rfl rfl ?_
  refine rg_nil nofun ?_
  refine vc_seq ?_
  refine vc_region hm ?_
  refine gM trivial (.inr rfl) rfl rfl rfl ?_
  refine rg_nil nofun ?_
  refine vc_seq ?_
  refine vc_region hm ?_
  refine gM trivial (.inl rfl) rfl rfl rfl ?_
  refine gM trivial (.inl rfl) rfl rfl rfl ?_
  refine gCT0 [nA (nm 9 (0)),nF 10] [9,10] (laws_heldHoldS_c (T:=(resT T (goK who s (decide (((lockBars T who write s).length:Int)=0))) who (giveH (at_ T who) write s))) (k:=1) res_len res_tot (by decide) (by decide)) trivial rfl rfl rfl rfl rfl ⟨aTab (k:=0) rfl rfl rfl rfl (.inl rfl) (.inl rfl) rfl rfl,aInM rfl rfl rfl,trivial⟩ rfl rfl rfl rfl ?_
  refine gM trivial (.inr rfl) rfl rfl rfl ?_
  refine rg_nil nofun ?_
  refine vc_seq ?_
  refine vc_seq ?_
  refine vc_region hm ?_
  refine gM trivial (.inl rfl) rfl rfl rfl ?_
  refine gI trivial rfl rfl rfl rfl rfl rfl ?_
  refine rg_nil nofun ?_
  refine cF rfl (decide_eq_false (by have:=tot_nn (resT T (goK who s (decide (((lockBars T who write s).length:Int)=0))) who (giveH (at_ T who) write s));omega)) ?_
  refine vc_skip ?_
  refine vc_seq ?_
  refine vc_seq ?_
  refine vc_region hm ?_
  refine gM trivial (.inl rfl) rfl rfl rfl ?_
  refine gM trivial (.inl rfl) rfl rfl rfl ?_
  refine gI trivial rfl rfl rfl rfl rfl rfl ?_
  refine rg_nil nofun ?_
  refine cF rfl (bne_eq_false_iff_eq.2 rfl) ?_
  refine vc_skip ?_
  refine vc_seq ?_
  refine vc_region hm ?_
  refine gM trivial (.inl rfl) rfl rfl rfl ?_
  refine gCT (as':=[(13,one ⟨rHv (tabV 14 zo T),54,102⟩),(14,inF zo 33 77 T)]) (v':=.slice (some ⟨13,0,none⟩) T.length 0) 15 [nA (nm 0 (0)),nF 1,nF 13,nF 14] [0,1] (laws_toHoldS_c (T:=T) (k:=k) (off:=off) (szT_B p24 (by decide)).1 (szT_B p24 (by decide)).2) trivial rfl rfl rfl rfl rfl ⟨aTab (k:=k) rfl rfl rfl rfl (.inl rfl) (.inl rfl) rfl rfl,aIn rfl rfl (.inl rfl) (.inl rfl) rfl,trivial⟩ ⟨rTab rfl rfl rfl,rIn rfl,trivial⟩ ⟨rfl,rfl⟩ rfl rfl rfl ?_
  refine gM trivial (.inl rfl) rfl rfl rfl ?_
  refine gM trivial (.inl rfl) rfl rfl rfl ?_
  refine gL trivial rfl rfl rfl rfl rfl rfl rfl rfl ?_
  refine gC0 [] (laws_toSpan_c s) trivial rfl rfl rfl rfl (by trivial) rfl rfl rfl rfl rfl ?_
  refine gCT (as':=[(15,one ⟨rHv (tabV 16 zo (resT T (goK who s (decide (((lockBars T who write s).length:Int)=0))) who (giveH (at_ T who) write s))),54,2⟩),(16,inF zo 33 77 (resT T (goK who s (decide (((lockBars T who write s).length:Int)=0))) who (giveH (at_ T who) write s)))]) (v':=.tuple #[.slice (some ⟨15,0,none⟩) (resT T (goK who s (decide (((lockBars T who write s).length:Int)=0))) who (giveH (at_ T who) write s)).length 0,.bool (resB T (goK who s (decide (((lockBars T who write s).length:Int)=0))) who (giveH (at_ T who) write s))]) 17 [nA (nm 13 (0)),nF 14,nF 15,nF 16] [13,14] (impl_LockGive_c (T:=T) (who:=who) (write:=write) (s:=s) (szT_B p24 (by decide)).1 (szT_B p24 (by decide)).2) trivial rfl rfl rfl rfl rfl ⟨aTab (k:=0) rfl rfl rfl rfl (.inl rfl) (.inl rfl) rfl rfl,aIn rfl rfl (.inr rfl) (.inr (.inl rfl)) rfl,trivial⟩ ⟨rTab rfl rfl rfl,rIn rfl,trivial⟩ ⟨rfl,rfl⟩ rfl rfl rfl ?_
  refine gM trivial (.inl rfl) rfl rfl rfl ?_
  refine gE trivial rfl rfl rfl rfl rfl rfl ?_
  refine gE trivial rfl rfl rfl rfl rfl rfl ?_
  refine gM trivial (.inr rfl) rfl rfl rfl ?_
  refine gM trivial (.inr rfl) rfl rfl rfl ?_
  refine rg_nil (fun _=>by kernel_rfl) ?_
  refine vc_seq ?_
  refine vc_seq ?_
  refine vc_region hm ?_
  refine gM trivial (.inl rfl) rfl rfl rfl ?_
  refine gM trivial (.inl rfl) rfl rfl rfl ?_
  refine gCT0 [nA (nm 15 (0)),nF 16,nA (nm 5 (0)),nF 6] [15,16,5,6] (laws_eqHoldS_c (A:=(resT T (goK who s (decide (((lockBars T who write s).length:Int)=0))) who (giveH (at_ T who) write s))) (B:=(resT T (goK who s (decide (((lockBars T who write s).length:Int)=0))) who (giveH (at_ T who) write s))) res_len res_big) trivial rfl rfl rfl rfl rfl ⟨aTab (k:=0) rfl rfl rfl rfl (.inl rfl) (.inl rfl) rfl rfl,aIn rfl rfl (.inl rfl) (.inl rfl) rfl,aTab (k:=0) rfl rfl rfl rfl (.inl rfl) (.inl rfl) rfl rfl,aIn rfl rfl (.inl rfl) (.inl rfl) rfl,trivial⟩ rfl rfl rfl rfl ?_
  refine gN trivial rfl rfl rfl rfl ?_
  refine gM trivial (.inl rfl) rfl rfl rfl ?_
  refine gM ⟨_,_,rfl,rfl,(notT (decide_eq_true rfl))⟩ (.inl rfl) rfl rfl rfl ?_
  refine gM ⟨_,_,rfl,rfl,(notT (decide_eq_true rfl))⟩ (.inl rfl) rfl rfl rfl ?_
  refine gBN ⟨_,_,rfl,rfl,(notT (decide_eq_true rfl))⟩ rfl rfl rfl rfl rfl rfl ?_
  refine gPF trivial rfl rfl (notT (decide_eq_true rfl)) rfl rfl rfl ?_
  refine rg_nil nofun ?_
  refine cF rfl (nself _) ?_
  refine vc_skip ?_
  refine vc_seq ?_
  refine vc_region hm ?_
  refine gM trivial (.inr rfl) rfl rfl rfl ?_
  refine rg_nil nofun ?_
  refine vc_seq ?_
  refine vc_region hm ?_
  refine gM trivial (.inl rfl) rfl rfl rfl ?_
  refine gM trivial (.inl rfl) rfl rfl rfl ?_
  refine gCT0 [nA (nm 9 (0)),nF 10] [9,10] (laws_heldHoldS_c (T:=(resT T (goK who s (decide (((lockBars T who write s).length:Int)=0))) who (giveH (at_ T who) write s))) (k:=1) res_len res_tot (by decide) (by decide)) trivial rfl rfl rfl rfl rfl ⟨aTab (k:=0) rfl rfl rfl rfl (.inl rfl) (.inl rfl) rfl rfl,aInM rfl rfl rfl,trivial⟩ rfl rfl rfl rfl ?_
  refine gM trivial (.inr rfl) rfl rfl rfl ?_
  refine rg_nil nofun ?_
  refine vc_seq ?_
  refine vc_seq ?_
  refine vc_region hm ?_
  refine gM trivial (.inl rfl) rfl rfl rfl ?_
  refine gI trivial rfl rfl rfl rfl rfl rfl ?_
  refine rg_nil nofun ?_
  refine cF rfl (decide_eq_false (by have:=tot_nn (resT T (goK who s (decide (((lockBars T who write s).length:Int)=0))) who (giveH (at_ T who) write s));omega)) ?_
  refine vc_skip ?_
  refine vc_seq ?_
  refine vc_seq ?_
  refine vc_region hm ?_
  refine gM trivial (.inl rfl) rfl rfl rfl ?_
  refine gM trivial (.inl rfl) rfl rfl rfl ?_
  refine gI trivial rfl rfl rfl rfl rfl rfl ?_
  refine rg_nil nofun ?_
  refine cF rfl (bne_eq_false_iff_eq.2 rfl) ?_
  refine vc_skip ?_
  refine vc_seq ?_
  refine vc_region hm ?_
  refine gM trivial (.inr rfl) rfl rfl rfl ?_
  refine rg_nil nofun ?_
  refine vc_ret ?_
  exact ⟨idm,ends0 (.inr rfl) rfl (eqB rfl) rfl rfl rfl⟩
theorem FnExactLockGive_walk {w:World} {v0:Value} {T0:List Ho} {N0:Nam} {k0:Nat} {M0:Nat→Nam} {f0:Nat→Nat} (h0:HoldsArg w v0 T0 N0 k0 M0 f0) {a1:Int} (h1:Fits64 a1) {a2:Bool} {s3:Sp} (h3:Fits64 s3.lo∧Fits64 s3.hi):Calls Try.prog 10 #[v0,.int .i64 a1,.bool a2,vSp s3] w fun e w'=>e = .returned (.bool true)∧Below w.heap.size w w' :=
 law_done (FnExactLockGive_c h0.len h0.lens h1 a2 h3) (ρ:=envG [g0 N0,M0]) (by simp only [List.map_cons,List.map_nil,holds_r3 (gs:=[g0 N0,M0]) (a:=0) h0 rfl (of_blt rfl),r3_flat (v:=.int .i64 a1) rfl,r3_flat (v:=.bool a2) rfl,r3_flat (v:=vSp s3) rfl]) ⟨holds_at0 h0 rfl (of_blt rfl) rfl (of_blt rfl),holds_at1 h0 rfl (of_blt rfl),trivial⟩
end Go.Proofs.Ytcdhnaojdhdehaa.A

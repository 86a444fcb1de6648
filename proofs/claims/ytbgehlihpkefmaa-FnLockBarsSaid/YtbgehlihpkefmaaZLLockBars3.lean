/- Part 3 of the proof of FnLockBars: words, contracts of callees, plain lemmas. -/
import Derived.Test.YtbgehlihpkefmaaZLLockBars2
set_option maxHeartbeats 8000000
set_option maxRecDepth 100000
set_option linter.unusedVariables false
set_option linter.unusedSimpArgs false
namespace Go.Proofs.Ytbgehlihpkefmaa.A
open Go Go.RowKit
set_option maxHeartbeats 4000000
theorem spec_LockOk_c {T:List Ho} {kk cc:Nat} (hT:T.length≤1048576) (hB:∀ h ∈ T,h.r.length≤1048576∧h.w.length≤1048576):FDoes Try.prog 16 [.slice (some ⟨0,kk,none⟩) T.length cc] (hp [(0,false,one ⟨hls kk (rHv (tabV 1 zo T)),46,0⟩),(1,false,inF zo 28 0 T)]) { v:=.bool (lockOk T),rd:=[0,1] }:=by
 have hm:Try.prog.follows .mixedOrders=true:=by kernel_rfl
 have hd_:∀ x_ ∈ ([(0,false,one ⟨hls kk (rHv (tabV 1 zo T)),46,0⟩),(1,false,inF zo 28 0 T)]:List (Nat × Bool × Fam)),∀ k_ y_,x_.2.2 k_=some y_→DetB (lt 2) y_:=by
  intro x_ hx k_ y_ e
  simp only [List.mem_cons,List.not_mem_nil,or_false] at hx
  rcases hx with rfl|rfl
  ·exact det_tab (k0:=kk) rfl e
  ·exact det_in e
 refine fn_exact (u0:=2) Try.func16 rfl rfl (gets rfl rfl rfl hd_ rfl) ?_
 clear hd_
 refine vc_seq ?_
 refine vc_region hm ?_
 refine gM trivial (.inr rfl) rfl rfl rfl ?_
 refine rg_nil nofun ?_
 refine vc_seq ?_
 refine vc_seq ?_
 refine vc_region hm ?_
 refine gM trivial (.inl rfl) rfl rfl rfl ?_
 refine gK trivial rfl rfl rfl rfl rfl rfl (hls_nil tabV_nil) ?_
 refine gI trivial rfl rfl rfl rfl rfl rfl ?_
 refine rg_nil nofun ?_
 refine cI rfl (fun c7=>?_) (fun c7=>?_)
 ·skip
  have p7:=bne_iff_ne.1 c7
  refine vc_seq ?_
  refine vc_region hm ?_
  refine gM trivial (.inr rfl) rfl rfl rfl ?_
  refine rg_nil nofun ?_
  refine vc_ret ?_
  exact ⟨idm,ends0 (.inr rfl) rfl (eqB (ok_len3 p7)) rfl rfl rfl⟩
 ·skip
  have p7:=bne_eq_false_iff_eq.1 c7
  refine vc_skip ?_
  refine vc_seq ?_
  refine vc_seq ?_
  refine vc_region hm ?_
  refine gM trivial (.inr rfl) rfl rfl rfl ?_
  refine rg_nil nofun ?_
  refine vc_block ?_
  refine vc_loopT (fun n_ S_=>∃ (i:Nat),i≤T.length∧(List.range i).all (stepS T)=true∧n_=T.length - i∧S_=⟨2,[(0,.slice (some ⟨0,kk,none⟩) T.length cc),(3,.int .i64 i)],[(0,false,one ⟨hls kk (rHv (tabV 1 zo T)),46,0⟩),(1,false,inF zo 28 0 T)]⟩) ⟨0,Nat.zero_le _,rfl,rfl,rfl⟩ (re_nil (ms:=[0,1]) (C:=999) rfl ⟨⟨⟨rfl,rfl⟩,rfl⟩,⟨⟨rfl,rfl⟩,rfl⟩,trivial⟩ ⟨ktTab (k:=kk) rfl rfl (.inr (.inl rfl)) id rfl rfl,ktIn rfl id rfl,trivial⟩ rfl rfl (rig_of rfl) rfl) ?_
  rintro n_ S_ ⟨i,hi,ha,rfl,rfl⟩
  refine vc_seq ?_
  refine vc_seq ?_
  refine vc_region hm ?_
  refine gM trivial (.inl rfl) rfl rfl rfl ?_
  refine gM trivial (.inl rfl) rfl rfl rfl ?_
  refine gK trivial rfl rfl rfl rfl rfl rfl (hls_nil tabV_nil) ?_
  refine gI trivial rfl rfl rfl rfl rfl rfl ?_
  refine rg_nil nofun ?_
  refine cI rfl (fun c11=>?_) (fun c11=>?_)
  ·skip
   have p11:=of_decide_eq_true c11
   refine vc_skip ?_
   refine vc_seq ?_
   refine vc_block ?_
   refine vc_seq ?_
   refine vc_seq ?_
   refine vc_region hm ?_
   refine gM trivial (.inl rfl) rfl rfl rfl ?_
   refine gM trivial (.inl rfl) rfl rfl rfl ?_
   refine gX trivial rfl rfl rfl rfl rfl rfl rfl rfl (by omega) (by omega) (fun h=>hls_ne (tabV_ne h)) ?_
   refine gF trivial rfl rfl rfl rfl rfl ?_
   refine gL trivial rfl rfl rfl rfl rfl rfl rfl (lH0k (by omega) p11) ?_
   refine gCT0 [nA (nm 1 (2 * ((i:Int)).toNat))] [1] (spec_SpansOk_c (l:=(at_ T (i:Int)).r) (hB _ (at_mem (by omega) p11)).1) trivial rfl rfl rfl rfl rfl ⟨aRow rfl (rSp_flat _) rfl (inF_0 (by omega) p11) (.inl rfl) (.inl rfl) rfl,trivial⟩ rfl rfl rfl rfl ?_
   refine gN trivial rfl rfl rfl rfl ?_
   refine gM trivial (.inl rfl) rfl rfl rfl ?_
   refine gI2 (d:=21) rfl (fun c21=>?_) (fun c21=>?_)
   ·skip
    have n21:=unT c21
    refine gO ⟨_,_,rfl,rfl,c21⟩ rfl rfl ?_
    refine gO ⟨_,_,rfl,rfl,c21⟩ rfl rfl ?_
    refine gO ⟨_,_,rfl,rfl,c21⟩ rfl rfl ?_
    refine gO ⟨_,_,rfl,rfl,c21⟩ rfl rfl ?_
    refine gO ⟨_,_,rfl,rfl,c21⟩ rfl rfl ?_
    refine gO ⟨_,_,rfl,rfl,c21⟩ rfl rfl ?_
    refine gO ⟨_,_,rfl,rfl,c21⟩ rfl rfl ?_
    refine gPT trivial rfl rfl c21 rfl rfl rfl ?_
    refine gM trivial (.inl rfl) rfl rfl rfl ?_
    refine gO ⟨_,_,rfl,rfl,rfl⟩ rfl rfl ?_
    refine gO ⟨_,_,rfl,rfl,rfl⟩ rfl rfl ?_
    refine gO ⟨_,_,rfl,rfl,rfl⟩ rfl rfl ?_
    refine gO ⟨_,_,rfl,rfl,rfl⟩ rfl rfl ?_
    refine gO ⟨_,_,rfl,rfl,rfl⟩ rfl rfl ?_
    refine gO ⟨_,_,rfl,rfl,rfl⟩ rfl rfl ?_
    refine gO ⟨_,_,rfl,rfl,rfl⟩ rfl rfl ?_
    refine gO ⟨_,_,rfl,rfl,rfl⟩ rfl rfl ?_
    refine gO ⟨_,_,rfl,rfl,rfl⟩ rfl rfl ?_
    refine gO ⟨_,_,rfl,rfl,rfl⟩ rfl rfl ?_
    refine gO ⟨_,_,rfl,rfl,rfl⟩ rfl rfl ?_
    refine gO ⟨_,_,rfl,rfl,rfl⟩ rfl rfl ?_
    refine gPT trivial rfl rfl rfl rfl rfl rfl ?_
    refine rg_nil (fun _=>by kernel_rfl) ?_
    refine cT rfl rfl ?_
    refine vc_seq ?_
    refine vc_region hm ?_
    refine gM trivial (.inr rfl) rfl rfl rfl ?_
    refine rg_nil nofun ?_
    refine vc_ret ?_
    exact ⟨idm,ends0 (.inr rfl) rfl (eqB (okS_at p11 (by first|exact stepS_1 (by assumption)|exact stepS_2 (by assumption)|exact stepS_3 (by assumption)))) rfl rfl rfl⟩
   ·skip
    have n21:=unF c21
    refine gM ⟨_,_,rfl,rfl,c21⟩ (.inl rfl) rfl rfl rfl ?_
    refine gM ⟨_,_,rfl,rfl,c21⟩ (.inl rfl) rfl rfl rfl ?_
    refine gX ⟨_,_,rfl,rfl,c21⟩ rfl rfl rfl rfl rfl rfl rfl rfl (by omega) (by omega) (fun h=>hls_ne (tabV_ne h)) ?_
    refine gF ⟨_,_,rfl,rfl,c21⟩ rfl rfl rfl rfl rfl ?_
    refine gL ⟨_,_,rfl,rfl,c21⟩ rfl rfl rfl rfl rfl rfl rfl (lH1k (by omega) p11) ?_
    refine gCT0 [nA (nm 1 (2 * ((i:Int)).toNat + 1))] [1] (spec_SpansOk_c (l:=(at_ T (i:Int)).w) (hB _ (at_mem (by omega) p11)).2) ⟨_,_,rfl,rfl,c21⟩ rfl rfl rfl rfl rfl ⟨aRow rfl (rSp_flat _) rfl (inF_1 (by omega) p11) (.inl rfl) (.inl rfl) rfl,trivial⟩ rfl rfl rfl rfl ?_
    refine gN ⟨_,_,rfl,rfl,c21⟩ rfl rfl rfl rfl ?_
    refine gPF trivial rfl rfl c21 rfl rfl rfl ?_
    refine gM trivial (.inl rfl) rfl rfl rfl ?_
    refine gI2 (d:=30) rfl (fun c30=>?_) (fun c30=>?_)
    ·skip
     have n30:=unT c30
     refine gO ⟨_,_,rfl,rfl,c30⟩ rfl rfl ?_
     refine gO ⟨_,_,rfl,rfl,c30⟩ rfl rfl ?_
     refine gO ⟨_,_,rfl,rfl,c30⟩ rfl rfl ?_
     refine gO ⟨_,_,rfl,rfl,c30⟩ rfl rfl ?_
     refine gO ⟨_,_,rfl,rfl,c30⟩ rfl rfl ?_
     refine gO ⟨_,_,rfl,rfl,c30⟩ rfl rfl ?_
     refine gO ⟨_,_,rfl,rfl,c30⟩ rfl rfl ?_
     refine gO ⟨_,_,rfl,rfl,c30⟩ rfl rfl ?_
     refine gO ⟨_,_,rfl,rfl,c30⟩ rfl rfl ?_
     refine gO ⟨_,_,rfl,rfl,c30⟩ rfl rfl ?_
     refine gO ⟨_,_,rfl,rfl,c30⟩ rfl rfl ?_
     refine gO ⟨_,_,rfl,rfl,c30⟩ rfl rfl ?_
     refine gPT trivial rfl rfl c30 rfl rfl rfl ?_
     refine rg_nil (fun _=>by kernel_rfl) ?_
     refine cT rfl rfl ?_
     refine vc_seq ?_
     refine vc_region hm ?_
     refine gM trivial (.inr rfl) rfl rfl rfl ?_
     refine rg_nil nofun ?_
     refine vc_ret ?_
     exact ⟨idm,ends0 (.inr rfl) rfl (eqB (okS_at p11 (by first|exact stepS_1 (by assumption)|exact stepS_2 (by assumption)|exact stepS_3 (by assumption)))) rfl rfl rfl⟩
    ·skip
     have n30:=unF c30
     refine gM ⟨_,_,rfl,rfl,c30⟩ (.inl rfl) rfl rfl rfl ?_
     refine gM ⟨_,_,rfl,rfl,c30⟩ (.inl rfl) rfl rfl rfl ?_
     refine gX ⟨_,_,rfl,rfl,c30⟩ rfl rfl rfl rfl rfl rfl rfl rfl (by omega) (by omega) (fun h=>hls_ne (tabV_ne h)) ?_
     refine gF ⟨_,_,rfl,rfl,c30⟩ rfl rfl rfl rfl rfl ?_
     refine gL ⟨_,_,rfl,rfl,c30⟩ rfl rfl rfl rfl rfl rfl rfl (lH0k (by omega) p11) ?_
     refine gM ⟨_,_,rfl,rfl,c30⟩ (.inl rfl) rfl rfl rfl ?_
     refine gM ⟨_,_,rfl,rfl,c30⟩ (.inl rfl) rfl rfl rfl ?_
     refine gX ⟨_,_,rfl,rfl,c30⟩ rfl rfl rfl rfl rfl rfl rfl rfl (by omega) (by omega) (fun h=>hls_ne (tabV_ne h)) ?_
     refine gF ⟨_,_,rfl,rfl,c30⟩ rfl rfl rfl rfl rfl ?_
     refine gL ⟨_,_,rfl,rfl,c30⟩ rfl rfl rfl rfl rfl rfl rfl (lH1k (by omega) p11) ?_
     refine gCT0 [nA (nm 1 (2 * ((i:Int)).toNat)),nA (nm 1 (2 * ((i:Int)).toNat + 1))] [1] (spec_l4Clear_c (a:=(at_ T (i:Int)).r) (b:=(at_ T (i:Int)).w) (hB _ (at_mem (by omega) p11)).1 (hB _ (at_mem (by omega) p11)).2) ⟨_,_,rfl,rfl,c30⟩ rfl rfl rfl rfl rfl ⟨aRow rfl (rSp_flat _) rfl (inF_0 (by omega) p11) (.inl rfl) (.inl rfl) rfl,aRow rfl (rSp_flat _) rfl (inF_1 (by omega) p11) (.inl rfl) (.inl rfl) rfl,trivial⟩ rfl rfl rfl rfl ?_
     refine gN ⟨_,_,rfl,rfl,c30⟩ rfl rfl rfl rfl ?_
     refine gPF trivial rfl rfl c30 rfl rfl rfl ?_
     refine rg_nil (fun _=>by kernel_rfl) ?_
     refine cI rfl (fun c43=>?_) (fun c43=>?_)
     ·skip
      have n43:=unT c43
      refine vc_seq ?_
      refine vc_region hm ?_
      refine gM trivial (.inr rfl) rfl rfl rfl ?_
      refine rg_nil nofun ?_
      refine vc_ret ?_
      exact ⟨idm,ends0 (.inr rfl) rfl (eqB (okS_at p11 (by first|exact stepS_1 (by assumption)|exact stepS_2 (by assumption)|exact stepS_3 (by assumption)))) rfl rfl rfl⟩
     ·skip
      have n43:=unF c43
      refine vc_skip ?_
      refine vc_seq ?_
      refine vc_region hm ?_
      refine gM trivial (.inr rfl) rfl rfl rfl ?_
      refine rg_nil nofun ?_
      refine vc_block ?_
      refine vc_loopT (fun n_ S_=>∃ (k:Nat),k≤T.length∧(List.range k).all (pairOk T i)=true∧n_=T.length - k∧S_=⟨2,[(0,.slice (some ⟨0,kk,none⟩) T.length cc),(3,.int .i64 i),(4,.int .i64 k)],[(0,false,one ⟨hls kk (rHv (tabV 1 zo T)),46,0⟩),(1,false,inF zo 28 0 T)]⟩) ⟨0,Nat.zero_le _,rfl,rfl,rfl⟩ (re_nil (ms:=[0,1]) (C:=999) rfl ⟨⟨⟨rfl,rfl⟩,rfl⟩,⟨⟨rfl,rfl⟩,rfl⟩,⟨⟨rfl,rfl⟩,rfl⟩,trivial⟩ ⟨ktTab (k:=kk) rfl rfl (.inr (.inl rfl)) id rfl rfl,ktIn rfl id rfl,trivial⟩ rfl rfl (rig_of rfl) rfl) ?_
      rintro n_ S_ ⟨k,hk,hp,rfl,rfl⟩
      refine vc_seq ?_
      refine vc_seq ?_
      refine vc_region hm ?_
      refine gM trivial (.inl rfl) rfl rfl rfl ?_
      refine gM trivial (.inl rfl) rfl rfl rfl ?_
      refine gK trivial rfl rfl rfl rfl rfl rfl (hls_nil tabV_nil) ?_
      refine gI trivial rfl rfl rfl rfl rfl rfl ?_
      refine rg_nil nofun ?_
      refine cI rfl (fun c47=>?_) (fun c47=>?_)
      ·skip
       have p47:=of_decide_eq_true c47
       refine vc_skip ?_
       refine vc_seq ?_
       refine vc_block ?_
       refine vc_seq ?_
       refine vc_region hm ?_
       refine gM trivial (.inl rfl) rfl rfl rfl ?_
       refine gM trivial (.inl rfl) rfl rfl rfl ?_
       refine gI trivial rfl rfl rfl rfl rfl rfl ?_
       refine gM trivial (.inl rfl) rfl rfl rfl ?_
       refine gI2 (d:=53) rfl (fun c53=>?_) (fun c53=>?_)
       ·skip
        have p53:=bne_iff_ne.1 c53
        refine gM ⟨_,_,rfl,rfl,c53⟩ (.inl rfl) rfl rfl rfl ?_
        refine gM ⟨_,_,rfl,rfl,c53⟩ (.inl rfl) rfl rfl rfl ?_
        refine gX ⟨_,_,rfl,rfl,c53⟩ rfl rfl rfl rfl rfl rfl rfl rfl (by omega) (by omega) (fun h=>hls_ne (tabV_ne h)) ?_
        refine gF ⟨_,_,rfl,rfl,c53⟩ rfl rfl rfl rfl rfl ?_
        refine gL ⟨_,_,rfl,rfl,c53⟩ rfl rfl rfl rfl rfl rfl rfl (lH1k (by omega) p11) ?_
        refine gM ⟨_,_,rfl,rfl,c53⟩ (.inl rfl) rfl rfl rfl ?_
        refine gM ⟨_,_,rfl,rfl,c53⟩ (.inl rfl) rfl rfl rfl ?_
        refine gX ⟨_,_,rfl,rfl,c53⟩ rfl rfl rfl rfl rfl rfl rfl rfl (by omega) (by omega) (fun h=>hls_ne (tabV_ne h)) ?_
        refine gF ⟨_,_,rfl,rfl,c53⟩ rfl rfl rfl rfl rfl ?_
        refine gL ⟨_,_,rfl,rfl,c53⟩ rfl rfl rfl rfl rfl rfl rfl (lH1k (by omega) p47) ?_
        refine gCT0 [nA (nm 1 (2 * ((i:Int)).toNat + 1)),nA (nm 1 (2 * ((k:Int)).toNat + 1))] [1] (spec_l4Clear_c (a:=(at_ T (i:Int)).w) (b:=(at_ T (k:Int)).w) (hB _ (at_mem (by omega) p11)).2 (hB _ (at_mem (by omega) p47)).2) ⟨_,_,rfl,rfl,c53⟩ rfl rfl rfl rfl rfl ⟨aRow rfl (rSp_flat _) rfl (inF_1 (by omega) p11) (.inl rfl) (.inl rfl) rfl,aRow rfl (rSp_flat _) rfl (inF_1 (by omega) p47) (.inl rfl) (.inl rfl) rfl,trivial⟩ rfl rfl rfl rfl ?_
        refine gN ⟨_,_,rfl,rfl,c53⟩ rfl rfl rfl rfl ?_
        refine gM ⟨_,_,rfl,rfl,c53⟩ (.inl rfl) rfl rfl rfl ?_
        refine gI2 (d:=66) rfl (fun c66=>?_) (fun c66=>?_)
        ·skip
         have n66:=unT c66
         refine gO ⟨_,_,rfl,rfl,c66⟩ rfl rfl ?_
         refine gO ⟨_,_,rfl,rfl,c66⟩ rfl rfl ?_
         refine gO ⟨_,_,rfl,rfl,c66⟩ rfl rfl ?_
         refine gO ⟨_,_,rfl,rfl,c66⟩ rfl rfl ?_
         refine gO ⟨_,_,rfl,rfl,c66⟩ rfl rfl ?_
         refine gO ⟨_,_,rfl,rfl,c66⟩ rfl rfl ?_
         refine gO ⟨_,_,rfl,rfl,c66⟩ rfl rfl ?_
         refine gO ⟨_,_,rfl,rfl,c66⟩ rfl rfl ?_
         refine gO ⟨_,_,rfl,rfl,c66⟩ rfl rfl ?_
         refine gO ⟨_,_,rfl,rfl,c66⟩ rfl rfl ?_
         refine gO ⟨_,_,rfl,rfl,c66⟩ rfl rfl ?_
         refine gO ⟨_,_,rfl,rfl,c66⟩ rfl rfl ?_
         refine gPT ⟨_,_,rfl,rfl,c53⟩ rfl rfl c66 rfl rfl rfl ?_
         refine gPT trivial rfl rfl c53 rfl rfl rfl ?_
         refine rg_nil (fun _=>by kernel_rfl) ?_
         refine cT rfl rfl ?_
         refine vc_seq ?_
         refine vc_region hm ?_
         refine gM trivial (.inr rfl) rfl rfl rfl ?_
         refine rg_nil nofun ?_
         refine vc_ret ?_
         exact ⟨idm,ends0 (.inr rfl) rfl (eqB (okS_at p11 (by first|exact stepS_4 p47 p53 (by assumption)|exact stepS_5 p47 p53 (by assumption)))) rfl rfl rfl⟩
        ·skip
         have n66:=unF c66
         refine gM ⟨_,_,rfl,rfl,c66⟩ (.inl rfl) rfl rfl rfl ?_
         refine gM ⟨_,_,rfl,rfl,c66⟩ (.inl rfl) rfl rfl rfl ?_
         refine gX ⟨_,_,rfl,rfl,c66⟩ rfl rfl rfl rfl rfl rfl rfl rfl (by omega) (by omega) (fun h=>hls_ne (tabV_ne h)) ?_
         refine gF ⟨_,_,rfl,rfl,c66⟩ rfl rfl rfl rfl rfl ?_
         refine gL ⟨_,_,rfl,rfl,c66⟩ rfl rfl rfl rfl rfl rfl rfl (lH1k (by omega) p11) ?_
         refine gM ⟨_,_,rfl,rfl,c66⟩ (.inl rfl) rfl rfl rfl ?_
         refine gM ⟨_,_,rfl,rfl,c66⟩ (.inl rfl) rfl rfl rfl ?_
         refine gX ⟨_,_,rfl,rfl,c66⟩ rfl rfl rfl rfl rfl rfl rfl rfl (by omega) (by omega) (fun h=>hls_ne (tabV_ne h)) ?_
         refine gF ⟨_,_,rfl,rfl,c66⟩ rfl rfl rfl rfl rfl ?_
         refine gL ⟨_,_,rfl,rfl,c66⟩ rfl rfl rfl rfl rfl rfl rfl (lH0k (by omega) p47) ?_
         refine gCT0 [nA (nm 1 (2 * ((i:Int)).toNat + 1)),nA (nm 1 (2 * ((k:Int)).toNat))] [1] (spec_l4Clear_c (a:=(at_ T (i:Int)).w) (b:=(at_ T (k:Int)).r) (hB _ (at_mem (by omega) p11)).2 (hB _ (at_mem (by omega) p47)).1) ⟨_,_,rfl,rfl,c66⟩ rfl rfl rfl rfl rfl ⟨aRow rfl (rSp_flat _) rfl (inF_1 (by omega) p11) (.inl rfl) (.inl rfl) rfl,aRow rfl (rSp_flat _) rfl (inF_0 (by omega) p47) (.inl rfl) (.inl rfl) rfl,trivial⟩ rfl rfl rfl rfl ?_
         refine gN ⟨_,_,rfl,rfl,c66⟩ rfl rfl rfl rfl ?_
         refine gPF ⟨_,_,rfl,rfl,c53⟩ rfl rfl c66 rfl rfl rfl ?_
         refine gPT trivial rfl rfl c53 rfl rfl rfl ?_
         refine rg_nil (fun _=>by kernel_rfl) ?_
         refine cI rfl (fun c80=>?_) (fun c80=>?_)
         ·skip
          have n80:=unT c80
          refine vc_seq ?_
          refine vc_region hm ?_
          refine gM trivial (.inr rfl) rfl rfl rfl ?_
          refine rg_nil nofun ?_
          refine vc_ret ?_
          exact ⟨idm,ends0 (.inr rfl) rfl (eqB (okS_at p11 (by first|exact stepS_4 p47 p53 (by assumption)|exact stepS_5 p47 p53 (by assumption)))) rfl rfl rfl⟩
         ·skip
          have n80:=unF c80
          refine vc_skip ?_
          refine vc_region hm ?_
          refine gM trivial (.inl rfl) rfl rfl rfl ?_
          refine gA trivial rfl rfl rfl rfl rfl rfl (by omega) ?_
          refine gM trivial (.inr rfl) rfl rfl rfl ?_
          refine rg_nil nofun ?_
          exact lp_nextT ⟨k + 1,(by omega),(all_step hp (pair_ne n66 n80)),rfl,rfl⟩ (by omega) (re_nil (ms:=[0,1]) (C:=999) rfl ⟨⟨⟨rfl,rfl⟩,rfl⟩,⟨⟨rfl,rfl⟩,rfl⟩,⟨⟨rfl,rfl⟩,rfl⟩,trivial⟩ ⟨ktTab (k:=kk) rfl rfl (.inr (.inl rfl)) id rfl rfl,ktIn rfl id rfl,trivial⟩ rfl rfl (rig_of rfl) rfl)
       ·skip
        have p53:=bne_eq_false_iff_eq.1 c53
        refine gO ⟨_,_,rfl,rfl,c53⟩ rfl rfl ?_
        refine gO ⟨_,_,rfl,rfl,c53⟩ rfl rfl ?_
        refine gO ⟨_,_,rfl,rfl,c53⟩ rfl rfl ?_
        refine gO ⟨_,_,rfl,rfl,c53⟩ rfl rfl ?_
        refine gO ⟨_,_,rfl,rfl,c53⟩ rfl rfl ?_
        refine gO ⟨_,_,rfl,rfl,c53⟩ rfl rfl ?_
        refine gO ⟨_,_,rfl,rfl,c53⟩ rfl rfl ?_
        refine gO ⟨_,_,rfl,rfl,c53⟩ rfl rfl ?_
        refine gO ⟨_,_,rfl,rfl,c53⟩ rfl rfl ?_
        refine gO ⟨_,_,rfl,rfl,c53⟩ rfl rfl ?_
        refine gO ⟨_,_,rfl,rfl,c53⟩ rfl rfl ?_
        refine gO ⟨_,_,rfl,rfl,c53⟩ rfl rfl ?_
        refine gO ⟨_,_,rfl,rfl,c53⟩ rfl rfl ?_
        refine gO ⟨_,_,rfl,rfl,trivial⟩ rfl rfl ?_
        refine gO ⟨_,_,rfl,rfl,trivial⟩ rfl rfl ?_
        refine gO ⟨_,_,rfl,rfl,trivial⟩ rfl rfl ?_
        refine gO ⟨_,_,rfl,rfl,trivial⟩ rfl rfl ?_
        refine gO ⟨_,_,rfl,rfl,trivial⟩ rfl rfl ?_
        refine gO ⟨_,_,rfl,rfl,trivial⟩ rfl rfl ?_
        refine gO ⟨_,_,rfl,rfl,trivial⟩ rfl rfl ?_
        refine gO ⟨_,_,rfl,rfl,trivial⟩ rfl rfl ?_
        refine gO ⟨_,_,rfl,rfl,trivial⟩ rfl rfl ?_
        refine gO ⟨_,_,rfl,rfl,trivial⟩ rfl rfl ?_
        refine gO ⟨_,_,rfl,rfl,trivial⟩ rfl rfl ?_
        refine gO ⟨_,_,rfl,rfl,trivial⟩ rfl rfl ?_
        refine gO ⟨_,_,rfl,rfl,c53⟩ rfl rfl ?_
        refine gPF trivial rfl rfl c53 rfl rfl rfl ?_
        refine rg_nil (fun _=>by kernel_rfl) ?_
        refine cF rfl rfl ?_
        refine vc_skip ?_
        refine vc_region hm ?_
        refine gM trivial (.inl rfl) rfl rfl rfl ?_
        refine gA trivial rfl rfl rfl rfl rfl rfl (by omega) ?_
        refine gM trivial (.inr rfl) rfl rfl rfl ?_
        refine rg_nil nofun ?_
        exact lp_nextT ⟨k + 1,(by omega),(all_step hp (pair_eq p53)),rfl,rfl⟩ (by omega) (re_nil (ms:=[0,1]) (C:=999) rfl ⟨⟨⟨rfl,rfl⟩,rfl⟩,⟨⟨rfl,rfl⟩,rfl⟩,⟨⟨rfl,rfl⟩,rfl⟩,trivial⟩ ⟨ktTab (k:=kk) rfl rfl (.inr (.inl rfl)) id rfl rfl,ktIn rfl id rfl,trivial⟩ rfl rfl (rig_of rfl) rfl)
      ·skip
       have p47:=of_decide_eq_false c47
       refine vc_exit ?_
       refine vc_region hm ?_
       refine gM trivial (.inl rfl) rfl rfl rfl ?_
       refine gA trivial rfl rfl rfl rfl rfl rfl (by omega) ?_
       refine gM trivial (.inr rfl) rfl rfl rfl ?_
       refine rg_nil nofun ?_
       exact lp_nextT ⟨i + 1,(by omega),(all_step ha (stepS_6 n21 n30 n43 hk p47 hp)),rfl,rfl⟩ (by omega) (re_nil (ms:=[0,1]) (C:=999) rfl ⟨⟨⟨rfl,rfl⟩,rfl⟩,⟨⟨rfl,rfl⟩,rfl⟩,trivial⟩ ⟨ktTab (k:=kk) rfl rfl (.inr (.inl rfl)) id rfl rfl,ktIn rfl id rfl,trivial⟩ rfl rfl (rig_of rfl) rfl)
  ·skip
   have p11:=of_decide_eq_false c11
   refine vc_exit ?_
   refine vc_seq ?_
   refine vc_region hm ?_
   refine gM trivial (.inr rfl) rfl rfl rfl ?_
   refine rg_nil nofun ?_
   refine vc_ret ?_
   exact ⟨idm,ends0 (.inr rfl) rfl (eqB (okS_all p7 hi p11 ha)) rfl rfl rfl⟩
theorem impl_LockOk_c {T:List Ho} {kk cc:Nat} (hT:T.length≤1048576) (hB:∀ h ∈ T,h.r.length≤1048576∧h.w.length≤1048576):FDoes Try.prog 15 [.slice (some ⟨0,kk,none⟩) T.length cc] (hp [(0,false,one ⟨hls kk (rHv (tabV 1 zo T)),46,0⟩),(1,false,inF zo 28 0 T)]) { v:=.bool (lockOk T),rd:=[0,1] }:=by
 have hm:Try.prog.follows .mixedOrders=true:=by kernel_rfl
 have hd_:∀ x_ ∈ ([(0,false,one ⟨hls kk (rHv (tabV 1 zo T)),46,0⟩),(1,false,inF zo 28 0 T)]:List (Nat × Bool × Fam)),∀ k_ y_,x_.2.2 k_=some y_→DetB (lt 2) y_:=by
  intro x_ hx k_ y_ e
  simp only [List.mem_cons,List.not_mem_nil,or_false] at hx
  rcases hx with rfl|rfl
  ·exact det_tab (k0:=kk) rfl e
  ·exact det_in e
 refine fn_exact (u0:=2) Try.func15 rfl rfl (gets rfl rfl rfl hd_ rfl) ?_
 clear hd_
 refine vc_seq ?_
 refine vc_region hm ?_
 refine gM trivial (.inr rfl) rfl rfl rfl ?_
 refine rg_nil nofun ?_
 refine vc_seq ?_
 refine vc_seq ?_
 refine vc_region hm ?_
 refine gM trivial (.inl rfl) rfl rfl rfl ?_
 refine gK trivial rfl rfl rfl rfl rfl rfl (hls_nil tabV_nil) ?_
 refine gI trivial rfl rfl rfl rfl rfl rfl ?_
 refine rg_nil nofun ?_
 refine cI rfl (fun c12=>?_) (fun c12=>?_)
 ·skip
  have p12:=bne_iff_ne.1 c12
  refine vc_seq ?_
  refine vc_region hm ?_
  refine gM trivial (.inr rfl) rfl rfl rfl ?_
  refine rg_nil nofun ?_
  refine vc_ret ?_
  exact ⟨idm,ends0 (.inr rfl) rfl (eqB (ok_len3 p12)) rfl rfl rfl⟩
 ·skip
  have p12:=bne_eq_false_iff_eq.1 c12
  refine vc_skip ?_
  refine vc_seq ?_
  refine vc_region hm ?_
  refine gZ (u':=3) trivial rfl rfl rfl rfl rfl rfl rfl (show cellsL _=plL noP from rfl) ?_
  refine gZ (u':=4) trivial rfl rfl rfl rfl rfl rfl rfl (show cellsL _=plL noP from rfl) ?_
  refine rg_nil nofun ?_
  refine vc_seq ?_
  refine vc_seq ?_
  refine vc_region hm ?_
  refine gM trivial (.inl rfl) rfl rfl rfl ?_
  refine gK trivial rfl rfl rfl rfl rfl rfl (hls_nil tabV_nil) ?_
  refine gM trivial (.inl rfl) rfl rfl rfl ?_
  refine rg_nil nofun ?_
  refine vc_block ?_
  refine vc_loopT (fun n_ S_=>∃ (j:Nat),j≤T.length∧(List.range j).all (stepI T)=true∧n_=T.length - j∧S_=⟨4,[(3,.pointer (some ⟨2,0,none⟩)),(4,.pointer (some ⟨3,0,none⟩)),(13,.slice (some ⟨0,kk,none⟩) T.length cc),(14,.int .i64 T.length),(15,.int .i64 j)],[(0,false,one ⟨hls kk (rHv (tabV 1 zo T)),46,0⟩),(1,false,inF zo 28 0 T),(2,true,one ⟨plL (anyP T j),59,48⟩),(3,true,one ⟨plL (wrP T j),59,48⟩)]⟩) ⟨0,Nat.zero_le _,rfl,rfl,rfl⟩ (re_nil (ms:=[0,1,2,3]) (C:=999) rfl ⟨⟨⟨rfl,rfl⟩,rfl⟩,⟨⟨rfl,rfl⟩,rfl⟩,⟨⟨rfl,rfl⟩,rfl⟩,⟨⟨rfl,rfl⟩,rfl⟩,⟨⟨rfl,rfl⟩,rfl⟩,trivial⟩ ⟨ktTab (k:=kk) rfl rfl (.inr (.inl rfl)) id rfl rfl,ktIn rfl id rfl,ktFlat (plL_flat _) (eqH any_0) (.inr (.inl rfl)) id rfl,ktFlat (plL_flat _) (eqH wr_0) (.inr (.inl rfl)) id rfl,trivial⟩ rfl rfl (rig_of rfl) rfl) ?_
  rintro n_ S_ ⟨j,hj,ha,rfl,rfl⟩
  refine vc_seq ?_
  refine vc_region hm ?_
  refine gI trivial rfl rfl rfl rfl rfl rfl ?_
  refine rg_nil nofun ?_
  refine vc_seq ?_
  refine cI rfl (fun c16=>?_) (fun c16=>?_)
  ·skip
   have p16:=of_decide_eq_true c16
   refine vc_skip ?_
   refine vc_seq ?_
   refine vc_block ?_
   refine vc_seq ?_
   refine vc_region hm ?_
   refine gX trivial rfl rfl rfl rfl rfl rfl rfl rfl (by omega) p16 (fun h=>hls_ne (tabV_ne h)) ?_
   refine gL trivial rfl rfl rfl rfl rfl rfl rfl (aHk (by omega) p16) ?_
   refine gZ (u':=5) trivial rfl rfl rfl rfl rfl rfl rfl rfl ?_
   refine gT trivial rfl rfl rfl rfl rfl rfl rfl rfl rfl rfl (Nat.le_of_ble_eq_true rfl) rfl ?_
   refine rg_nil nofun ?_
   refine vc_seq ?_
   refine vc_seq ?_
   refine vc_region hm ?_
   refine gF trivial rfl rfl rfl rfl rfl ?_
   refine gL trivial rfl rfl rfl rfl rfl rfl rfl rfl ?_
   refine gCT0 [nA (nm 1 (2 * ((j:Int)).toNat))] [1] (impl_SpansOk_c (l:=(at_ T (j:Int)).r) (hB _ (at_mem (by omega) p16)).1) trivial rfl rfl rfl rfl rfl ⟨aRow rfl (rSp_flat _) rfl (inF_0 (by omega) p16) (.inl rfl) (.inl rfl) rfl,trivial⟩ rfl rfl rfl rfl ?_
   refine gN trivial rfl rfl rfl rfl ?_
   refine gM trivial (.inl rfl) rfl rfl rfl ?_
   refine gI2 (d:=23) rfl (fun c23=>?_) (fun c23=>?_)
   ·skip
    have n23:=unT c23
    refine gO ⟨_,_,rfl,rfl,c23⟩ rfl rfl ?_
    refine gO ⟨_,_,rfl,rfl,c23⟩ rfl rfl ?_
    refine gO ⟨_,_,rfl,rfl,c23⟩ rfl rfl ?_
    refine gO ⟨_,_,rfl,rfl,c23⟩ rfl rfl ?_
    refine gPT trivial rfl rfl c23 rfl rfl rfl ?_
    refine rg_nil nofun ?_
    refine cT rfl rfl ?_
    refine vc_seq ?_
    refine vc_region hm ?_
    refine gM trivial (.inr rfl) rfl rfl rfl ?_
    refine rg_nil nofun ?_
    refine vc_ret ?_
    exact ⟨idm,ends0 (.inr rfl) rfl (eqB (okI_at p16 (by first|exact stepI_1 (by assumption)|exact stepI_2 (by assumption)|exact stepI_3 (by assumption)|exact stepI_4 (by assumption)|exact stepI_5 (by assumption)))) rfl rfl rfl⟩
   ·skip
    have n23:=unF c23
    refine gF ⟨_,_,rfl,rfl,c23⟩ rfl rfl rfl rfl rfl ?_
    refine gL ⟨_,_,rfl,rfl,c23⟩ rfl rfl rfl rfl rfl rfl rfl rfl ?_
    refine gCT0 [nA (nm 1 (2 * ((j:Int)).toNat + 1))] [1] (impl_SpansOk_c (l:=(at_ T (j:Int)).w) (hB _ (at_mem (by omega) p16)).2) ⟨_,_,rfl,rfl,c23⟩ rfl rfl rfl rfl rfl ⟨aRow rfl (rSp_flat _) rfl (inF_1 (by omega) p16) (.inl rfl) (.inl rfl) rfl,trivial⟩ rfl rfl rfl rfl ?_
    refine gN ⟨_,_,rfl,rfl,c23⟩ rfl rfl rfl rfl ?_
    refine gPF trivial rfl rfl c23 rfl rfl rfl ?_
    refine rg_nil nofun ?_
    refine cI rfl (fun c28=>?_) (fun c28=>?_)
    ·skip
     have n28:=unT c28
     refine vc_seq ?_
     refine vc_region hm ?_
     refine gM trivial (.inr rfl) rfl rfl rfl ?_
     refine rg_nil nofun ?_
     refine vc_ret ?_
     exact ⟨idm,ends0 (.inr rfl) rfl (eqB (okI_at p16 (by first|exact stepI_1 (by assumption)|exact stepI_2 (by assumption)|exact stepI_3 (by assumption)|exact stepI_4 (by assumption)|exact stepI_5 (by assumption)))) rfl rfl rfl⟩
    ·skip
     have n28:=unF c28
     refine vc_skip ?_
     refine vc_seq ?_
     refine vc_region hm ?_
     refine gF trivial rfl rfl rfl rfl rfl ?_
     refine gL trivial rfl rfl rfl rfl rfl rfl rfl rfl ?_
     refine gCT0 [nA (nm 1 (2 * ((j:Int)).toNat))] [1] (of_c (l:=(at_ T (j:Int)).r) (inB_of (by assumption)) (by have:=spansOk_len (l:=(at_ T (j:Int)).r) (by assumption);omega)) trivial rfl rfl rfl rfl rfl ⟨aRow rfl (rSp_flat _) rfl (inF_0 (by omega) p16) (.inl rfl) (.inl rfl) rfl,trivial⟩ (vPl_flat _) rfl rfl rfl ?_
     refine gF trivial rfl rfl rfl rfl rfl ?_
     refine gL trivial rfl rfl rfl rfl rfl rfl rfl rfl ?_
     refine gCT0 [nA (nm 1 (2 * ((j:Int)).toNat + 1))] [1] (of_c (l:=(at_ T (j:Int)).w) (inB_of (by assumption)) (by have:=spansOk_len (l:=(at_ T (j:Int)).w) (by assumption);omega)) trivial rfl rfl rfl rfl rfl ⟨aRow rfl (rSp_flat _) rfl (inF_1 (by omega) p16) (.inl rfl) (.inl rfl) rfl,trivial⟩ (vPl_flat _) rfl rfl rfl ?_
     refine gZ (u':=6) trivial rfl rfl rfl rfl rfl rfl rfl (show cellsL _=plL noP from rfl) ?_
     refine gZ (u':=7) trivial rfl rfl rfl rfl rfl rfl rfl (show cellsL _=plL noP from rfl) ?_
     refine gT trivial rfl rfl rfl rfl rfl rfl rfl rfl rfl rfl zPl pPl ?_
     refine gT trivial rfl rfl rfl rfl rfl rfl rfl rfl rfl rfl zPl pPl ?_
     refine rg_nil (fun _=>by kernel_rfl) ?_
     refine vc_seq ?_
     refine vc_region hm ?_
     refine gU trivial rfl rfl rfl rfl rfl rfl rfl rfl ?_
     refine gZ (u':=8) trivial rfl rfl rfl rfl rfl rfl rfl (show cellsL _=plL noP from rfl) ?_
     refine gT trivial rfl rfl rfl rfl rfl rfl rfl rfl rfl rfl zPl (show putL _ 0 _=plL noP from rfl) ?_
     refine rg_nil nofun ?_
     refine vc_seq ?_
     refine vc_seq ?_
     refine vc_region hm ?_
     refine gL trivial rfl rfl rfl rfl rfl rfl rfl wPl ?_
     refine gL trivial rfl rfl rfl rfl rfl rfl rfl wPl ?_
     refine gC0 [] (meet_c (ofP (at_ T (j:Int)).r) (ofP (at_ T (j:Int)).w)) trivial rfl rfl rfl rfl (by trivial) rfl rfl (vPl_flat _) rfl rfl ?_
     refine gL trivial rfl rfl rfl rfl rfl rfl rfl wPl ?_
     refine gEqPn trivial rfl rfl rfl rfl rfl (by kernel_rfl) rfl rfl rfl rfl ?_
     refine gM trivial (.inl rfl) rfl rfl rfl ?_
     refine gI2 (d:=41) rfl (fun c41=>?_) (fun c41=>?_)
     ·skip
      have n41:=unT c41
      refine gO ⟨_,_,rfl,rfl,c41⟩ rfl rfl ?_
      refine gO ⟨_,_,rfl,rfl,c41⟩ rfl rfl ?_
      refine gO ⟨_,_,rfl,rfl,c41⟩ rfl rfl ?_
      refine gO ⟨_,_,rfl,rfl,c41⟩ rfl rfl ?_
      refine gO ⟨_,_,rfl,rfl,c41⟩ rfl rfl ?_
      refine gPT trivial rfl rfl c41 rfl rfl rfl ?_
      refine gM trivial (.inl rfl) rfl rfl rfl ?_
      refine gO ⟨_,_,rfl,rfl,rfl⟩ rfl rfl ?_
      refine gO ⟨_,_,rfl,rfl,rfl⟩ rfl rfl ?_
      refine gO ⟨_,_,rfl,rfl,rfl⟩ rfl rfl ?_
      refine gO ⟨_,_,rfl,rfl,rfl⟩ rfl rfl ?_
      refine gO ⟨_,_,rfl,rfl,rfl⟩ rfl rfl ?_
      refine gPT trivial rfl rfl rfl rfl rfl rfl ?_
      refine rg_nil (fun _=>by kernel_rfl) ?_
      refine cT rfl rfl ?_
      refine vc_seq ?_
      refine vc_region hm ?_
      refine gM trivial (.inr rfl) rfl rfl rfl ?_
      refine rg_nil nofun ?_
      refine vc_ret ?_
      exact ⟨idm,ends0 (.inr rfl) rfl (eqB (okI_at p16 (by first|exact stepI_1 (by assumption)|exact stepI_2 (by assumption)|exact stepI_3 (by assumption)|exact stepI_4 (by assumption)|exact stepI_5 (by assumption)))) rfl rfl rfl⟩
     ·skip
      have n41:=unF c41
      refine gL ⟨_,_,rfl,rfl,c41⟩ rfl rfl rfl rfl rfl rfl rfl wPl ?_
      refine gL ⟨_,_,rfl,rfl,c41⟩ rfl rfl rfl rfl rfl rfl rfl wPl ?_
      refine gC0 [] (meet_c (ofP (at_ T (j:Int)).w) (anyP T j)) ⟨_,_,rfl,rfl,c41⟩ rfl rfl rfl rfl (by trivial) rfl rfl (vPl_flat _) rfl rfl ?_
      refine gL ⟨_,_,rfl,rfl,c41⟩ rfl rfl rfl rfl rfl rfl rfl wPl ?_
      refine gEqPn ⟨_,_,rfl,rfl,c41⟩ rfl rfl rfl rfl rfl (by kernel_rfl) rfl rfl rfl rfl ?_
      refine gPF trivial rfl rfl c41 rfl rfl rfl ?_
      refine gM trivial (.inl rfl) rfl rfl rfl ?_
      refine gI2 (d:=48) rfl (fun c48=>?_) (fun c48=>?_)
      ·skip
       have n48:=unT c48
       refine gO ⟨_,_,rfl,rfl,c48⟩ rfl rfl ?_
       refine gO ⟨_,_,rfl,rfl,c48⟩ rfl rfl ?_
       refine gO ⟨_,_,rfl,rfl,c48⟩ rfl rfl ?_
       refine gO ⟨_,_,rfl,rfl,c48⟩ rfl rfl ?_
       refine gO ⟨_,_,rfl,rfl,c48⟩ rfl rfl ?_
       refine gPT trivial rfl rfl c48 rfl rfl rfl ?_
       refine rg_nil (fun _=>by kernel_rfl) ?_
       refine cT rfl rfl ?_
       refine vc_seq ?_
       refine vc_region hm ?_
       refine gM trivial (.inr rfl) rfl rfl rfl ?_
       refine rg_nil nofun ?_
       refine vc_ret ?_
       exact ⟨idm,ends0 (.inr rfl) rfl (eqB (okI_at p16 (by first|exact stepI_1 (by assumption)|exact stepI_2 (by assumption)|exact stepI_3 (by assumption)|exact stepI_4 (by assumption)|exact stepI_5 (by assumption)))) rfl rfl rfl⟩
      ·skip
       have n48:=unF c48
       refine gL ⟨_,_,rfl,rfl,c48⟩ rfl rfl rfl rfl rfl rfl rfl wPl ?_
       refine gL ⟨_,_,rfl,rfl,c48⟩ rfl rfl rfl rfl rfl rfl rfl wPl ?_
       refine gC0 [] (meet_c (ofP (at_ T (j:Int)).r) (wrP T j)) ⟨_,_,rfl,rfl,c48⟩ rfl rfl rfl rfl (by trivial) rfl rfl (vPl_flat _) rfl rfl ?_
       refine gL ⟨_,_,rfl,rfl,c48⟩ rfl rfl rfl rfl rfl rfl rfl wPl ?_
       refine gEqPn ⟨_,_,rfl,rfl,c48⟩ rfl rfl rfl rfl rfl (by kernel_rfl) rfl rfl rfl rfl ?_
       refine gPF trivial rfl rfl c48 rfl rfl rfl ?_
       refine rg_nil (fun _=>by kernel_rfl) ?_
       refine cI rfl (fun c54=>?_) (fun c54=>?_)
       ·skip
        have n54:=unT c54
        refine vc_seq ?_
        refine vc_region hm ?_
        refine gM trivial (.inr rfl) rfl rfl rfl ?_
        refine rg_nil nofun ?_
        refine vc_ret ?_
        exact ⟨idm,ends0 (.inr rfl) rfl (eqB (okI_at p16 (by first|exact stepI_1 (by assumption)|exact stepI_2 (by assumption)|exact stepI_3 (by assumption)|exact stepI_4 (by assumption)|exact stepI_5 (by assumption)))) rfl rfl rfl⟩
       ·skip
        have n54:=unF c54
        refine vc_skip ?_
        refine vc_seq ?_
        refine vc_region hm ?_
        refine gL trivial rfl rfl rfl rfl rfl rfl rfl wPl ?_
        refine gL trivial rfl rfl rfl rfl rfl rfl rfl wPl ?_
        refine gC0 [] (put_c (wrP T j) (ofP (at_ T (j:Int)).w) true) trivial rfl rfl rfl rfl (by trivial) rfl rfl (vPl_flat _) rfl rfl ?_
        refine gT trivial rfl rfl rfl rfl rfl rfl rfl rfl rfl rfl zPl pPl ?_
        refine rg_nil nofun ?_
        refine vc_region hm ?_
        refine gL trivial rfl rfl rfl rfl rfl rfl rfl wPl ?_
        refine gL trivial rfl rfl rfl rfl rfl rfl rfl wPl ?_
        refine gC0 [] (put_c (anyP T j) (ofP (at_ T (j:Int)).w) true) trivial rfl rfl rfl rfl (by trivial) rfl rfl (vPl_flat _) rfl rfl ?_
        refine gL trivial rfl rfl rfl rfl rfl rfl rfl wPl ?_
        refine gC0 [] (put_c (putP (anyP T j) (ofP (at_ T (j:Int)).w) true) (ofP (at_ T (j:Int)).r) true) trivial rfl rfl rfl rfl (by trivial) rfl rfl (vPl_flat _) rfl rfl ?_
        refine gT trivial rfl rfl rfl rfl rfl rfl rfl rfl rfl rfl zPl pPl ?_
        refine rg_nil (fun _=>by kernel_rfl) ?_
        refine vc_region hm ?_
        refine gA trivial rfl rfl rfl rfl rfl rfl (by omega) ?_
        refine gM trivial (.inl rfl) rfl rfl rfl ?_
        refine rg_nil nofun ?_
        exact lp_nextT ⟨j + 1,(by omega),(all_step ha (stepI_6 n23 n28 n41 n48 n54)),rfl,rfl⟩ (by omega) (re_nil (ms:=[0,1,2,3]) (C:=999) rfl ⟨⟨⟨rfl,rfl⟩,rfl⟩,⟨⟨rfl,rfl⟩,rfl⟩,⟨⟨rfl,rfl⟩,rfl⟩,⟨⟨rfl,rfl⟩,rfl⟩,⟨⟨rfl,rfl⟩,rfl⟩,trivial⟩ ⟨ktTab (k:=kk) rfl rfl (.inr (.inl rfl)) id rfl rfl,ktIn rfl id rfl,ktFlat (plL_flat _) (eqH (any_next p16)) (.inr (.inl rfl)) id rfl,ktFlat (plL_flat _) (eqH (wr_next p16)) (.inr (.inl rfl)) id rfl,trivial⟩ rfl rfl (rig_of rfl) rfl)
  ·skip
   have p16:=of_decide_eq_false c16
   refine vc_exit ?_
   refine vc_seq ?_
   refine vc_region hm ?_
   refine gM trivial (.inr rfl) rfl rfl rfl ?_
   refine rg_nil nofun ?_
   refine vc_ret ?_
   exact ⟨idm,ends0 (.inr rfl) rfl (eqB (okI_all p12 hj p16 ha)) rfl rfl rfl⟩
theorem clone_nil : FDoes Try.prog 87 [.slice none 0 0] (hp []) { v:=.slice none 0 0 }:=by
 have hm:Try.prog.follows .mixedOrders=true:=by kernel_rfl
 have hd_:∀ x ∈ ([]:List (Nat × Bool × Fam)),∀ k y,x.2.2 k=some y→DetB (lt 0) y:=fun x_ hx=>(by cases hx)
 refine fn_exact (u0:=0) Try.func87 rfl rfl (gets rfl rfl rfl hd_ rfl) ?_
 clear hd_
 refine vc_seq ?_
 refine vc_region hm ?_
 refine gM trivial (.inr rfl) rfl rfl rfl ?_
 refine rg_nil nofun ?_
 refine vc_seq ?_
 refine vc_seq ?_
 refine vc_region hm ?_
 refine gM trivial (.inl rfl) rfl rfl rfl ?_
 refine gNilT trivial rfl rfl rfl rfl rfl rfl ?_
 refine rg_nil nofun ?_
 refine cT rfl rfl ?_
 refine vc_seq ?_
 refine vc_region hm ?_
 refine gM trivial (.inr rfl) rfl rfl rfl ?_
 refine rg_nil nofun ?_
 refine vc_ret ?_
 exact ⟨idm,ends0 (.inr rfl) rfl rfl rfl rfl rfl⟩
theorem clone_some {l:List Sp} (hn:l.length≤1048576):FDoes Try.prog 87 [.slice (some ⟨0,0,none⟩) l.length 0] (hp [(0,false,one ⟨rSp l ++ [hole],28,0⟩)]) (mkE (.slice (some ⟨1,0,none⟩) l.length 0) [0] [] [(1,⟨rSp l,28,2⟩)]):=by
 have hm:Try.prog.follows .mixedOrders=true:=by kernel_rfl
 have hd_:∀ x_ ∈ ([(0,false,one ⟨rSp l ++ [hole],28,0⟩)]:List (Nat × Bool × Fam)),∀ k_ y_,x_.2.2 k_=some y_→DetB (lt 1) y_:=by
  intro x_ hx k_ y_ e
  simp only [List.mem_cons,List.not_mem_nil,or_false] at hx
  subst hx
  exact det_row (cw_flat l) e
 refine fn_exact (u0:=1) Try.func87 rfl rfl (gets rfl rfl rfl hd_ rfl) ?_
 clear hd_
 refine vc_seq ?_
 refine vc_region hm ?_
 refine gM trivial (.inr rfl) rfl rfl rfl ?_
 refine rg_nil nofun ?_
 refine vc_seq ?_
 refine vc_seq ?_
 refine vc_region hm ?_
 refine gM trivial (.inl rfl) rfl rfl rfl ?_
 refine gNilC trivial rfl rfl rfl rfl rfl rfl rfl (by simp) ?_
 refine rg_nil nofun ?_
 refine cF rfl rfl ?_
 refine vc_skip ?_
 refine vc_seq ?_
 refine vc_region hm ?_
 refine gR (u':=2) trivial rfl rfl rfl rfl rfl rfl rfl rfl rfl rfl rfl rfl rfl rfl ?_
 refine gM trivial (.inl rfl) rfl rfl rfl ?_
 refine gAp (u':=3) trivial rfl rfl rfl rfl rfl rfl rfl rfl rfl rfl rfl rfl rfl (cw_len l) (cw_leaf l) (show (0 + l.length) * (16 + 1)≤140737488355328 by omega) (cw_eq l) (Nat.zero_add _) ?_
 refine gM trivial (.inr rfl) rfl rfl rfl ?_
 refine rg_nil nofun ?_
 refine vc_ret ?_
 exact ⟨_,endsG [(1,2,⟨rSp l,28,2⟩)] (.inr rfl) (.tmp rfl rfl .nil) rfl rfl trivial ⟨⟨rfl,rSp_flat _⟩,trivial⟩ rfl⟩
theorem clone_any {l:List Sp} (hn:l.length≤1048576):FDoes Try.prog 87 [.slice (some ⟨0,0,none⟩) l.length 0] (hp [(0,false,one ⟨rSp l,28,77⟩)]) (mkE (.slice (some ⟨1,0,none⟩) l.length 0) [0] [] [(1,⟨rSp l,28,2⟩)]):=clone_both (rSp_flat l) rSp_nil ⟨by decide,by decide⟩ ⟨by decide,by decide⟩ rfl clone_nil (clone_some hn)
theorem spec_l4Copy_c {T:List Ho} {kk cc:Nat} (hT:T.length≤1048576) (hB:∀ h ∈ T,h.r.length≤1048576∧h.w.length≤1048576):FDoes Try.prog 58 [.slice (some ⟨0,kk,none⟩) T.length cc] (hp [(0,false,one ⟨hls kk (rHv (tabV 1 zo T)),46,0⟩),(1,false,inF zo 28 0 T)]) (mkF (.slice (some ⟨2,0,none⟩) T.length 0) [0,1] [] [(2,one ⟨rHv (tabV 3 zo T),46,2⟩),(3,inF zo 28 77 T)]):=by
 have hm:Try.prog.follows .mixedOrders=true:=by kernel_rfl
 have hd_:∀ x_ ∈ ([(0,false,one ⟨hls kk (rHv (tabV 1 zo T)),46,0⟩),(1,false,inF zo 28 0 T)]:List (Nat × Bool × Fam)),∀ k_ y_,x_.2.2 k_=some y_→DetB (lt 2) y_:=by
  intro x_ hx k_ y_ e
  simp only [List.mem_cons,List.not_mem_nil,or_false] at hx
  rcases hx with rfl|rfl
  ·exact det_tab (k0:=kk) rfl e
  ·exact det_in e
 refine fn_exact (u0:=2) Try.func58 rfl rfl (gets rfl rfl rfl hd_ rfl) ?_
 clear hd_
 refine vc_seq ?_
 refine vc_region hm ?_
 refine gM trivial (.inr rfl) rfl rfl rfl ?_
 refine rg_nil nofun ?_
 refine vc_seq ?_
 refine vc_region hm ?_
 refine gR (u':=3) trivial rfl rfl rfl rfl rfl rfl rfl rfl rfl rfl rfl rfl rfl rfl ?_
 refine gM trivial (.inr rfl) rfl rfl rfl ?_
 refine rg_nil nofun ?_
 refine vc_seq ?_
 refine vc_seq ?_
 refine vc_region hm ?_
 refine gM trivial (.inr rfl) rfl rfl rfl ?_
 refine rg_nil nofun ?_
 refine vc_block ?_
 refine vc_loopT (fun n_ S_=>∃ (j:Nat),j≤T.length∧n_=T.length - j∧S_=⟨4,[(0,.slice (some ⟨0,kk,none⟩) T.length cc),(3,.slice (some ⟨2,0,none⟩) j 0),(4,.int .i64 j)],[(0,false,one ⟨hls kk (rHv (tabV 1 zo T)),46,0⟩),(1,false,inF zo 28 0 T),(2,true,one ⟨rHv (tabV 3 zo (T.take j)),46,2⟩),(3,true,inF zo 28 77 (T.take j))]⟩) ⟨0,Nat.zero_le _,rfl,rfl⟩ (re_nil (ms:=[0,1,2,3]) (C:=3) rfl ⟨⟨⟨rfl,rfl⟩,rfl⟩,⟨⟨rfl,rfl⟩,rfl⟩,⟨⟨rfl,rfl⟩,rfl⟩,trivial⟩ ⟨ktTab (k:=kk) rfl rfl (.inr (.inl rfl)) id rfl rfl,ktIn rfl id rfl,ktTabN (n:=0) rfl rfl (.inr (.inl rfl)) id rfl rfl,ktInN (n:=0) rfl (by decide) rfl,trivial⟩ rfl rfl (rig_of rfl) rfl) ?_
 rintro n_ S_ ⟨j,hj,rfl,rfl⟩
 refine vc_seq ?_
 refine vc_seq ?_
 refine vc_region hm ?_
 refine gM trivial (.inl rfl) rfl rfl rfl ?_
 refine gM trivial (.inl rfl) rfl rfl rfl ?_
 refine gK trivial rfl rfl rfl rfl rfl rfl (hls_nil tabV_nil) ?_
 refine gI trivial rfl rfl rfl rfl rfl rfl ?_
 refine rg_nil nofun ?_
 refine cI rfl (fun c9=>?_) (fun c9=>?_)
 ·skip
  have p9:=of_decide_eq_true c9
  refine vc_skip ?_
  refine vc_seq ?_
  refine vc_block ?_
  refine vc_region hm ?_
  refine gM trivial (.inl rfl) rfl rfl rfl ?_
  refine gR (u':=5) trivial rfl rfl rfl rfl rfl rfl rfl rfl rfl rfl rfl rfl rfl rfl ?_
  refine gM trivial (.inl rfl) rfl rfl rfl ?_
  refine gM trivial (.inl rfl) rfl rfl rfl ?_
  refine gX trivial rfl rfl rfl rfl rfl rfl rfl rfl (by omega) p9 (fun h=>hls_ne (tabV_ne h)) ?_
  refine gF trivial rfl rfl rfl rfl rfl ?_
  refine gL trivial rfl rfl rfl rfl rfl rfl rfl (lH0k (by omega) p9) ?_
  refine gApi (u':=6) trivial rfl rfl rfl rfl rfl rfl rfl rfl rfl rfl rfl rfl (inF_0 (by omega) p9) rfl (cp_len _) (cp_leaf _) (show (0 + (at_ T (j:Int)).r.length) * (16 + 1)≤140737488355328 by have:=hB _ (at_mem (by omega) p9);omega) (cp_eq _) (Nat.zero_add _) ?_
  refine gR (u':=7) trivial rfl rfl rfl rfl rfl rfl rfl rfl rfl rfl rfl rfl rfl rfl ?_
  refine gM trivial (.inl rfl) rfl rfl rfl ?_
  refine gM trivial (.inl rfl) rfl rfl rfl ?_
  refine gX trivial rfl rfl rfl rfl rfl rfl rfl rfl (by omega) p9 (fun h=>hls_ne (tabV_ne h)) ?_
  refine gF trivial rfl rfl rfl rfl rfl ?_
  refine gL trivial rfl rfl rfl rfl rfl rfl rfl (lH1k (by omega) p9) ?_
  refine gApi (u':=8) trivial rfl rfl rfl rfl rfl rfl rfl rfl rfl rfl rfl rfl (inF_1 (by omega) p9) rfl (cp_len _) (cp_leaf _) (show (0 + (at_ T (j:Int)).w.length) * (16 + 1)≤140737488355328 by have:=hB _ (at_mem (by omega) p9);omega) (cp_eq _) (Nat.zero_add _) ?_
  refine gU trivial rfl rfl rfl rfl rfl rfl rfl rfl ?_
  refine gR (u':=9) trivial rfl rfl rfl rfl rfl rfl rfl rfl rfl rfl rfl rfl rfl rfl ?_
  refine gAp (u':=10) trivial rfl rfl rfl rfl rfl rfl rfl rfl rfl rfl rfl rfl (by rw [rowL_len (n:=2) (fun _=>rfl),tabV_len,take_len' (by omega)]) (Nat.le_refl _) rfl (show (j + 1) * (48 + 1)≤140737488355328 by omega) (row_snoc (enc:=eHv) (x:=⟨.slice (some ⟨5,0,none⟩) (at_ T (j:Int)).r.length 0,.slice (some ⟨7,0,none⟩) (at_ T (j:Int)).w.length 0⟩)) rfl ?_
  refine gM trivial (.inr rfl) rfl rfl rfl ?_
  refine rg_nil (fun _=>by kernel_rfl) ?_
  refine vc_region hm ?_
  refine gM trivial (.inl rfl) rfl rfl rfl ?_
  refine gA trivial rfl rfl rfl rfl rfl rfl (by omega) ?_
  refine gM trivial (.inr rfl) rfl rfl rfl ?_
  refine rg_nil nofun ?_
  exact lp_nextT ⟨j + 1,(by omega),rfl,rfl⟩ (by omega) (re_fold (ms:=[0,1,9,3]) (C:=3) (C':=3) (i:=2 * (j)) (a:=5) (b:=7) rfl ⟨⟨⟨rfl,rfl⟩,rfl⟩,⟨⟨rfl,rfl⟩,rfl⟩,⟨⟨rfl,rfl⟩,rfl⟩,trivial⟩ ⟨ktTab (k:=kk) rfl rfl (.inr (.inl rfl)) id rfl rfl,ktIn rfl id rfl,ktTabC rfl (ap_x p9) (fun _=>ap_i p9) (fun i h h'=>ap_j p9 h h') (.inr (.inl rfl)) id rfl rfl,kPutC (fun i h h'=>ap_g p9 h h') (ap_ho p9) rfl rfl rfl (.inr ⟨.inl rfl,.inr ⟨by decide,by decide,by decide⟩,.inr ⟨by decide,by decide,by decide⟩⟩) (fun _=>⟨rfl,rfl,rfl⟩) rfl,trivial⟩ rfl rfl (rig_of rfl) rfl rfl)
 ·skip
  have p9:=of_decide_eq_false c9
  refine vc_exit ?_
  refine vc_seq ?_
  refine vc_region hm ?_
  refine gM trivial (.inl rfl) rfl rfl rfl ?_
  refine gM trivial (.inr rfl) rfl rfl rfl ?_
  refine rg_nil nofun ?_
  refine vc_ret ?_
  obtain rfl:j=T.length:=by omega
  rw [List.take_length]
  exact ⟨_,endsT [(2,2,one ⟨rHv (tabV 3 zo T),46,2⟩),(3,3,inF zo 28 77 T)] (.inr rfl) (.tmp rfl rfl .nil) rfl rfl trivial ⟨asTab rfl rfl rfl,asIn rfl,trivial⟩ rfl⟩
theorem copied_c {T:List Ho} {kk cc:Nat} (hT:T.length≤1048576) (hB:∀ h ∈ T,h.r.length≤1048576∧h.w.length≤1048576):FDoes Try.prog 82 [.slice (some ⟨0,kk,none⟩) T.length cc] (hp [(0,false,one ⟨hls kk (rHv (tabV 1 zo T)),46,0⟩),(1,false,inF zo 28 77 T)]) (mkF (.slice (some ⟨2,0,none⟩) T.length 0) [0,1] [] [(2,one ⟨rHv (tabV 3 zo T),46,2⟩),(3,inF zo 28 77 T)]):=by
 have hm:Try.prog.follows .mixedOrders=true:=by kernel_rfl
 have hd_:∀ x_ ∈ ([(0,false,one ⟨hls kk (rHv (tabV 1 zo T)),46,0⟩),(1,false,inF zo 28 77 T)]:List (Nat × Bool × Fam)),∀ k_ y_,x_.2.2 k_=some y_→DetB (lt 2) y_:=by
  intro x_ hx k_ y_ e
  simp only [List.mem_cons,List.not_mem_nil,or_false] at hx
  rcases hx with rfl|rfl
  ·exact det_tab (k0:=kk) rfl e
  ·exact det_in e
 refine fn_exact (u0:=2) Try.func82 rfl rfl (gets rfl rfl rfl hd_ rfl) ?_
 clear hd_
 refine vc_seq ?_
 refine vc_region hm ?_
 refine gM trivial (.inr rfl) rfl rfl rfl ?_
 refine rg_nil nofun ?_
 refine vc_seq ?_
 refine vc_region hm ?_
 refine gR (u':=3) trivial rfl rfl rfl rfl rfl rfl rfl rfl rfl rfl rfl rfl rfl rfl ?_
 refine gM trivial (.inr rfl) rfl rfl rfl ?_
 refine rg_nil nofun ?_
 refine vc_seq ?_
 refine vc_seq ?_
 refine vc_region hm ?_
 refine gM trivial (.inl rfl) rfl rfl rfl ?_
 refine gK trivial rfl rfl rfl rfl rfl rfl (hls_nil tabV_nil) ?_
 refine gM trivial (.inl rfl) rfl rfl rfl ?_
 refine rg_nil nofun ?_
 refine vc_block ?_
 refine vc_loopT (fun n_ S_=>∃ (j:Nat),j≤T.length∧n_=T.length - j∧S_=⟨4,[(7,.slice (some ⟨0,kk,none⟩) T.length cc),(8,.int .i64 T.length),(3,.slice (some ⟨2,0,none⟩) j 0),(9,.int .i64 j)],[(0,false,one ⟨hls kk (rHv (tabV 1 zo T)),46,0⟩),(1,false,inF zo 28 77 T),(2,true,one ⟨rHv (tabV 3 zo (T.take j)),46,2⟩),(3,true,inF zo 28 77 (T.take j))]⟩) ⟨0,Nat.zero_le _,rfl,rfl⟩ (re_nil (ms:=[0,1,2,3]) (C:=3) rfl ⟨⟨⟨rfl,rfl⟩,rfl⟩,⟨⟨rfl,rfl⟩,rfl⟩,⟨⟨rfl,rfl⟩,rfl⟩,⟨⟨rfl,rfl⟩,rfl⟩,trivial⟩ ⟨ktTab (k:=kk) rfl rfl (.inr (.inl rfl)) id rfl rfl,ktIn rfl id rfl,ktTabN (n:=0) rfl rfl (.inr (.inl rfl)) id rfl rfl,ktInN (n:=0) rfl (by decide) rfl,trivial⟩ rfl rfl (rig_of rfl) rfl) ?_
 rintro n_ S_ ⟨j,hj,rfl,rfl⟩
 refine vc_seq ?_
 refine vc_region hm ?_
 refine gI trivial rfl rfl rfl rfl rfl rfl ?_
 refine rg_nil nofun ?_
 refine vc_seq ?_
 refine cI rfl (fun c10=>?_) (fun c10=>?_)
 ·skip
  have p10:=of_decide_eq_true c10
  refine vc_skip ?_
  refine vc_seq ?_
  refine vc_block ?_
  refine vc_seq ?_
  refine vc_region hm ?_
  refine gX trivial rfl rfl rfl rfl rfl rfl rfl rfl (by omega) p10 (fun h=>hls_ne (tabV_ne h)) ?_
  refine gL trivial rfl rfl rfl rfl rfl rfl rfl (aHk (by omega) p10) ?_
  refine gZ (u':=5) trivial rfl rfl rfl rfl rfl rfl rfl rfl ?_
  refine gT trivial rfl rfl rfl rfl rfl rfl rfl rfl rfl rfl (Nat.le_of_ble_eq_true rfl) rfl ?_
  refine rg_nil nofun ?_
  refine vc_region hm ?_
  refine gM trivial (.inl rfl) rfl rfl rfl ?_
  refine gF trivial rfl rfl rfl rfl rfl ?_
  refine gL trivial rfl rfl rfl rfl rfl rfl rfl rfl ?_
  refine gCT (as':=[(5,one ⟨rSp (at_ T (j:Int)).r,28,2⟩)]) (v':=.slice (some ⟨5,0,none⟩) (at_ T (j:Int)).r.length 0) 6 [nA (nm 1 (2 * ((j:Int)).toNat)),nF 5] [1] (clone_any (l:=(at_ T (j:Int)).r) (hB _ (at_mem (by omega) p10)).1) trivial rfl rfl rfl rfl rfl ⟨aRow rfl (rSp_flat _) rfl (inF_0 (by omega) p10) (.inr rfl) (.inr (.inl rfl)) rfl,trivial⟩ ⟨rFlatT (rSp_flat _) rfl,trivial⟩ ⟨rfl,rfl⟩ rfl rfl rfl ?_
  refine gF trivial rfl rfl rfl rfl rfl ?_
  refine gL trivial rfl rfl rfl rfl rfl rfl rfl rfl ?_
  refine gCT (as':=[(6,one ⟨rSp (at_ T (j:Int)).w,28,2⟩)]) (v':=.slice (some ⟨6,0,none⟩) (at_ T (j:Int)).w.length 0) 7 [nA (nm 1 (2 * ((j:Int)).toNat + 1)),nF 6] [1] (clone_any (l:=(at_ T (j:Int)).w) (hB _ (at_mem (by omega) p10)).2) trivial rfl rfl rfl rfl rfl ⟨aRow rfl (rSp_flat _) rfl (inF_1 (by omega) p10) (.inr rfl) (.inr (.inl rfl)) rfl,trivial⟩ ⟨rFlatT (rSp_flat _) rfl,trivial⟩ ⟨rfl,rfl⟩ rfl rfl rfl ?_
  refine gU trivial rfl rfl rfl rfl rfl rfl rfl rfl ?_
  refine gR (u':=8) trivial rfl rfl rfl rfl rfl rfl rfl rfl rfl rfl rfl rfl rfl rfl ?_
  refine gAp (u':=9) trivial rfl rfl rfl rfl rfl rfl rfl rfl rfl rfl rfl rfl (by rw [rowL_len (n:=2) (fun _=>rfl),tabV_len,take_len' (by omega)]) (Nat.le_refl _) rfl (show (j + 1) * (48 + 1)≤140737488355328 by omega) (row_snoc (enc:=eHv) (x:=⟨.slice (some ⟨5,0,none⟩) (at_ T (j:Int)).r.length 0,.slice (some ⟨6,0,none⟩) (at_ T (j:Int)).w.length 0⟩)) rfl ?_
  refine gM trivial (.inr rfl) rfl rfl rfl ?_
  refine rg_nil (fun _=>by kernel_rfl) ?_
  refine vc_region hm ?_
  refine gA trivial rfl rfl rfl rfl rfl rfl (by omega) ?_
  refine gM trivial (.inl rfl) rfl rfl rfl ?_
  refine rg_nil nofun ?_
  exact lp_nextT ⟨j + 1,(by omega),rfl,rfl⟩ (by omega) (re_fold (ms:=[0,1,8,3]) (C:=3) (C':=3) (i:=2 * (j)) (a:=5) (b:=6) rfl ⟨⟨⟨rfl,rfl⟩,rfl⟩,⟨⟨rfl,rfl⟩,rfl⟩,⟨⟨rfl,rfl⟩,rfl⟩,⟨⟨rfl,rfl⟩,rfl⟩,trivial⟩ ⟨ktTab (k:=kk) rfl rfl (.inr (.inl rfl)) id rfl rfl,ktIn rfl id rfl,ktTabC rfl (ap_x p10) (fun _=>ap_i p10) (fun i h h'=>ap_j p10 h h') (.inr (.inl rfl)) id rfl rfl,kPutC (fun i h h'=>ap_g p10 h h') (ap_ho p10) rfl rfl rfl (.inr ⟨.inl rfl,.inr ⟨by decide,by decide,by decide⟩,.inr ⟨by decide,by decide,by decide⟩⟩) (fun _=>⟨rfl,rfl,rfl⟩) rfl,trivial⟩ rfl rfl (rig_of rfl) rfl rfl)
 ·skip
  have p10:=of_decide_eq_false c10
  refine vc_exit ?_
  refine vc_seq ?_
  refine vc_region hm ?_
  refine gM trivial (.inl rfl) rfl rfl rfl ?_
  refine gM trivial (.inr rfl) rfl rfl rfl ?_
  refine rg_nil nofun ?_
  refine vc_ret ?_
  obtain rfl:j=T.length:=by omega
  rw [List.take_length]
  exact ⟨_,endsT [(2,2,one ⟨rHv (tabV 3 zo T),46,2⟩),(3,3,inF zo 28 77 T)] (.inr rfl) (.tmp rfl rfl .nil) rfl rfl trivial ⟨asTab rfl rfl rfl,asIn rfl,trivial⟩ rfl⟩
theorem spec_l4Put_c {T:List Ho} {who:Int} {h:Ho} {kk cc:Nat} (hT:T.length≤1048576) (hB:∀ h ∈ T,h.r.length≤1048576∧h.w.length≤1048576) (hr:h.r.length≤1048576) (hw:h.w.length≤1048576) (hwho:0≤who∧who<3) (hT3:T.length=3):FDoes Try.prog 65 [.slice (some ⟨0,kk,none⟩) T.length cc,.int .i64 who,.agg #[.slice (some ⟨2,0,none⟩) h.r.length 0,.slice (some ⟨3,0,none⟩) h.w.length 0]] (hp [(0,false,one ⟨hls kk (rHv (tabV 1 zo T)),46,0⟩),(1,false,inF zo 28 0 T),(2,false,one ⟨rSp h.r,28,0⟩),(3,false,one ⟨rSp h.w,28,0⟩)]) (mkF (.tuple #[.slice (some ⟨4,0,none⟩) (repT T who h).length 0,.bool (lockOk (setH T who h))]) [0,1,2,3] [] [(4,one ⟨rHv (tabV 5 zo (repT T who h)),46,2⟩),(5,inF zo 28 77 (repT T who h))]):=by
 have hm:Try.prog.follows .mixedOrders=true:=by kernel_rfl
 have hd_:∀ x_ ∈ ([(0,false,one ⟨hls kk (rHv (tabV 1 zo T)),46,0⟩),(1,false,inF zo 28 0 T),(2,false,one ⟨rSp h.r,28,0⟩),(3,false,one ⟨rSp h.w,28,0⟩)]:List (Nat × Bool × Fam)),∀ k_ y_,x_.2.2 k_=some y_→DetB (lt 4) y_:=by
  intro x_ hx k_ y_ e
  simp only [List.mem_cons,List.not_mem_nil,or_false] at hx
  rcases hx with rfl|rfl|rfl|rfl
  ·exact det_tab (k0:=kk) rfl e
  ·exact det_in e
  ·exact det_row (rSp_flat h.r) e
  ·exact det_row (rSp_flat h.w) e
 refine fn_exact (u0:=4) Try.func65 rfl rfl (gets rfl rfl rfl hd_ rfl) ?_
 clear hd_
 refine vc_seq ?_
 refine vc_region hm ?_
 refine gB (u':=5) trivial rfl rfl rfl rfl rfl rfl rfl rfl ?_
 refine gM trivial (.inr rfl) rfl rfl rfl ?_
 refine gM trivial (.inr rfl) rfl rfl rfl ?_
 refine rg_nil nofun ?_
 refine vc_seq ?_
 refine vc_region hm ?_
 refine gM trivial (.inl rfl) rfl rfl rfl ?_
 refine gCT (as':=[(5,one ⟨rHv (tabV 6 zo T),46,2⟩),(6,inF zo 28 77 T)]) (v':=.slice (some ⟨5,0,none⟩) T.length 0) 7 [nA (nm 0 (0)),nF 1,nF 5,nF 6] [0,1] (spec_l4Copy_c (T:=T) hT hB) trivial rfl rfl rfl rfl rfl ⟨aTab (k:=kk) rfl rfl rfl rfl (.inl rfl) (.inl rfl) rfl rfl,aIn rfl rfl (.inl rfl) (.inl rfl) rfl,trivial⟩ ⟨rTab rfl rfl rfl,rIn rfl,trivial⟩ ⟨rfl,rfl⟩ rfl rfl rfl ?_
 refine gM trivial (.inr rfl) rfl rfl rfl ?_
 refine rg_nil nofun ?_
 refine vc_seq ?_
 refine vc_region hm ?_
 refine gM trivial (.inl rfl) rfl rfl rfl ?_
 refine gM trivial (.inl rfl) rfl rfl rfl ?_
 refine gL trivial rfl rfl rfl rfl rfl rfl rfl rfl ?_
 refine gX trivial rfl rfl rfl rfl rfl rfl rfl rfl (by omega) (by omega) tabV_ne ?_
 refine gT trivial rfl rfl rfl rfl rfl rfl rfl rfl rfl rfl (show 0 + who.toNat * 2 + 2≤_ from by rw [rowL_len (n:=2) (fun _=>rfl),tabV_len];omega) (tab_put (i:=who.toNat) (show 0 + who.toNat * 2=who.toNat * 2 by omega) (by rw [tabV_len];omega)) ?_
 refine rg_nil nofun ?_
 refine vc_seq ?_
 refine vc_seq ?_
 refine vc_region hm ?_
 refine gM trivial (.inl rfl) rfl rfl rfl ?_
 refine gCT0 [nA (nm 5 (0)),nX 6 (2 * who.toNat) 2 3] [5,6,2,3] (spec_LockOk_c (T:=(setH T who h)) (by rw [setH_len];exact hT) (setH_B hB ⟨hr,hw⟩)) trivial rfl rfl rfl (by rw [setH_len];rfl) rfl ⟨aTabX rfl rfl rfl rfl set_xl (fun q=>set_i hwho.1 q) (fun j q q'=>set_j q q') (.inl rfl) (.inl rfl) rfl rfl,aInX rfl rfl rfl rfl (fun j q _=>set_g q) (set_at (by omega)) rfl,trivial⟩ rfl rfl rfl rfl ?_
 refine gN trivial rfl rfl rfl rfl ?_
 refine rg_nil nofun ?_
 refine cI rfl (fun c17=>?_) (fun c17=>?_)
 ·skip
  have n17:=unT c17
  refine vc_seq ?_
  refine vc_region hm ?_
  refine gM trivial (.inl rfl) rfl rfl rfl ?_
  refine gCT (as':=[(7,one ⟨rHv (tabV 8 zo T),46,2⟩),(8,inF zo 28 77 T)]) (v':=.slice (some ⟨7,0,none⟩) T.length 0) 9 [nA (nm 0 (0)),nF 1,nF 7,nF 8] [0,1] (spec_l4Copy_c (T:=T) hT hB) trivial rfl rfl rfl rfl rfl ⟨aTab (k:=kk) rfl rfl rfl rfl (.inl rfl) (.inl rfl) rfl rfl,aIn rfl rfl (.inl rfl) (.inl rfl) rfl,trivial⟩ ⟨rTab rfl rfl rfl,rIn rfl,trivial⟩ ⟨rfl,rfl⟩ rfl rfl rfl ?_
  refine gM trivial (.inr rfl) rfl rfl rfl ?_
  refine gM trivial (.inr rfl) rfl rfl rfl ?_
  refine rg_nil nofun ?_
  refine vc_ret ?_
  rw [repT_F n17,n17]
  exact ⟨_,endsT [(4,7,one ⟨rHv (tabV 5 zo T),46,2⟩),(5,8,inF zo 28 77 T)] (.inr rfl) (.tmp rfl rfl (.tmp rfl rfl .nil)) rfl rfl trivial ⟨asTab rfl rfl rfl,asIn rfl,trivial⟩ rfl⟩
 ·skip
  have n17:=unF c17
  refine vc_skip ?_
  refine vc_seq ?_
  refine vc_region hm ?_
  refine gM trivial (.inl rfl) rfl rfl rfl ?_
  refine gCT (as':=[(7,one ⟨rHv (tabV 8 zo (setH T who h)),46,2⟩),(8,inF zo 28 77 (setH T who h))]) (v':=.slice (some ⟨7,0,none⟩) (setH T who h).length 0) 9 [nA (nm 5 (0)),nX 6 (2 * who.toNat) 2 3,nF 7,nF 8] [5,6,2,3] (spec_l4Copy_c (T:=(setH T who h)) (by rw [setH_len];exact hT) (setH_B hB ⟨hr,hw⟩)) trivial rfl rfl rfl (by rw [setH_len];rfl) rfl ⟨aTabX rfl rfl rfl rfl set_xl (fun q=>set_i hwho.1 q) (fun j q q'=>set_j q q') (.inl rfl) (.inl rfl) rfl rfl,aInX rfl rfl rfl rfl (fun j q _=>set_g q) (set_at (by omega)) rfl,trivial⟩ ⟨rTab rfl rfl rfl,rIn rfl,trivial⟩ ⟨rfl,rfl⟩ rfl rfl rfl ?_
  refine gM trivial (.inr rfl) rfl rfl rfl ?_
  refine gM trivial (.inr rfl) rfl rfl rfl ?_
  refine rg_nil nofun ?_
  refine vc_ret ?_
  rw [repT_T n17,n17]
  exact ⟨_,endsT [(4,7,one ⟨rHv (tabV 5 zo (setH T who h)),46,2⟩),(5,8,inF zo 28 77 (setH T who h))] (.inr rfl) (.tmp rfl rfl (.tmp rfl rfl .nil)) rfl rfl trivial ⟨asTab rfl rfl rfl,asIn rfl,trivial⟩ rfl⟩
theorem spec_l4Who_c (who:Int):FDoes Try.prog 54 [.int .i64 who] (hp []) { v:=.bool (whoOk who) }:=by
 have hm:Try.prog.follows .mixedOrders=true:=by kernel_rfl
 have hd_:∀ x ∈ ([]:List (Nat × Bool × Fam)),∀ k y,x.2.2 k=some y→DetB (lt 0) y:=fun x_ hx=>(by cases hx)
 refine fn_exact (u0:=0) Try.func54 rfl rfl (gets rfl rfl rfl hd_ rfl) ?_
 clear hd_
 refine vc_seq ?_
 refine vc_region hm ?_
 refine gM trivial (.inr rfl) rfl rfl rfl ?_
 refine rg_nil nofun ?_
 refine vc_seq ?_
 refine vc_region hm ?_
 refine gM trivial (.inl rfl) rfl rfl rfl ?_
 refine gI trivial rfl rfl rfl rfl rfl rfl ?_
 refine gM trivial (.inl rfl) rfl rfl rfl ?_
 refine gI2 (d:=5) rfl (fun c5=>?_) (fun c5=>?_)
 ·skip
  have p5:=of_decide_eq_true c5
  refine gM ⟨_,_,rfl,rfl,c5⟩ (.inl rfl) rfl rfl rfl ?_
  refine gI ⟨_,_,rfl,rfl,c5⟩ rfl rfl rfl rfl rfl rfl ?_
  refine gPT trivial rfl rfl c5 rfl rfl rfl ?_
  refine gM trivial (.inr rfl) rfl rfl rfl ?_
  refine rg_nil nofun ?_
  refine vc_ret ?_
  exact ⟨idm,ends0 (.inr rfl) rfl (eqB (by unfold whoOk;first|exact decide_eq_true (by omega)|exact decide_eq_false (by omega)|exact decide_eq_decide.2 (by omega))) rfl rfl rfl⟩
 ·skip
  have p5:=of_decide_eq_false c5
  refine gO ⟨_,_,rfl,rfl,c5⟩ rfl rfl ?_
  refine gO ⟨_,_,rfl,rfl,c5⟩ rfl rfl ?_
  refine gPF trivial rfl rfl c5 rfl rfl rfl ?_
  refine gM trivial (.inr rfl) rfl rfl rfl ?_
  refine rg_nil nofun ?_
  refine vc_ret ?_
  exact ⟨idm,ends0 (.inr rfl) rfl (eqB (by unfold whoOk;first|exact decide_eq_true (by omega)|exact decide_eq_false (by omega)|exact decide_eq_decide.2 (by omega))) rfl rfl rfl⟩
theorem client_c (who:Int):FDoes Try.prog 51 [.int .i64 who] (hp []) { v:=.bool (whoOk who) }:=by
 have hm:Try.prog.follows .mixedOrders=true:=by kernel_rfl
 have hd_:∀ x ∈ ([]:List (Nat × Bool × Fam)),∀ k y,x.2.2 k=some y→DetB (lt 0) y:=fun x_ hx=>(by cases hx)
 refine fn_exact (u0:=0) Try.func51 rfl rfl (gets rfl rfl rfl hd_ rfl) ?_
 clear hd_
 refine vc_seq ?_
 refine vc_region hm ?_
 refine gM trivial (.inr rfl) rfl rfl rfl ?_
 refine rg_nil nofun ?_
 refine vc_seq ?_
 refine vc_region hm ?_
 refine gM trivial (.inl rfl) rfl rfl rfl ?_
 refine gI trivial rfl rfl rfl rfl rfl rfl ?_
 refine gM trivial (.inl rfl) rfl rfl rfl ?_
 refine gI2 (d:=5) rfl (fun c5=>?_) (fun c5=>?_)
 ·skip
  have p5:=of_decide_eq_true c5
  refine gM ⟨_,_,rfl,rfl,c5⟩ (.inl rfl) rfl rfl rfl ?_
  refine gI ⟨_,_,rfl,rfl,c5⟩ rfl rfl rfl rfl rfl rfl ?_
  refine gPT trivial rfl rfl c5 rfl rfl rfl ?_
  refine gM trivial (.inr rfl) rfl rfl rfl ?_
  refine rg_nil nofun ?_
  refine vc_ret ?_
  exact ⟨idm,ends0 (.inr rfl) rfl (eqB (by unfold whoOk;first|exact decide_eq_true (by omega)|exact decide_eq_false (by omega)|exact decide_eq_decide.2 (by omega))) rfl rfl rfl⟩
 ·skip
  have p5:=of_decide_eq_false c5
  refine gO ⟨_,_,rfl,rfl,c5⟩ rfl rfl ?_
  refine gO ⟨_,_,rfl,rfl,c5⟩ rfl rfl ?_
  refine gPF trivial rfl rfl c5 rfl rfl rfl ?_
  refine gM trivial (.inr rfl) rfl rfl rfl ?_
  refine rg_nil nofun ?_
  refine vc_ret ?_
  exact ⟨idm,ends0 (.inr rfl) rfl (eqB (by unfold whoOk;first|exact decide_eq_true (by omega)|exact decide_eq_false (by omega)|exact decide_eq_decide.2 (by omega))) rfl rfl rfl⟩
theorem spec_l4Bars_c {T:List Ho} {who:Int} {write:Bool} {s:Sp} {kk cc:Nat} (hT:T.length≤1048576) (hB:∀ h ∈ T,h.r.length≤1048576∧h.w.length≤1048576):FDoes Try.prog 68 [.slice (some ⟨0,kk,none⟩) T.length cc,.int .i64 who,.bool write,vSp s] (hp [(0,false,one ⟨hls kk (rHv (tabV 1 zo T)),46,0⟩),(1,false,inF zo 28 0 T)]) (mkF (.slice (some ⟨2,0,none⟩) (barsL T who write s T.length).length 0) [0,1] [] [(2,one ⟨rI (barsL T who write s T.length),3,1⟩)]):=by
 have hm:Try.prog.follows .mixedOrders=true:=by kernel_rfl
 have hd_:∀ x_ ∈ ([(0,false,one ⟨hls kk (rHv (tabV 1 zo T)),46,0⟩),(1,false,inF zo 28 0 T)]:List (Nat × Bool × Fam)),∀ k_ y_,x_.2.2 k_=some y_→DetB (lt 2) y_:=by
  intro x_ hx k_ y_ e
  simp only [List.mem_cons,List.not_mem_nil,or_false] at hx
  rcases hx with rfl|rfl
  ·exact det_tab (k0:=kk) rfl e
  ·exact det_in e
 refine fn_exact (u0:=2) Try.func68 rfl rfl (gets rfl rfl rfl hd_ rfl) ?_
 clear hd_
 refine vc_seq ?_
 refine vc_region hm ?_
 refine gB (u':=3) trivial rfl rfl rfl rfl rfl rfl rfl rfl ?_
 refine gM trivial (.inr rfl) rfl rfl rfl ?_
 refine rg_nil nofun ?_
 refine vc_seq ?_
 refine vc_region hm ?_
 refine gR (u':=4) trivial rfl rfl rfl rfl rfl rfl rfl rfl rfl rfl rfl rfl rfl rfl ?_
 refine gM trivial (.inr rfl) rfl rfl rfl ?_
 refine rg_nil nofun ?_
 refine vc_seq ?_
 refine vc_region hm ?_
 refine gL trivial rfl rfl rfl rfl rfl rfl rfl rfl ?_
 refine gR (u':=5) (out:=rSp [s]) trivial rfl rfl rfl rfl rfl rfl rfl rfl rfl rfl rfl rfl rfl rfl ?_
 refine gM trivial (.inr rfl) rfl rfl rfl ?_
 refine rg_nil nofun ?_
 refine vc_seq ?_
 refine vc_seq ?_
 refine vc_region hm ?_
 refine gM trivial (.inr rfl) rfl rfl rfl ?_
 refine rg_nil nofun ?_
 refine vc_block ?_
 refine vc_loopT (fun n_ S_=>∃ (j:Nat),j≤T.length∧n_=T.length - j∧S_=⟨5,[(0,.slice (some ⟨0,kk,none⟩) T.length cc),(1,.int .i64 who),(2,.bool write),(7,.pointer (some ⟨2,0,none⟩)),(9,.slice (some ⟨3,0,none⟩) (barsL T who write s j).length 0),(10,.slice (some ⟨4,0,none⟩) 1 0),(11,.int .i64 j)],[(0,false,one ⟨hls kk (rHv (tabV 1 zo T)),46,0⟩),(1,false,inF zo 28 0 T),(2,true,one ⟨[.int .i64 s.lo,.int .i64 s.hi],28,2⟩),(3,true,one ⟨rI (barsL T who write s j),3,1⟩),(4,true,one ⟨rSp [s],28,2⟩)]⟩) ⟨0,Nat.zero_le _,rfl,rfl⟩ (re_nil (ms:=[0,1,2,3,4]) (C:=999) rfl ⟨⟨⟨rfl,rfl⟩,rfl⟩,⟨⟨rfl,rfl⟩,rfl⟩,⟨⟨rfl,rfl⟩,rfl⟩,⟨⟨rfl,rfl⟩,rfl⟩,⟨⟨rfl,rfl⟩,rfl⟩,⟨⟨rfl,rfl⟩,rfl⟩,⟨⟨rfl,rfl⟩,rfl⟩,trivial⟩ ⟨ktTab (k:=kk) rfl rfl (.inr (.inl rfl)) id rfl rfl,ktIn rfl id rfl,ktFlat rfl rfl (.inr (.inl rfl)) id rfl,ktFlat rfl rfl (.inr (.inl rfl)) id rfl,ktFlat (rSp_flat _) rfl (.inr (.inl rfl)) id rfl,trivial⟩ rfl rfl (rig_of rfl) rfl) ?_
 rintro n_ S_ ⟨j,hj,rfl,rfl⟩
 refine vc_seq ?_
 refine vc_seq ?_
 refine vc_region hm ?_
 refine gM trivial (.inl rfl) rfl rfl rfl ?_
 refine gM trivial (.inl rfl) rfl rfl rfl ?_
 refine gK trivial rfl rfl rfl rfl rfl rfl (hls_nil tabV_nil) ?_
 refine gI trivial rfl rfl rfl rfl rfl rfl ?_
 refine rg_nil nofun ?_
 refine cI rfl (fun c18=>?_) (fun c18=>?_)
 ·skip
  have p18:=of_decide_eq_true c18
  refine vc_skip ?_
  refine vc_seq ?_
  refine vc_block ?_
  refine vc_seq ?_
  refine vc_region hm ?_
  refine gM trivial (.inl rfl) rfl rfl rfl ?_
  refine gM trivial (.inl rfl) rfl rfl rfl ?_
  refine gI trivial rfl rfl rfl rfl rfl rfl ?_
  refine gM trivial (.inl rfl) rfl rfl rfl ?_
  refine gI2 (d:=24) rfl (fun c24=>?_) (fun c24=>?_)
  ·skip
   have p24:=bne_iff_ne.1 c24
   refine gM ⟨_,_,rfl,rfl,c24⟩ (.inl rfl) rfl rfl rfl ?_
   refine gM ⟨_,_,rfl,rfl,c24⟩ (.inl rfl) rfl rfl rfl ?_
   refine gX ⟨_,_,rfl,rfl,c24⟩ rfl rfl rfl rfl rfl rfl rfl rfl (by omega) p18 (fun h=>hls_ne (tabV_ne h)) ?_
   refine gF ⟨_,_,rfl,rfl,c24⟩ rfl rfl rfl rfl rfl ?_
   refine gL ⟨_,_,rfl,rfl,c24⟩ rfl rfl rfl rfl rfl rfl rfl (lH1k (by omega) p18) ?_
   refine gM ⟨_,_,rfl,rfl,c24⟩ (.inl rfl) rfl rfl rfl ?_
   refine gCT0 [nA (nm 1 (2 * ((j:Int)).toNat + 1)),nA (nm 4 (0))] [1,4] (spec_l4Clear_c (a:=(at_ T (j:Int)).w) (b:=[s]) (hB _ (at_mem (by omega) p18)).2 (show 1≤1048576 by decide)) ⟨_,_,rfl,rfl,c24⟩ rfl rfl rfl rfl rfl ⟨aRow rfl (rSp_flat _) rfl (inF_1 (by omega) p18) (.inl rfl) (.inl rfl) rfl,aRow rfl (rSp_flat [s]) rfl rfl (.inl rfl) (.inl rfl) rfl,trivial⟩ rfl rfl rfl rfl ?_
   refine gN ⟨_,_,rfl,rfl,c24⟩ rfl rfl rfl rfl ?_
   refine gM ⟨_,_,rfl,rfl,c24⟩ (.inl rfl) rfl rfl rfl ?_
   refine gI2 (d:=33) rfl (fun c33=>?_) (fun c33=>?_)
   ·skip
    have n33:=unT c33
    refine gO ⟨_,_,rfl,rfl,c33⟩ rfl rfl ?_
    refine gO ⟨_,_,rfl,rfl,c33⟩ rfl rfl ?_
    refine gO ⟨_,_,rfl,rfl,trivial⟩ rfl rfl ?_
    refine gO ⟨_,_,rfl,rfl,trivial⟩ rfl rfl ?_
    refine gO ⟨_,_,rfl,rfl,trivial⟩ rfl rfl ?_
    refine gO ⟨_,_,rfl,rfl,trivial⟩ rfl rfl ?_
    refine gO ⟨_,_,rfl,rfl,trivial⟩ rfl rfl ?_
    refine gO ⟨_,_,rfl,rfl,trivial⟩ rfl rfl ?_
    refine gO ⟨_,_,rfl,rfl,trivial⟩ rfl rfl ?_
    refine gO ⟨_,_,rfl,rfl,trivial⟩ rfl rfl ?_
    refine gO ⟨_,_,rfl,rfl,c33⟩ rfl rfl ?_
    refine gPT ⟨_,_,rfl,rfl,c24⟩ rfl rfl c33 rfl rfl rfl ?_
    refine gPT trivial rfl rfl c24 rfl rfl rfl ?_
    refine rg_nil nofun ?_
    refine cT rfl rfl ?_
    refine vc_region hm ?_
    refine gM trivial (.inl rfl) rfl rfl rfl ?_
    refine gM trivial (.inl rfl) rfl rfl rfl ?_
    refine gR (u':=6) (out:=rI [(j:Int)]) trivial rfl rfl rfl rfl rfl rfl rfl rfl rfl rfl rfl rfl rfl rfl ?_
    refine gAp (u':=7) trivial rfl rfl rfl rfl rfl rfl rfl rfl rfl rfl rfl rfl (by rw [rowL_len (n:=1) (fun _=>rfl)]) (Nat.le_refl _) rfl (show ((barsL T who write s j).length + 1) * (8 + 1)≤140737488355328 by have:=bars_len (T:=T) (who:=who) (write:=write) (s:=s) j;omega) (row_snoc (enc:=eI) (x:=(j:Int))) rfl ?_
    refine gM trivial (.inr rfl) rfl rfl rfl ?_
    refine rg_nil nofun ?_
    refine vc_region hm ?_
    refine gM trivial (.inl rfl) rfl rfl rfl ?_
    refine gA trivial rfl rfl rfl rfl rfl rfl (by omega) ?_
    refine gM trivial (.inr rfl) rfl rfl rfl ?_
    refine rg_nil nofun ?_
    exact lp_nextT ⟨j + 1,(by omega),rfl,rfl⟩ (by omega) (re_nil (ms:=[0,1,2,6,4]) (C:=999) rfl ⟨⟨⟨rfl,rfl⟩,rfl⟩,⟨⟨rfl,rfl⟩,rfl⟩,⟨⟨rfl,rfl⟩,rfl⟩,⟨⟨rfl,rfl⟩,rfl⟩,⟨⟨rfl,eqSl (by rw [← bars_T (barS_2 p24 n33)];simp)⟩,rfl⟩,⟨⟨rfl,rfl⟩,rfl⟩,⟨⟨rfl,rfl⟩,rfl⟩,trivial⟩ ⟨ktTab (k:=kk) rfl rfl (.inr (.inl rfl)) id rfl rfl,ktIn rfl id rfl,ktFlat rfl rfl (.inr (.inl rfl)) id rfl,ktFlat (rI_flat _) (eqH (congrArg rI (bars_T (barS_2 p24 n33)))) (.inr (.inl rfl)) id rfl,ktFlat (rSp_flat _) rfl (.inr (.inl rfl)) id rfl,trivial⟩ rfl rfl (rig_of rfl) rfl)
   ·skip
    have n33:=unF c33
    refine gM ⟨_,_,rfl,rfl,c33⟩ (.inl rfl) rfl rfl rfl ?_
    refine gM ⟨_,_,rfl,rfl,c33⟩ (.inl rfl) rfl rfl rfl ?_
    refine gI2 (d:=35) rfl (fun c35=>?_) (fun c35=>?_)
    ·skip
     refine gM ⟨_,_,rfl,rfl,c35⟩ (.inl rfl) rfl rfl rfl ?_
     refine gM ⟨_,_,rfl,rfl,c35⟩ (.inl rfl) rfl rfl rfl ?_
     refine gX ⟨_,_,rfl,rfl,c35⟩ rfl rfl rfl rfl rfl rfl rfl rfl (by omega) p18 (fun h=>hls_ne (tabV_ne h)) ?_
     refine gF ⟨_,_,rfl,rfl,c35⟩ rfl rfl rfl rfl rfl ?_
     refine gL ⟨_,_,rfl,rfl,c35⟩ rfl rfl rfl rfl rfl rfl rfl (lH0k (by omega) p18) ?_
     refine gM ⟨_,_,rfl,rfl,c35⟩ (.inl rfl) rfl rfl rfl ?_
     refine gCT0 [nA (nm 1 (2 * ((j:Int)).toNat)),nA (nm 4 (0))] [1,4] (spec_l4Clear_c (a:=(at_ T (j:Int)).r) (b:=[s]) (hB _ (at_mem (by omega) p18)).1 (show 1≤1048576 by decide)) ⟨_,_,rfl,rfl,c35⟩ rfl rfl rfl rfl rfl ⟨aRow rfl (rSp_flat _) rfl (inF_0 (by omega) p18) (.inl rfl) (.inl rfl) rfl,aRow rfl (rSp_flat [s]) rfl rfl (.inl rfl) (.inl rfl) rfl,trivial⟩ rfl rfl rfl rfl ?_
     refine gN ⟨_,_,rfl,rfl,c35⟩ rfl rfl rfl rfl ?_
     refine gPT ⟨_,_,rfl,rfl,c33⟩ rfl rfl c35 rfl rfl rfl ?_
     refine gPF ⟨_,_,rfl,rfl,c24⟩ rfl rfl c33 rfl rfl rfl ?_
     refine gPT trivial rfl rfl c24 rfl rfl rfl ?_
     refine rg_nil nofun ?_
     refine cI rfl (fun c46=>?_) (fun c46=>?_)
     ·skip
      have n46:=unT c46
      refine vc_region hm ?_
      refine gM trivial (.inl rfl) rfl rfl rfl ?_
      refine gM trivial (.inl rfl) rfl rfl rfl ?_
      refine gR (u':=6) (out:=rI [(j:Int)]) trivial rfl rfl rfl rfl rfl rfl rfl rfl rfl rfl rfl rfl rfl rfl ?_
      refine gAp (u':=7) trivial rfl rfl rfl rfl rfl rfl rfl rfl rfl rfl rfl rfl (by rw [rowL_len (n:=1) (fun _=>rfl)]) (Nat.le_refl _) rfl (show ((barsL T who write s j).length + 1) * (8 + 1)≤140737488355328 by have:=bars_len (T:=T) (who:=who) (write:=write) (s:=s) j;omega) (row_snoc (enc:=eI) (x:=(j:Int))) rfl ?_
      refine gM trivial (.inr rfl) rfl rfl rfl ?_
      refine rg_nil nofun ?_
      refine vc_region hm ?_
      refine gM trivial (.inl rfl) rfl rfl rfl ?_
      refine gA trivial rfl rfl rfl rfl rfl rfl (by omega) ?_
      refine gM trivial (.inr rfl) rfl rfl rfl ?_
      refine rg_nil nofun ?_
      exact lp_nextT ⟨j + 1,(by omega),rfl,rfl⟩ (by omega) (re_nil (ms:=[0,1,2,6,4]) (C:=999) rfl ⟨⟨⟨rfl,rfl⟩,rfl⟩,⟨⟨rfl,rfl⟩,rfl⟩,⟨⟨rfl,rfl⟩,rfl⟩,⟨⟨rfl,rfl⟩,rfl⟩,⟨⟨rfl,eqSl (by rw [← bars_T (barS_4 p24 c35 n46)];simp)⟩,rfl⟩,⟨⟨rfl,rfl⟩,rfl⟩,⟨⟨rfl,rfl⟩,rfl⟩,trivial⟩ ⟨ktTab (k:=kk) rfl rfl (.inr (.inl rfl)) id rfl rfl,ktIn rfl id rfl,ktFlat rfl rfl (.inr (.inl rfl)) id rfl,ktFlat (rI_flat _) (eqH (congrArg rI (bars_T (barS_4 p24 c35 n46)))) (.inr (.inl rfl)) id rfl,ktFlat (rSp_flat _) rfl (.inr (.inl rfl)) id rfl,trivial⟩ rfl rfl (rig_of rfl) rfl)
     ·skip
      have n46:=unF c46
      refine vc_skip ?_
      refine vc_region hm ?_
      refine gM trivial (.inl rfl) rfl rfl rfl ?_
      refine gA trivial rfl rfl rfl rfl rfl rfl (by omega) ?_
      refine gM trivial (.inr rfl) rfl rfl rfl ?_
      refine rg_nil nofun ?_
      exact lp_nextT ⟨j + 1,(by omega),rfl,rfl⟩ (by omega) (re_nil (ms:=[0,1,2,3,4]) (C:=999) rfl ⟨⟨⟨rfl,rfl⟩,rfl⟩,⟨⟨rfl,rfl⟩,rfl⟩,⟨⟨rfl,rfl⟩,rfl⟩,⟨⟨rfl,rfl⟩,rfl⟩,⟨⟨rfl,eqSl (by rw [← bars_F (barS_5 n33 n46)])⟩,rfl⟩,⟨⟨rfl,rfl⟩,rfl⟩,⟨⟨rfl,rfl⟩,rfl⟩,trivial⟩ ⟨ktTab (k:=kk) rfl rfl (.inr (.inl rfl)) id rfl rfl,ktIn rfl id rfl,ktFlat rfl rfl (.inr (.inl rfl)) id rfl,ktFlat (rI_flat _) (eqH (congrArg rI (bars_F (barS_5 n33 n46)))) (.inr (.inl rfl)) id rfl,ktFlat (rSp_flat _) rfl (.inr (.inl rfl)) id rfl,trivial⟩ rfl rfl (rig_of rfl) rfl)
    ·skip
     refine gO ⟨_,_,rfl,rfl,c35⟩ rfl rfl ?_
     refine gO ⟨_,_,rfl,rfl,c35⟩ rfl rfl ?_
     refine gO ⟨_,_,rfl,rfl,c35⟩ rfl rfl ?_
     refine gO ⟨_,_,rfl,rfl,c35⟩ rfl rfl ?_
     refine gO ⟨_,_,rfl,rfl,c35⟩ rfl rfl ?_
     refine gO ⟨_,_,rfl,rfl,c35⟩ rfl rfl ?_
     refine gO ⟨_,_,rfl,rfl,c35⟩ rfl rfl ?_
     refine gO ⟨_,_,rfl,rfl,c35⟩ rfl rfl ?_
     refine gPF ⟨_,_,rfl,rfl,c33⟩ rfl rfl c35 rfl rfl rfl ?_
     refine gPF ⟨_,_,rfl,rfl,c24⟩ rfl rfl c33 rfl rfl rfl ?_
     refine gPT trivial rfl rfl c24 rfl rfl rfl ?_
     refine rg_nil nofun ?_
     refine cF rfl rfl ?_
     refine vc_skip ?_
     refine vc_region hm ?_
     refine gM trivial (.inl rfl) rfl rfl rfl ?_
     refine gA trivial rfl rfl rfl rfl rfl rfl (by omega) ?_
     refine gM trivial (.inr rfl) rfl rfl rfl ?_
     refine rg_nil nofun ?_
     exact lp_nextT ⟨j + 1,(by omega),rfl,rfl⟩ (by omega) (re_nil (ms:=[0,1,2,3,4]) (C:=999) rfl ⟨⟨⟨rfl,rfl⟩,rfl⟩,⟨⟨rfl,rfl⟩,rfl⟩,⟨⟨rfl,rfl⟩,rfl⟩,⟨⟨rfl,rfl⟩,rfl⟩,⟨⟨rfl,eqSl (by rw [← bars_F (barS_3 n33 c35)])⟩,rfl⟩,⟨⟨rfl,rfl⟩,rfl⟩,⟨⟨rfl,rfl⟩,rfl⟩,trivial⟩ ⟨ktTab (k:=kk) rfl rfl (.inr (.inl rfl)) id rfl rfl,ktIn rfl id rfl,ktFlat rfl rfl (.inr (.inl rfl)) id rfl,ktFlat (rI_flat _) (eqH (congrArg rI (bars_F (barS_3 n33 c35)))) (.inr (.inl rfl)) id rfl,ktFlat (rSp_flat _) rfl (.inr (.inl rfl)) id rfl,trivial⟩ rfl rfl (rig_of rfl) rfl)
  ·skip
   have p24:=bne_eq_false_iff_eq.1 c24
   refine gO ⟨_,_,rfl,rfl,c24⟩ rfl rfl ?_
   refine gO ⟨_,_,rfl,rfl,c24⟩ rfl rfl ?_
   refine gO ⟨_,_,rfl,rfl,c24⟩ rfl rfl ?_
   refine gO ⟨_,_,rfl,rfl,c24⟩ rfl rfl ?_
   refine gO ⟨_,_,rfl,rfl,c24⟩ rfl rfl ?_
   refine gO ⟨_,_,rfl,rfl,c24⟩ rfl rfl ?_
   refine gO ⟨_,_,rfl,rfl,c24⟩ rfl rfl ?_
   refine gO ⟨_,_,rfl,rfl,c24⟩ rfl rfl ?_
   refine gO ⟨_,_,rfl,rfl,c24⟩ rfl rfl ?_
   refine gO ⟨_,_,rfl,rfl,trivial⟩ rfl rfl ?_
   refine gO ⟨_,_,rfl,rfl,trivial⟩ rfl rfl ?_
   refine gO ⟨_,_,rfl,rfl,trivial⟩ rfl rfl ?_
   refine gO ⟨_,_,rfl,rfl,trivial⟩ rfl rfl ?_
   refine gO ⟨_,_,rfl,rfl,trivial⟩ rfl rfl ?_
   refine gO ⟨_,_,rfl,rfl,trivial⟩ rfl rfl ?_
   refine gO ⟨_,_,rfl,rfl,trivial⟩ rfl rfl ?_
   refine gO ⟨_,_,rfl,rfl,trivial⟩ rfl rfl ?_
   refine gO ⟨_,_,rfl,rfl,trivial⟩ rfl rfl ?_
   refine gO ⟨_,_,rfl,rfl,trivial⟩ rfl rfl ?_
   refine gO ⟨_,_,rfl,rfl,trivial⟩ rfl rfl ?_
   refine gO ⟨_,_,rfl,rfl,c24⟩ rfl rfl ?_
   refine gPF trivial rfl rfl c24 rfl rfl rfl ?_
   refine rg_nil nofun ?_
   refine cF rfl rfl ?_
   refine vc_skip ?_
   refine vc_region hm ?_
   refine gM trivial (.inl rfl) rfl rfl rfl ?_
   refine gA trivial rfl rfl rfl rfl rfl rfl (by omega) ?_
   refine gM trivial (.inr rfl) rfl rfl rfl ?_
   refine rg_nil nofun ?_
   exact lp_nextT ⟨j + 1,(by omega),rfl,rfl⟩ (by omega) (re_nil (ms:=[0,1,2,3,4]) (C:=999) rfl ⟨⟨⟨rfl,rfl⟩,rfl⟩,⟨⟨rfl,rfl⟩,rfl⟩,⟨⟨rfl,rfl⟩,rfl⟩,⟨⟨rfl,rfl⟩,rfl⟩,⟨⟨rfl,eqSl (by rw [← bars_F (barS_1 p24)])⟩,rfl⟩,⟨⟨rfl,rfl⟩,rfl⟩,⟨⟨rfl,rfl⟩,rfl⟩,trivial⟩ ⟨ktTab (k:=kk) rfl rfl (.inr (.inl rfl)) id rfl rfl,ktIn rfl id rfl,ktFlat rfl rfl (.inr (.inl rfl)) id rfl,ktFlat (rI_flat _) (eqH (congrArg rI (bars_F (barS_1 p24)))) (.inr (.inl rfl)) id rfl,ktFlat (rSp_flat _) rfl (.inr (.inl rfl)) id rfl,trivial⟩ rfl rfl (rig_of rfl) rfl)
 ·skip
  have p18:=of_decide_eq_false c18
  refine vc_exit ?_
  refine vc_seq ?_
  refine vc_region hm ?_
  refine gM trivial (.inl rfl) rfl rfl rfl ?_
  refine gM trivial (.inr rfl) rfl rfl rfl ?_
  refine rg_nil nofun ?_
  refine vc_ret ?_
  obtain rfl:j=T.length:=by omega
  exact ⟨_,endsT [(2,3,one ⟨rI (barsL T who write s T.length),3,1⟩)] (.inr rfl) (.tmp rfl rfl .nil) rfl rfl trivial ⟨asFlat rfl (rI_flat _),trivial⟩ rfl⟩
theorem spec_LockBars_c {T:List Ho} {who:Int} {write:Bool} {s:Sp} {kk cc:Nat} (hT:T.length≤1048576) (hB:∀ h ∈ T,h.r.length≤1048576∧h.w.length≤1048576):FDoes Try.prog 36 [.slice (some ⟨0,kk,none⟩) T.length cc,.int .i64 who,.bool write,vSp s] (hp [(0,false,one ⟨hls kk (rHv (tabV 1 zo T)),46,0⟩),(1,false,inF zo 28 0 T)]) (mkF (.slice (some ⟨2,0,none⟩) (lockBars T who write s).length 0) [0,1] [] [(2,one ⟨rI (lockBars T who write s),3,1⟩)]):=by
 have hm:Try.prog.follows .mixedOrders=true:=by kernel_rfl
 have hd_:∀ x_ ∈ ([(0,false,one ⟨hls kk (rHv (tabV 1 zo T)),46,0⟩),(1,false,inF zo 28 0 T)]:List (Nat × Bool × Fam)),∀ k_ y_,x_.2.2 k_=some y_→DetB (lt 2) y_:=by
  intro x_ hx k_ y_ e
  simp only [List.mem_cons,List.not_mem_nil,or_false] at hx
  rcases hx with rfl|rfl
  ·exact det_tab (k0:=kk) rfl e
  ·exact det_in e
 refine fn_exact (u0:=2) Try.func36 rfl rfl (gets rfl rfl rfl hd_ rfl) ?_
 clear hd_
 refine vc_seq ?_
 refine vc_region hm ?_
 refine gB (u':=3) trivial rfl rfl rfl rfl rfl rfl rfl rfl ?_
 refine gM trivial (.inr rfl) rfl rfl rfl ?_
 refine rg_nil nofun ?_
 refine vc_seq ?_
 refine vc_seq ?_
 refine vc_region hm ?_
 refine gM trivial (.inl rfl) rfl rfl rfl ?_
 refine gCT0 [nA (nm 0 (0)),nF 1] [0,1] (spec_LockOk_c (T:=T) hT hB) trivial rfl rfl rfl rfl rfl ⟨aTab (k:=kk) rfl rfl rfl rfl (.inl rfl) (.inl rfl) rfl rfl,aIn rfl rfl (.inl rfl) (.inl rfl) rfl,trivial⟩ rfl rfl rfl rfl ?_
 refine gN trivial rfl rfl rfl rfl ?_
 refine gM trivial (.inl rfl) rfl rfl rfl ?_
 refine gI2 (d:=12) rfl (fun c12=>?_) (fun c12=>?_)
 ·skip
  have n12:=unT c12
  refine gO ⟨_,_,rfl,rfl,c12⟩ rfl rfl ?_
  refine gO ⟨_,_,rfl,rfl,c12⟩ rfl rfl ?_
  refine gO ⟨_,_,rfl,rfl,c12⟩ rfl rfl ?_
  refine gPT trivial rfl rfl c12 rfl rfl rfl ?_
  refine gM trivial (.inl rfl) rfl rfl rfl ?_
  refine gO ⟨_,_,rfl,rfl,rfl⟩ rfl rfl ?_
  refine gO ⟨_,_,rfl,rfl,rfl⟩ rfl rfl ?_
  refine gO ⟨_,_,rfl,rfl,rfl⟩ rfl rfl ?_
  refine gPT trivial rfl rfl rfl rfl rfl rfl ?_
  refine rg_nil nofun ?_
  refine cT rfl rfl ?_
  refine vc_seq ?_
  refine vc_region hm ?_
  refine gR (u':=4) trivial rfl rfl rfl rfl rfl rfl rfl rfl rfl rfl rfl rfl rfl rfl ?_
  refine gM trivial (.inr rfl) rfl rfl rfl ?_
  refine rg_nil nofun ?_
  refine vc_ret ?_
  rw [(lb_no (by first|exact .inl (by assumption)|exact .inr (.inl (by assumption))|exact .inr (.inr (by assumption))))]
  exact ⟨_,endsT [(2,3,one ⟨rI [],3,1⟩)] (.inr rfl) (.tmp rfl rfl .nil) rfl rfl trivial ⟨asFlat rfl rfl,trivial⟩ rfl⟩
 ·skip
  have n12:=unF c12
  refine gM ⟨_,_,rfl,rfl,c12⟩ (.inl rfl) rfl rfl rfl ?_
  refine gC0 [] (spec_l4Who_c who) ⟨_,_,rfl,rfl,c12⟩ rfl rfl rfl rfl (by trivial) rfl rfl rfl rfl rfl ?_
  refine gN ⟨_,_,rfl,rfl,c12⟩ rfl rfl rfl rfl ?_
  refine gPF trivial rfl rfl c12 rfl rfl rfl ?_
  refine gM trivial (.inl rfl) rfl rfl rfl ?_
  refine gI2 (d:=17) rfl (fun c17=>?_) (fun c17=>?_)
  ·skip
   have n17:=unT c17
   refine gO ⟨_,_,rfl,rfl,c17⟩ rfl rfl ?_
   refine gO ⟨_,_,rfl,rfl,c17⟩ rfl rfl ?_
   refine gO ⟨_,_,rfl,rfl,c17⟩ rfl rfl ?_
   refine gPT trivial rfl rfl c17 rfl rfl rfl ?_
   refine rg_nil nofun ?_
   refine cT rfl rfl ?_
   refine vc_seq ?_
   refine vc_region hm ?_
   refine gR (u':=4) trivial rfl rfl rfl rfl rfl rfl rfl rfl rfl rfl rfl rfl rfl rfl ?_
   refine gM trivial (.inr rfl) rfl rfl rfl ?_
   refine rg_nil nofun ?_
   refine vc_ret ?_
   rw [(lb_no (by first|exact .inl (by assumption)|exact .inr (.inl (by assumption))|exact .inr (.inr (by assumption))))]
   exact ⟨_,endsT [(2,3,one ⟨rI [],3,1⟩)] (.inr rfl) (.tmp rfl rfl .nil) rfl rfl trivial ⟨asFlat rfl rfl,trivial⟩ rfl⟩
  ·skip
   have n17:=unF c17
   refine gL ⟨_,_,rfl,rfl,c17⟩ rfl rfl rfl rfl rfl rfl rfl rfl ?_
   refine gC0 [] (spec_SpanOk_c s) ⟨_,_,rfl,rfl,c17⟩ rfl rfl rfl rfl (by trivial) rfl rfl rfl rfl rfl ?_
   refine gN ⟨_,_,rfl,rfl,c17⟩ rfl rfl rfl rfl ?_
   refine gPF trivial rfl rfl c17 rfl rfl rfl ?_
   refine rg_nil nofun ?_
   refine cI rfl (fun c21=>?_) (fun c21=>?_)
   ·skip
    have n21:=unT c21
    refine vc_seq ?_
    refine vc_region hm ?_
    refine gR (u':=4) trivial rfl rfl rfl rfl rfl rfl rfl rfl rfl rfl rfl rfl rfl rfl ?_
    refine gM trivial (.inr rfl) rfl rfl rfl ?_
    refine rg_nil nofun ?_
    refine vc_ret ?_
    rw [(lb_no (by first|exact .inl (by assumption)|exact .inr (.inl (by assumption))|exact .inr (.inr (by assumption))))]
    exact ⟨_,endsT [(2,3,one ⟨rI [],3,1⟩)] (.inr rfl) (.tmp rfl rfl .nil) rfl rfl trivial ⟨asFlat rfl rfl,trivial⟩ rfl⟩
   ·skip
    have n21:=unF c21
    refine vc_skip ?_
    refine vc_seq ?_
    refine vc_region hm ?_
    refine gM trivial (.inl rfl) rfl rfl rfl ?_
    refine gM trivial (.inl rfl) rfl rfl rfl ?_
    refine gM trivial (.inl rfl) rfl rfl rfl ?_
    refine gL trivial rfl rfl rfl rfl rfl rfl rfl rfl ?_
    refine gCT (as':=[(3,one ⟨rI (barsL T who write s T.length),3,1⟩)]) (v':=.slice (some ⟨3,0,none⟩) (barsL T who write s T.length).length 0) 4 [nA (nm 0 (0)),nF 1,nF 3] [0,1] (spec_l4Bars_c (T:=T) (who:=who) (write:=write) (s:=s) hT hB) trivial rfl rfl rfl rfl rfl ⟨aTab (k:=kk) rfl rfl rfl rfl (.inl rfl) (.inl rfl) rfl rfl,aIn rfl rfl (.inl rfl) (.inl rfl) rfl,trivial⟩ ⟨rFlatT (rI_flat _) rfl,trivial⟩ ⟨rfl,rfl⟩ rfl rfl rfl ?_
    refine gM trivial (.inr rfl) rfl rfl rfl ?_
    refine rg_nil nofun ?_
    refine vc_ret ?_
    rw [← (lb_ok (by assumption) (by assumption) (by assumption))]
    exact ⟨_,endsT [(2,3,one ⟨rI (barsL T who write s T.length),3,1⟩)] (.inr rfl) (.tmp rfl rfl .nil) rfl rfl trivial ⟨asFlat rfl (rI_flat _),trivial⟩ rfl⟩
theorem impl_LockBars_c {T:List Ho} {who:Int} {write:Bool} {s:Sp} {kk cc:Nat} (hT:T.length≤1048576) (hB:∀ h ∈ T,h.r.length≤1048576∧h.w.length≤1048576):FDoes Try.prog 34 [.slice (some ⟨0,kk,none⟩) T.length cc,.int .i64 who,.bool write,vSp s] (hp [(0,false,one ⟨hls kk (rHv (tabV 1 zo T)),46,0⟩),(1,false,inF zo 28 0 T)]) (mkF (.slice (some ⟨2,0,none⟩) (lockBars T who write s).length 0) [0,1] [] [(2,one ⟨rI (lockBars T who write s),3,1⟩)]):=by
 have hm:Try.prog.follows .mixedOrders=true:=by kernel_rfl
 have hd_:∀ x_ ∈ ([(0,false,one ⟨hls kk (rHv (tabV 1 zo T)),46,0⟩),(1,false,inF zo 28 0 T)]:List (Nat × Bool × Fam)),∀ k_ y_,x_.2.2 k_=some y_→DetB (lt 2) y_:=by
  intro x_ hx k_ y_ e
  simp only [List.mem_cons,List.not_mem_nil,or_false] at hx
  rcases hx with rfl|rfl
  ·exact det_tab (k0:=kk) rfl e
  ·exact det_in e
 refine fn_exact (u0:=2) Try.func34 rfl rfl (gets rfl rfl rfl hd_ rfl) ?_
 clear hd_
 refine vc_seq ?_
 refine vc_region hm ?_
 refine gB (u':=3) trivial rfl rfl rfl rfl rfl rfl rfl rfl ?_
 refine gM trivial (.inr rfl) rfl rfl rfl ?_
 refine rg_nil nofun ?_
 refine vc_seq ?_
 refine vc_seq ?_
 refine vc_region hm ?_
 refine gM trivial (.inl rfl) rfl rfl rfl ?_
 refine gCT0 [nA (nm 0 (0)),nF 1] [0,1] (impl_LockOk_c (T:=T) hT hB) trivial rfl rfl rfl rfl rfl ⟨aTab (k:=kk) rfl rfl rfl rfl (.inl rfl) (.inl rfl) rfl rfl,aIn rfl rfl (.inl rfl) (.inl rfl) rfl,trivial⟩ rfl rfl rfl rfl ?_
 refine gN trivial rfl rfl rfl rfl ?_
 refine gM trivial (.inl rfl) rfl rfl rfl ?_
 refine gI2 (d:=16) rfl (fun c16=>?_) (fun c16=>?_)
 ·skip
  have n16:=unT c16
  refine gO ⟨_,_,rfl,rfl,c16⟩ rfl rfl ?_
  refine gO ⟨_,_,rfl,rfl,c16⟩ rfl rfl ?_
  refine gO ⟨_,_,rfl,rfl,c16⟩ rfl rfl ?_
  refine gPT trivial rfl rfl c16 rfl rfl rfl ?_
  refine gM trivial (.inl rfl) rfl rfl rfl ?_
  refine gO ⟨_,_,rfl,rfl,rfl⟩ rfl rfl ?_
  refine gO ⟨_,_,rfl,rfl,rfl⟩ rfl rfl ?_
  refine gO ⟨_,_,rfl,rfl,rfl⟩ rfl rfl ?_
  refine gPT trivial rfl rfl rfl rfl rfl rfl ?_
  refine rg_nil nofun ?_
  refine cT rfl rfl ?_
  refine vc_seq ?_
  refine vc_region hm ?_
  refine gM trivial (.inr rfl) rfl rfl rfl ?_
  refine rg_nil nofun ?_
  refine vc_re (S2:=⟨4,[(8,.slice (some ⟨3,0,none⟩) 0 0)],[(0,false,one ⟨hls kk (rHv (tabV 1 zo T)),46,0⟩),(1,false,inF zo 28 0 T),(3,true,one ⟨[],3,1⟩)]⟩) (re_nil (ms:=[0,1]) (C:=3) rfl ⟨⟨⟨rfl,rfl⟩,rfl⟩,trivial⟩ ⟨ktTab (k:=kk) rfl rfl (.inr (.inl rfl)) id rfl rfl,ktIn rfl id rfl,ktC1 rfl (by decide) rfl,trivial⟩ rfl rfl (rig_of rfl) rfl) ?_
  refine vc_ret ?_
  rw [(lb_no (by first|exact .inl (by assumption)|exact .inr (.inl (by assumption))|exact .inr (.inr (by assumption))))]
  exact ⟨_,endsT [(2,3,one ⟨[],3,1⟩)] (.inr rfl) (.tmp rfl rfl .nil) rfl rfl trivial ⟨asFlat rfl rfl,trivial⟩ rfl⟩
 ·skip
  have n16:=unF c16
  refine gM ⟨_,_,rfl,rfl,c16⟩ (.inl rfl) rfl rfl rfl ?_
  refine gC0 [] (client_c who) ⟨_,_,rfl,rfl,c16⟩ rfl rfl rfl rfl (by trivial) rfl rfl rfl rfl rfl ?_
  refine gN ⟨_,_,rfl,rfl,c16⟩ rfl rfl rfl rfl ?_
  refine gPF trivial rfl rfl c16 rfl rfl rfl ?_
  refine gM trivial (.inl rfl) rfl rfl rfl ?_
  refine gI2 (d:=21) rfl (fun c21=>?_) (fun c21=>?_)
  ·skip
   have n21:=unT c21
   refine gO ⟨_,_,rfl,rfl,c21⟩ rfl rfl ?_
   refine gO ⟨_,_,rfl,rfl,c21⟩ rfl rfl ?_
   refine gO ⟨_,_,rfl,rfl,c21⟩ rfl rfl ?_
   refine gPT trivial rfl rfl c21 rfl rfl rfl ?_
   refine rg_nil nofun ?_
   refine cT rfl rfl ?_
   refine vc_seq ?_
   refine vc_region hm ?_
   refine gM trivial (.inr rfl) rfl rfl rfl ?_
   refine rg_nil nofun ?_
   refine vc_re (S2:=⟨4,[(8,.slice (some ⟨3,0,none⟩) 0 0)],[(0,false,one ⟨hls kk (rHv (tabV 1 zo T)),46,0⟩),(1,false,inF zo 28 0 T),(3,true,one ⟨[],3,1⟩)]⟩) (re_nil (ms:=[0,1]) (C:=3) rfl ⟨⟨⟨rfl,rfl⟩,rfl⟩,trivial⟩ ⟨ktTab (k:=kk) rfl rfl (.inr (.inl rfl)) id rfl rfl,ktIn rfl id rfl,ktC1 rfl (by decide) rfl,trivial⟩ rfl rfl (rig_of rfl) rfl) ?_
   refine vc_ret ?_
   rw [(lb_no (by first|exact .inl (by assumption)|exact .inr (.inl (by assumption))|exact .inr (.inr (by assumption))))]
   exact ⟨_,endsT [(2,3,one ⟨[],3,1⟩)] (.inr rfl) (.tmp rfl rfl .nil) rfl rfl trivial ⟨asFlat rfl rfl,trivial⟩ rfl⟩
  ·skip
   have n21:=unF c21
   refine gL ⟨_,_,rfl,rfl,c21⟩ rfl rfl rfl rfl rfl rfl rfl rfl ?_
   refine gC0 [] (impl_SpanOk_c s) ⟨_,_,rfl,rfl,c21⟩ rfl rfl rfl rfl (by trivial) rfl rfl rfl rfl rfl ?_
   refine gN ⟨_,_,rfl,rfl,c21⟩ rfl rfl rfl rfl ?_
   refine gPF trivial rfl rfl c21 rfl rfl rfl ?_
   refine rg_nil nofun ?_
   refine cI rfl (fun c25=>?_) (fun c25=>?_)
   ·skip
    have n25:=unT c25
    refine vc_seq ?_
    refine vc_region hm ?_
    refine gM trivial (.inr rfl) rfl rfl rfl ?_
    refine rg_nil nofun ?_
    refine vc_re (S2:=⟨4,[(8,.slice (some ⟨3,0,none⟩) 0 0)],[(0,false,one ⟨hls kk (rHv (tabV 1 zo T)),46,0⟩),(1,false,inF zo 28 0 T),(3,true,one ⟨[],3,1⟩)]⟩) (re_nil (ms:=[0,1]) (C:=3) rfl ⟨⟨⟨rfl,rfl⟩,rfl⟩,trivial⟩ ⟨ktTab (k:=kk) rfl rfl (.inr (.inl rfl)) id rfl rfl,ktIn rfl id rfl,ktC1 rfl (by decide) rfl,trivial⟩ rfl rfl (rig_of rfl) rfl) ?_
    refine vc_ret ?_
    rw [(lb_no (by first|exact .inl (by assumption)|exact .inr (.inl (by assumption))|exact .inr (.inr (by assumption))))]
    exact ⟨_,endsT [(2,3,one ⟨[],3,1⟩)] (.inr rfl) (.tmp rfl rfl .nil) rfl rfl trivial ⟨asFlat rfl rfl,trivial⟩ rfl⟩
   ·skip
    have n25:=unF c25
    refine vc_skip ?_
    refine vc_seq ?_
    refine vc_region hm ?_
    refine gR (u':=4) trivial rfl rfl rfl rfl rfl rfl rfl rfl rfl rfl rfl rfl rfl rfl ?_
    refine gM trivial (.inr rfl) rfl rfl rfl ?_
    refine rg_nil nofun ?_
    refine vc_seq ?_
    refine vc_seq ?_
    refine vc_region hm ?_
    refine gM trivial (.inl rfl) rfl rfl rfl ?_
    refine gK trivial rfl rfl rfl rfl rfl rfl (hls_nil tabV_nil) ?_
    refine gM trivial (.inl rfl) rfl rfl rfl ?_
    refine rg_nil nofun ?_
    refine vc_block ?_
    refine vc_loopT (fun n_ S_=>∃ (j:Nat),j≤T.length∧n_=T.length - j∧S_=⟨4,[(1,.int .i64 who),(2,.bool write),(7,.pointer (some ⟨2,0,none⟩)),(9,.slice (some ⟨3,0,none⟩) (barsL T who write s j).length 0),(27,.slice (some ⟨0,kk,none⟩) T.length cc),(28,.int .i64 T.length),(29,.int .i64 j)],[(0,false,one ⟨hls kk (rHv (tabV 1 zo T)),46,0⟩),(1,false,inF zo 28 0 T),(2,true,one ⟨[.int .i64 s.lo,.int .i64 s.hi],28,2⟩),(3,true,one ⟨rI (barsL T who write s j),3,1⟩)]⟩) ⟨0,Nat.zero_le _,rfl,rfl⟩ (re_nil (ms:=[0,1,2,3]) (C:=999) rfl ⟨⟨⟨rfl,rfl⟩,rfl⟩,⟨⟨rfl,rfl⟩,rfl⟩,⟨⟨rfl,rfl⟩,rfl⟩,⟨⟨rfl,rfl⟩,rfl⟩,⟨⟨rfl,rfl⟩,rfl⟩,⟨⟨rfl,rfl⟩,rfl⟩,⟨⟨rfl,rfl⟩,rfl⟩,trivial⟩ ⟨ktTab (k:=kk) rfl rfl (.inr (.inl rfl)) id rfl rfl,ktIn rfl id rfl,ktFlat rfl rfl (.inr (.inl rfl)) id rfl,ktFlat rfl rfl (.inr (.inl rfl)) id rfl,trivial⟩ rfl rfl (rig_of rfl) rfl) ?_
    rintro n_ S_ ⟨j,hj,rfl,rfl⟩
    refine vc_seq ?_
    refine vc_region hm ?_
    refine gI trivial rfl rfl rfl rfl rfl rfl ?_
    refine rg_nil nofun ?_
    refine vc_seq ?_
    refine cI rfl (fun c30=>?_) (fun c30=>?_)
    ·skip
     have p30:=of_decide_eq_true c30
     refine vc_skip ?_
     refine vc_seq ?_
     refine vc_block ?_
     refine vc_seq ?_
     refine vc_region hm ?_
     refine gM trivial (.inl rfl) rfl rfl rfl ?_
     refine gX trivial rfl rfl rfl rfl rfl rfl rfl rfl (by omega) p30 (fun h=>hls_ne (tabV_ne h)) ?_
     refine gL trivial rfl rfl rfl rfl rfl rfl rfl (aHk (by omega) p30) ?_
     refine gZ (u':=5) trivial rfl rfl rfl rfl rfl rfl rfl rfl ?_
     refine gM trivial (.inr rfl) rfl rfl rfl ?_
     refine gT trivial rfl rfl rfl rfl rfl rfl rfl rfl rfl rfl (Nat.le_of_ble_eq_true rfl) rfl ?_
     refine rg_nil nofun ?_
     refine vc_seq ?_
     refine vc_region hm ?_
     refine gF trivial rfl rfl rfl rfl rfl ?_
     refine gL trivial rfl rfl rfl rfl rfl rfl rfl rfl ?_
     refine gCT0 [nA (nm 1 (2 * ((j:Int)).toNat + 1))] [1] (of_c (l:=(at_ T (j:Int)).w) (inB_of (ok_at (by assumption) (by omega)).2.1) (by have:=spansOk_len (l:=(at_ T (j:Int)).w) (ok_at (by assumption) (by omega)).2.1;omega)) trivial rfl rfl rfl rfl rfl ⟨aRow rfl (rSp_flat _) rfl (inF_1 (by omega) p30) (.inl rfl) (.inl rfl) rfl,trivial⟩ (vPl_flat _) rfl rfl rfl ?_
     refine gZ (u':=6) trivial rfl rfl rfl rfl rfl rfl rfl (show cellsL _=plL noP from rfl) ?_
     refine gT trivial rfl rfl rfl rfl rfl rfl rfl rfl rfl rfl zPl pPl ?_
     refine rg_nil nofun ?_
     refine vc_seq ?_
     refine vc_seq ?_
     refine vc_region hm ?_
     refine gM trivial (.inl rfl) rfl rfl rfl ?_
     refine rg_nil nofun ?_
     refine cI rfl (fun c37=>?_) (fun c37=>?_)
     ·skip
      refine vc_region hm ?_
      refine gL trivial rfl rfl rfl rfl rfl rfl rfl wPl ?_
      refine gF trivial rfl rfl rfl rfl rfl ?_
      refine gL trivial rfl rfl rfl rfl rfl rfl rfl rfl ?_
      refine gCT0 [nA (nm 1 (2 * ((j:Int)).toNat))] [1] (of_c (l:=(at_ T (j:Int)).r) (inB_of (ok_at (by assumption) (by omega)).1) (by have:=spansOk_len (l:=(at_ T (j:Int)).r) (ok_at (by assumption) (by omega)).1;omega)) trivial rfl rfl rfl rfl rfl ⟨aRow rfl (rSp_flat _) rfl (inF_0 (by omega) p30) (.inl rfl) (.inl rfl) rfl,trivial⟩ (vPl_flat _) rfl rfl rfl ?_
      refine gC0 [] (put_c (ofP (at_ T (j:Int)).w) (ofP (at_ T (j:Int)).r) true) trivial rfl rfl rfl rfl (by trivial) rfl rfl (vPl_flat _) rfl rfl ?_
      refine gT trivial rfl rfl rfl rfl rfl rfl rfl rfl rfl rfl zPl pPl ?_
      refine rg_nil (fun _=>by kernel_rfl) ?_
      refine vc_seq ?_
      refine vc_region hm ?_
      refine gM trivial (.inl rfl) rfl rfl rfl ?_
      refine gM trivial (.inl rfl) rfl rfl rfl ?_
      refine gI trivial rfl rfl rfl rfl rfl rfl ?_
      refine gM trivial (.inl rfl) rfl rfl rfl ?_
      refine gI2 (d:=46) rfl (fun c46=>?_) (fun c46=>?_)
      ·skip
       have p46:=bne_iff_ne.1 c46
       refine gL ⟨_,_,rfl,rfl,c46⟩ rfl rfl rfl rfl rfl rfl rfl wPl ?_
       refine gL ⟨_,_,rfl,rfl,c46⟩ rfl rfl rfl rfl rfl rfl rfl rfl ?_
       refine gR (u':=7) (out:=rSp [s]) ⟨_,_,rfl,rfl,c46⟩ rfl rfl rfl rfl rfl rfl rfl rfl rfl rfl rfl rfl rfl rfl ?_
       refine gC0 [6] (of_c (l:=[s]) (inB_one' (by assumption)) (show 1≤1000000 by decide)) ⟨_,_,rfl,rfl,c46⟩ rfl rfl rfl rfl ⟨rFlat (rSp_flat [s]) rfl (.inl rfl) rfl,trivial⟩ rfl rfl (vPl_flat _) rfl rfl ?_
       refine gC0 [] (meet_c (putP (ofP (at_ T (j:Int)).w) (ofP (at_ T (j:Int)).r) true) (ofP [s])) ⟨_,_,rfl,rfl,c46⟩ rfl rfl rfl rfl (by trivial) rfl rfl (vPl_flat _) rfl rfl ?_
       refine gU (out:=plL noP) ⟨_,_,rfl,rfl,c46⟩ rfl rfl rfl rfl rfl rfl rfl rfl ?_
       refine gEqPn ⟨_,_,rfl,rfl,c46⟩ rfl rfl rfl rfl rfl (by kernel_rfl) rfl rfl rfl rfl ?_
       refine gPT trivial rfl rfl c46 rfl rfl rfl ?_
       refine rg_nil (fun _=>by kernel_rfl) ?_
       refine cI rfl (fun c54=>?_) (fun c54=>?_)
       ·skip
        have n54:=unT c54
        refine vc_region hm ?_
        refine gM trivial (.inl rfl) rfl rfl rfl ?_
        refine gM trivial (.inl rfl) rfl rfl rfl ?_
        refine gR (u':=8) (out:=rI [(j:Int)]) trivial rfl rfl rfl rfl rfl rfl rfl rfl rfl rfl rfl rfl rfl rfl ?_
        refine gAp (u':=9) trivial rfl rfl rfl rfl rfl rfl rfl rfl rfl rfl rfl rfl (by rw [rowL_len (n:=1) (fun _=>rfl)]) (Nat.le_refl _) rfl (show ((barsL T who write s j).length + 1) * (8 + 1)≤140737488355328 by have:=bars_len (T:=T) (who:=who) (write:=write) (s:=s) j;omega) (row_snoc (enc:=eI) (x:=(j:Int))) rfl ?_
        refine gM trivial (.inr rfl) rfl rfl rfl ?_
        refine rg_nil nofun ?_
        refine vc_region hm ?_
        refine gA trivial rfl rfl rfl rfl rfl rfl (by omega) ?_
        refine gM trivial (.inl rfl) rfl rfl rfl ?_
        refine rg_nil nofun ?_
        exact lp_nextT ⟨j + 1,(by omega),rfl,rfl⟩ (by omega) (re_nil (ms:=[0,1,2,8]) (C:=999) rfl ⟨⟨⟨rfl,rfl⟩,rfl⟩,⟨⟨rfl,rfl⟩,rfl⟩,⟨⟨rfl,rfl⟩,rfl⟩,⟨⟨rfl,eqSl (by rw [← bars_T ((barI_r (by assumption) p30 (by assumption) p46 c37).symm.trans c54)];simp)⟩,rfl⟩,⟨⟨rfl,rfl⟩,rfl⟩,⟨⟨rfl,rfl⟩,rfl⟩,⟨⟨rfl,rfl⟩,rfl⟩,trivial⟩ ⟨ktTab (k:=kk) rfl rfl (.inr (.inl rfl)) id rfl rfl,ktIn rfl id rfl,ktFlat rfl rfl (.inr (.inl rfl)) id rfl,ktFlat (rI_flat _) (eqH (congrArg rI (bars_T ((barI_r (by assumption) p30 (by assumption) p46 c37).symm.trans c54)))) (.inr (.inl rfl)) id rfl,trivial⟩ rfl rfl (rig_of rfl) rfl)
       ·skip
        have n54:=unF c54
        refine vc_skip ?_
        refine vc_region hm ?_
        refine gA trivial rfl rfl rfl rfl rfl rfl (by omega) ?_
        refine gM trivial (.inl rfl) rfl rfl rfl ?_
        refine rg_nil nofun ?_
        exact lp_nextT ⟨j + 1,(by omega),rfl,rfl⟩ (by omega) (re_nil (ms:=[0,1,2,3]) (C:=999) rfl ⟨⟨⟨rfl,rfl⟩,rfl⟩,⟨⟨rfl,rfl⟩,rfl⟩,⟨⟨rfl,rfl⟩,rfl⟩,⟨⟨rfl,eqSl (by rw [← bars_F ((barI_r (by assumption) p30 (by assumption) p46 c37).symm.trans c54)])⟩,rfl⟩,⟨⟨rfl,rfl⟩,rfl⟩,⟨⟨rfl,rfl⟩,rfl⟩,⟨⟨rfl,rfl⟩,rfl⟩,trivial⟩ ⟨ktTab (k:=kk) rfl rfl (.inr (.inl rfl)) id rfl rfl,ktIn rfl id rfl,ktFlat rfl rfl (.inr (.inl rfl)) id rfl,ktFlat (rI_flat _) (eqH (congrArg rI (bars_F ((barI_r (by assumption) p30 (by assumption) p46 c37).symm.trans c54)))) (.inr (.inl rfl)) id rfl,trivial⟩ rfl rfl (rig_of rfl) rfl)
      ·skip
       have p46:=bne_eq_false_iff_eq.1 c46
       refine gO ⟨_,_,rfl,rfl,c46⟩ rfl rfl ?_
       refine gO ⟨_,_,rfl,rfl,c46⟩ rfl rfl ?_
       refine gO ⟨_,_,rfl,rfl,c46⟩ rfl rfl ?_
       refine gO ⟨_,_,rfl,rfl,c46⟩ rfl rfl ?_
       refine gO ⟨_,_,rfl,rfl,c46⟩ rfl rfl ?_
       refine gO ⟨_,_,rfl,rfl,c46⟩ rfl rfl ?_
       refine gO ⟨_,_,rfl,rfl,c46⟩ rfl rfl ?_
       refine gPF trivial rfl rfl c46 rfl rfl rfl ?_
       refine rg_nil (fun _=>by kernel_rfl) ?_
       refine cF rfl rfl ?_
       refine vc_skip ?_
       refine vc_region hm ?_
       refine gA trivial rfl rfl rfl rfl rfl rfl (by omega) ?_
       refine gM trivial (.inl rfl) rfl rfl rfl ?_
       refine rg_nil nofun ?_
       exact lp_nextT ⟨j + 1,(by omega),rfl,rfl⟩ (by omega) (re_nil (ms:=[0,1,2,3]) (C:=999) rfl ⟨⟨⟨rfl,rfl⟩,rfl⟩,⟨⟨rfl,rfl⟩,rfl⟩,⟨⟨rfl,rfl⟩,rfl⟩,⟨⟨rfl,eqSl (by rw [← bars_F (barS_1 p46)])⟩,rfl⟩,⟨⟨rfl,rfl⟩,rfl⟩,⟨⟨rfl,rfl⟩,rfl⟩,⟨⟨rfl,rfl⟩,rfl⟩,trivial⟩ ⟨ktTab (k:=kk) rfl rfl (.inr (.inl rfl)) id rfl rfl,ktIn rfl id rfl,ktFlat rfl rfl (.inr (.inl rfl)) id rfl,ktFlat (rI_flat _) (eqH (congrArg rI (bars_F (barS_1 p46)))) (.inr (.inl rfl)) id rfl,trivial⟩ rfl rfl (rig_of rfl) rfl)
     ·skip
      refine vc_skip ?_
      refine vc_seq ?_
      refine vc_region hm ?_
      refine gM trivial (.inl rfl) rfl rfl rfl ?_
      refine gM trivial (.inl rfl) rfl rfl rfl ?_
      refine gI trivial rfl rfl rfl rfl rfl rfl ?_
      refine gM trivial (.inl rfl) rfl rfl rfl ?_
      refine gI2 (d:=46) rfl (fun c46=>?_) (fun c46=>?_)
      ·skip
       have p46:=bne_iff_ne.1 c46
       refine gL ⟨_,_,rfl,rfl,c46⟩ rfl rfl rfl rfl rfl rfl rfl wPl ?_
       refine gL ⟨_,_,rfl,rfl,c46⟩ rfl rfl rfl rfl rfl rfl rfl rfl ?_
       refine gR (u':=7) (out:=rSp [s]) ⟨_,_,rfl,rfl,c46⟩ rfl rfl rfl rfl rfl rfl rfl rfl rfl rfl rfl rfl rfl rfl ?_
       refine gC0 [6] (of_c (l:=[s]) (inB_one' (by assumption)) (show 1≤1000000 by decide)) ⟨_,_,rfl,rfl,c46⟩ rfl rfl rfl rfl ⟨rFlat (rSp_flat [s]) rfl (.inl rfl) rfl,trivial⟩ rfl rfl (vPl_flat _) rfl rfl ?_
       refine gC0 [] (meet_c (ofP (at_ T (j:Int)).w) (ofP [s])) ⟨_,_,rfl,rfl,c46⟩ rfl rfl rfl rfl (by trivial) rfl rfl (vPl_flat _) rfl rfl ?_
       refine gU (out:=plL noP) ⟨_,_,rfl,rfl,c46⟩ rfl rfl rfl rfl rfl rfl rfl rfl ?_
       refine gEqPn ⟨_,_,rfl,rfl,c46⟩ rfl rfl rfl rfl rfl (by kernel_rfl) rfl rfl rfl rfl ?_
       refine gPT trivial rfl rfl c46 rfl rfl rfl ?_
       refine rg_nil (fun _=>by kernel_rfl) ?_
       refine cI rfl (fun c54=>?_) (fun c54=>?_)
       ·skip
        have n54:=unT c54
        refine vc_region hm ?_
        refine gM trivial (.inl rfl) rfl rfl rfl ?_
        refine gM trivial (.inl rfl) rfl rfl rfl ?_
        refine gR (u':=8) (out:=rI [(j:Int)]) trivial rfl rfl rfl rfl rfl rfl rfl rfl rfl rfl rfl rfl rfl rfl ?_
        refine gAp (u':=9) trivial rfl rfl rfl rfl rfl rfl rfl rfl rfl rfl rfl rfl (by rw [rowL_len (n:=1) (fun _=>rfl)]) (Nat.le_refl _) rfl (show ((barsL T who write s j).length + 1) * (8 + 1)≤140737488355328 by have:=bars_len (T:=T) (who:=who) (write:=write) (s:=s) j;omega) (row_snoc (enc:=eI) (x:=(j:Int))) rfl ?_
        refine gM trivial (.inr rfl) rfl rfl rfl ?_
        refine rg_nil nofun ?_
        refine vc_region hm ?_
        refine gA trivial rfl rfl rfl rfl rfl rfl (by omega) ?_
        refine gM trivial (.inl rfl) rfl rfl rfl ?_
        refine rg_nil nofun ?_
        exact lp_nextT ⟨j + 1,(by omega),rfl,rfl⟩ (by omega) (re_nil (ms:=[0,1,2,8]) (C:=999) rfl ⟨⟨⟨rfl,rfl⟩,rfl⟩,⟨⟨rfl,rfl⟩,rfl⟩,⟨⟨rfl,rfl⟩,rfl⟩,⟨⟨rfl,eqSl (by rw [← bars_T ((barI_w (by assumption) p30 (by assumption) p46 c37).symm.trans c54)];simp)⟩,rfl⟩,⟨⟨rfl,rfl⟩,rfl⟩,⟨⟨rfl,rfl⟩,rfl⟩,⟨⟨rfl,rfl⟩,rfl⟩,trivial⟩ ⟨ktTab (k:=kk) rfl rfl (.inr (.inl rfl)) id rfl rfl,ktIn rfl id rfl,ktFlat rfl rfl (.inr (.inl rfl)) id rfl,ktFlat (rI_flat _) (eqH (congrArg rI (bars_T ((barI_w (by assumption) p30 (by assumption) p46 c37).symm.trans c54)))) (.inr (.inl rfl)) id rfl,trivial⟩ rfl rfl (rig_of rfl) rfl)
       ·skip
        have n54:=unF c54
        refine vc_skip ?_
        refine vc_region hm ?_
        refine gA trivial rfl rfl rfl rfl rfl rfl (by omega) ?_
        refine gM trivial (.inl rfl) rfl rfl rfl ?_
        refine rg_nil nofun ?_
        exact lp_nextT ⟨j + 1,(by omega),rfl,rfl⟩ (by omega) (re_nil (ms:=[0,1,2,3]) (C:=999) rfl ⟨⟨⟨rfl,rfl⟩,rfl⟩,⟨⟨rfl,rfl⟩,rfl⟩,⟨⟨rfl,rfl⟩,rfl⟩,⟨⟨rfl,eqSl (by rw [← bars_F ((barI_w (by assumption) p30 (by assumption) p46 c37).symm.trans c54)])⟩,rfl⟩,⟨⟨rfl,rfl⟩,rfl⟩,⟨⟨rfl,rfl⟩,rfl⟩,⟨⟨rfl,rfl⟩,rfl⟩,trivial⟩ ⟨ktTab (k:=kk) rfl rfl (.inr (.inl rfl)) id rfl rfl,ktIn rfl id rfl,ktFlat rfl rfl (.inr (.inl rfl)) id rfl,ktFlat (rI_flat _) (eqH (congrArg rI (bars_F ((barI_w (by assumption) p30 (by assumption) p46 c37).symm.trans c54)))) (.inr (.inl rfl)) id rfl,trivial⟩ rfl rfl (rig_of rfl) rfl)
      ·skip
       have p46:=bne_eq_false_iff_eq.1 c46
       refine gO ⟨_,_,rfl,rfl,c46⟩ rfl rfl ?_
       refine gO ⟨_,_,rfl,rfl,c46⟩ rfl rfl ?_
       refine gO ⟨_,_,rfl,rfl,c46⟩ rfl rfl ?_
       refine gO ⟨_,_,rfl,rfl,c46⟩ rfl rfl ?_
       refine gO ⟨_,_,rfl,rfl,c46⟩ rfl rfl ?_
       refine gO ⟨_,_,rfl,rfl,c46⟩ rfl rfl ?_
       refine gO ⟨_,_,rfl,rfl,c46⟩ rfl rfl ?_
       refine gPF trivial rfl rfl c46 rfl rfl rfl ?_
       refine rg_nil (fun _=>by kernel_rfl) ?_
       refine cF rfl rfl ?_
       refine vc_skip ?_
       refine vc_region hm ?_
       refine gA trivial rfl rfl rfl rfl rfl rfl (by omega) ?_
       refine gM trivial (.inl rfl) rfl rfl rfl ?_
       refine rg_nil nofun ?_
       exact lp_nextT ⟨j + 1,(by omega),rfl,rfl⟩ (by omega) (re_nil (ms:=[0,1,2,3]) (C:=999) rfl ⟨⟨⟨rfl,rfl⟩,rfl⟩,⟨⟨rfl,rfl⟩,rfl⟩,⟨⟨rfl,rfl⟩,rfl⟩,⟨⟨rfl,eqSl (by rw [← bars_F (barS_1 p46)])⟩,rfl⟩,⟨⟨rfl,rfl⟩,rfl⟩,⟨⟨rfl,rfl⟩,rfl⟩,⟨⟨rfl,rfl⟩,rfl⟩,trivial⟩ ⟨ktTab (k:=kk) rfl rfl (.inr (.inl rfl)) id rfl rfl,ktIn rfl id rfl,ktFlat rfl rfl (.inr (.inl rfl)) id rfl,ktFlat (rI_flat _) (eqH (congrArg rI (bars_F (barS_1 p46)))) (.inr (.inl rfl)) id rfl,trivial⟩ rfl rfl (rig_of rfl) rfl)
    ·skip
     have p30:=of_decide_eq_false c30
     refine vc_exit ?_
     refine vc_seq ?_
     refine vc_region hm ?_
     refine gM trivial (.inl rfl) rfl rfl rfl ?_
     refine gM trivial (.inr rfl) rfl rfl rfl ?_
     refine rg_nil nofun ?_
     refine vc_ret ?_
     obtain rfl:j=T.length:=by omega
     rw [← (lb_ok (by assumption) (by assumption) (by assumption))]
     exact ⟨_,endsT [(2,3,one ⟨rI (barsL T who write s T.length),3,1⟩)] (.inr rfl) (.tmp rfl rfl .nil) rfl rfl trivial ⟨asFlat rfl (rI_flat _),trivial⟩ rfl⟩
theorem spec_l4Without_c {a b:List Sp} (hn:a.length≤1048576) (hm:b.length≤1048576) (hb:spansOk b=true):FDoes Try.prog 70 [.slice (some ⟨0,0,none⟩) a.length 0,.slice (some ⟨1,0,none⟩) b.length 0] (hp [(0,false,one ⟨rSp a,28,0⟩),(1,false,one ⟨rSp b,28,0⟩)]) (mkE (.slice (some ⟨2,0,none⟩) (withoutL a b).length 0) [0,1] [] [(2,⟨rSp (withoutL a b),28,2⟩)]):=by
 have hm:Try.prog.follows .mixedOrders=true:=by kernel_rfl
 have hd_:∀ x_ ∈ ([(0,false,one ⟨rSp a,28,0⟩),(1,false,one ⟨rSp b,28,0⟩)]:List (Nat × Bool × Fam)),∀ k_ y_,x_.2.2 k_=some y_→DetB (lt 2) y_:=by
  intro x_ hx k_ y_ e
  simp only [List.mem_cons,List.not_mem_nil,or_false] at hx
  rcases hx with rfl|rfl
  ·exact det_row (rSp_flat a) e
  ·exact det_row (rSp_flat b) e
 refine fn_exact (u0:=2) Try.func70 rfl rfl (gets rfl rfl rfl hd_ rfl) ?_
 clear hd_
 refine vc_seq ?_
 refine vc_region hm ?_
 refine gM trivial (.inr rfl) rfl rfl rfl ?_
 refine rg_nil nofun ?_
 refine vc_seq ?_
 refine vc_region hm ?_
 refine gM trivial (.inl rfl) rfl rfl rfl ?_
 refine gCn 3 [0,2] (spec_l1Places_c (l:=a) hn) trivial rfl rfl rfl rfl ⟨rFlat (rSp_flat a) rfl (.inl rfl) rfl,trivial⟩ ⟨plL_flat _,trivial⟩ rfl rfl rfl rfl ?_
 refine gCn 4 [2,3] (spec_l1Of_c (fun x=>l1In a (x:Int))) trivial rfl rfl rfl rfl ⟨rFlat (plL_flat _) rfl (.inl rfl) rfl,trivial⟩ ⟨rSp_flat _,trivial⟩ rfl rfl rfl rfl ?_
 refine gM trivial (.inr rfl) rfl rfl rfl ?_
 refine rg_nil nofun ?_
 refine vc_seq ?_
 refine vc_seq ?_
 refine vc_region hm ?_
 refine gM trivial (.inr rfl) rfl rfl rfl ?_
 refine rg_nil nofun ?_
 refine vc_block ?_
 refine vc_loop' (fun n_ S_=>∃ (j:Nat),j≤b.length∧n_=b.length - j∧S_=⟨3,[(1,.slice (some ⟨1,0,none⟩) b.length 0),(5,.slice (some ⟨2,0,none⟩) (l1ofP fun x=>l1In a (x:Int) && !ofP (b.take j) x).length 0),(6,.int .i64 j)],[(0,false,one ⟨rSp a,28,0⟩),(1,false,one ⟨rSp b,28,0⟩),(2,true,one ⟨rSp (l1ofP fun x=>l1In a (x:Int) && !ofP (b.take j) x),28,2⟩)]⟩) (m0:=(mp [0,1,3])) ⟨0,Nat.zero_le _,rfl,rfl⟩ (le_mk rfl ⟨⟨rfl,rfl⟩,⟨eqSl (by rw [← wo_0 (b:=b)]),rfl⟩,⟨rfl,rfl⟩,trivial⟩ ⟨kFlat (rSp_flat a) rfl id rfl,kFlat (rSp_flat b) rfl id rfl,kFlat (rSp_flat _) (eqH (congrArg _ wo_0)) id rfl,trivial⟩ rfl (rig_of rfl)) ?_
 rintro n_ S_ ⟨j,hj,rfl,rfl⟩
 refine vc_seq ?_
 refine vc_seq ?_
 refine vc_region hm ?_
 refine gM trivial (.inl rfl) rfl rfl rfl ?_
 refine gM trivial (.inl rfl) rfl rfl rfl ?_
 refine gK trivial rfl rfl rfl rfl rfl rfl rSp_nil ?_
 refine gI trivial rfl rfl rfl rfl rfl rfl ?_
 refine rg_nil nofun ?_
 refine cI rfl (fun c13=>?_) (fun c13=>?_)
 ·skip
  have p13:=of_decide_eq_true c13
  refine vc_skip ?_
  refine vc_seq ?_
  refine vc_block ?_
  refine vc_region hm ?_
  refine gM trivial (.inl rfl) rfl rfl rfl ?_
  refine gM trivial (.inl rfl) rfl rfl rfl ?_
  refine gM trivial (.inl rfl) rfl rfl rfl ?_
  refine gX trivial rfl rfl rfl rfl rfl rfl rfl rfl (by omega) p13 rSp_ne ?_
  refine gL trivial rfl rfl rfl rfl rfl rfl rfl (aSp (by omega) p13) ?_
  refine gCn 4 [2,3] (spec_l1Cut_c (l:=(l1ofP fun x=>l1In a (x:Int) && !ofP (b.take j) x)) (s:=at_ b (j:Int)) l48 (spanOk_in (spansOk_at hb _ (at_mem (by omega) p13)))) trivial rfl rfl rfl rfl ⟨rFlat (rSp_flat _) rfl (.inl rfl) rfl,trivial⟩ ⟨rSp_flat _,trivial⟩ rfl rfl rfl rfl ?_
  refine gM trivial (.inr rfl) rfl rfl rfl ?_
  refine rg_nil nofun ?_
  refine vc_region hm ?_
  refine gM trivial (.inl rfl) rfl rfl rfl ?_
  refine gA trivial rfl rfl rfl rfl rfl rfl (by omega) ?_
  refine gM trivial (.inr rfl) rfl rfl rfl ?_
  refine rg_nil nofun ?_
  exact lp_next (m:=(mp [0,1,3])) ⟨j + 1,(by omega),rfl,rfl⟩ (by omega) (le_mk rfl ⟨⟨rfl,rfl⟩,⟨eqSl (by rw [← wo_step p13]),rfl⟩,⟨rfl,rfl⟩,trivial⟩ ⟨kFlat (rSp_flat a) rfl id rfl,kFlat (rSp_flat b) rfl id rfl,kFlat (rSp_flat _) (eqH (congrArg _ (wo_step p13))) id rfl,trivial⟩ rfl (rig_of rfl))
 ·skip
  have p13:=of_decide_eq_false c13
  refine vc_exit ?_
  refine vc_seq ?_
  refine vc_region hm ?_
  refine gM trivial (.inl rfl) rfl rfl rfl ?_
  refine gM trivial (.inr rfl) rfl rfl rfl ?_
  refine rg_nil nofun ?_
  refine vc_ret ?_
  rw [wo_end hj p13]
  exact ⟨_,endsG [(2,2,⟨rSp (withoutL a b),28,2⟩)] (.inr rfl) (.tmp rfl rfl .nil) rfl rfl trivial ⟨⟨rfl,rSp_flat _⟩,trivial⟩ rfl⟩
theorem spec_LockDrop_c {T:List Ho} {who:Int} {s:Sp} {kk cc:Nat} (hT:T.length≤1048576) (hB:∀ h ∈ T,h.r.length≤1048576∧h.w.length≤1048576):FDoes Try.prog 26 [.slice (some ⟨0,kk,none⟩) T.length cc,.int .i64 who,vSp s] (hp [(0,false,one ⟨hls kk (rHv (tabV 1 zo T)),46,0⟩),(1,false,inF zo 28 0 T)]) (mkF (.tuple #[.slice (some ⟨2,0,none⟩) (resT T (goK who s true) who (dropH (at_ T who) s)).length 0,.bool (resB T (goK who s true) who (dropH (at_ T who) s))]) [0,1] [] [(2,one ⟨rHv (tabV 3 zo (resT T (goK who s true) who (dropH (at_ T who) s))),46,2⟩),(3,inF zo 28 77 (resT T (goK who s true) who (dropH (at_ T who) s)))]):=by
 have hm:Try.prog.follows .mixedOrders=true:=by kernel_rfl
 have hd_:∀ x_ ∈ ([(0,false,one ⟨hls kk (rHv (tabV 1 zo T)),46,0⟩),(1,false,inF zo 28 0 T)]:List (Nat × Bool × Fam)),∀ k_ y_,x_.2.2 k_=some y_→DetB (lt 2) y_:=by
  intro x_ hx k_ y_ e
  simp only [List.mem_cons,List.not_mem_nil,or_false] at hx
  rcases hx with rfl|rfl
  ·exact det_tab (k0:=kk) rfl e
  ·exact det_in e
 refine fn_exact (u0:=2) Try.func26 rfl rfl (gets rfl rfl rfl hd_ rfl) ?_
 clear hd_
 refine vc_seq ?_
 refine vc_region hm ?_
 refine gB (u':=3) trivial rfl rfl rfl rfl rfl rfl rfl rfl ?_
 refine gM trivial (.inr rfl) rfl rfl rfl ?_
 refine gM trivial (.inr rfl) rfl rfl rfl ?_
 refine rg_nil nofun ?_
 refine vc_seq ?_
 refine vc_seq ?_
 refine vc_region hm ?_
 refine gM trivial (.inl rfl) rfl rfl rfl ?_
 refine gCT0 [nA (nm 0 (0)),nF 1] [0,1] (spec_LockOk_c (T:=T) hT hB) trivial rfl rfl rfl rfl rfl ⟨aTab (k:=kk) rfl rfl rfl rfl (.inl rfl) (.inl rfl) rfl rfl,aIn rfl rfl (.inl rfl) (.inl rfl) rfl,trivial⟩ rfl rfl rfl rfl ?_
 refine gN trivial rfl rfl rfl rfl ?_
 refine rg_nil nofun ?_
 refine cI rfl (fun c10=>?_) (fun c10=>?_)
 ·skip
  have n10:=unT c10
  refine vc_seq ?_
  refine vc_region hm ?_
  refine gR (u':=4) trivial rfl rfl rfl rfl rfl rfl rfl rfl rfl rfl rfl rfl rfl rfl ?_
  refine gM trivial (.inr rfl) rfl rfl rfl ?_
  refine gM trivial (.inr rfl) rfl rfl rfl ?_
  refine rg_nil nofun ?_
  refine vc_re (S2:=⟨5,[(6,.slice (some ⟨3,0,none⟩) 0 0),(7,.bool false)],[(0,false,one ⟨hls kk (rHv (tabV 1 zo T)),46,0⟩),(1,false,inF zo 28 0 T),(3,true,one ⟨rHv (tabV 4 zo []),46,2⟩),(4,true,inF zo 28 77 [])]⟩) (re_nil (ms:=[0,1,2,3]) (C:=4) rfl ⟨⟨⟨rfl,rfl⟩,rfl⟩,⟨⟨rfl,rfl⟩,rfl⟩,trivial⟩ ⟨ktTab (k:=kk) rfl rfl (.inr (.inl rfl)) id rfl rfl,ktIn rfl id rfl,ktFlat rfl rfl (.inr (.inl rfl)) id rfl,ktInN (n:=0) rfl (by decide) rfl,trivial⟩ rfl rfl (rig_of rfl) rfl) ?_
  refine vc_ret ?_
  rw [(res_no (by assumption)).1,(res_no (by assumption)).2]
  exact ⟨_,endsT [(2,3,one ⟨rHv (tabV 3 zo []),46,2⟩),(3,4,inF zo 28 77 [])] (.inr rfl) (.tmp rfl rfl (.tmp rfl rfl .nil)) rfl rfl trivial ⟨asTab rfl rfl rfl,asIn rfl,trivial⟩ rfl⟩
 ·skip
  have n10:=unF c10
  refine vc_skip ?_
  refine vc_seq ?_
  refine vc_seq ?_
  refine vc_region hm ?_
  refine gM trivial (.inl rfl) rfl rfl rfl ?_
  refine gC0 [] (spec_l4Who_c who) trivial rfl rfl rfl rfl (by trivial) rfl rfl rfl rfl rfl ?_
  refine gN trivial rfl rfl rfl rfl ?_
  refine gM trivial (.inl rfl) rfl rfl rfl ?_
  refine gI2 (d:=15) rfl (fun c15=>?_) (fun c15=>?_)
  ·skip
   have n15:=unT c15
   refine gO ⟨_,_,rfl,rfl,c15⟩ rfl rfl ?_
   refine gO ⟨_,_,rfl,rfl,c15⟩ rfl rfl ?_
   refine gO ⟨_,_,rfl,rfl,c15⟩ rfl rfl ?_
   refine gPT trivial rfl rfl c15 rfl rfl rfl ?_
   refine rg_nil nofun ?_
   refine cT rfl rfl ?_
   refine vc_seq ?_
   refine vc_region hm ?_
   refine gM trivial (.inl rfl) rfl rfl rfl ?_
   refine gCT (as':=[(3,one ⟨rHv (tabV 4 zo T),46,2⟩),(4,inF zo 28 77 T)]) (v':=.slice (some ⟨3,0,none⟩) T.length 0) 5 [nA (nm 0 (0)),nF 1,nF 3,nF 4] [0,1] (spec_l4Copy_c (T:=T) hT hB) trivial rfl rfl rfl rfl rfl ⟨aTab (k:=kk) rfl rfl rfl rfl (.inl rfl) (.inl rfl) rfl rfl,aIn rfl rfl (.inl rfl) (.inl rfl) rfl,trivial⟩ ⟨rTab rfl rfl rfl,rIn rfl,trivial⟩ ⟨rfl,rfl⟩ rfl rfl rfl ?_
   refine gM trivial (.inr rfl) rfl rfl rfl ?_
   refine gM trivial (.inr rfl) rfl rfl rfl ?_
   refine rg_nil nofun ?_
   refine vc_ret ?_
   rw [(res_stay (by assumption) (by first|exact goK_1 (by assumption)|exact goK_2 (by assumption)|exact goK_3 (by assumption))).1,(res_stay (by assumption) (by first|exact goK_1 (by assumption)|exact goK_2 (by assumption)|exact goK_3 (by assumption))).2]
   exact ⟨_,endsT [(2,3,one ⟨rHv (tabV 3 zo T),46,2⟩),(3,4,inF zo 28 77 T)] (.inr rfl) (.tmp rfl rfl (.tmp rfl rfl .nil)) rfl rfl trivial ⟨asTab rfl rfl rfl,asIn rfl,trivial⟩ rfl⟩
  ·skip
   have n15:=unF c15
   refine gL ⟨_,_,rfl,rfl,c15⟩ rfl rfl rfl rfl rfl rfl rfl rfl ?_
   refine gC0 [] (spec_SpanOk_c s) ⟨_,_,rfl,rfl,c15⟩ rfl rfl rfl rfl (by trivial) rfl rfl rfl rfl rfl ?_
   refine gN ⟨_,_,rfl,rfl,c15⟩ rfl rfl rfl rfl ?_
   refine gPF trivial rfl rfl c15 rfl rfl rfl ?_
   refine rg_nil nofun ?_
   refine cI rfl (fun c19=>?_) (fun c19=>?_)
   ·skip
    have n19:=unT c19
    refine vc_seq ?_
    refine vc_region hm ?_
    refine gM trivial (.inl rfl) rfl rfl rfl ?_
    refine gCT (as':=[(3,one ⟨rHv (tabV 4 zo T),46,2⟩),(4,inF zo 28 77 T)]) (v':=.slice (some ⟨3,0,none⟩) T.length 0) 5 [nA (nm 0 (0)),nF 1,nF 3,nF 4] [0,1] (spec_l4Copy_c (T:=T) hT hB) trivial rfl rfl rfl rfl rfl ⟨aTab (k:=kk) rfl rfl rfl rfl (.inl rfl) (.inl rfl) rfl rfl,aIn rfl rfl (.inl rfl) (.inl rfl) rfl,trivial⟩ ⟨rTab rfl rfl rfl,rIn rfl,trivial⟩ ⟨rfl,rfl⟩ rfl rfl rfl ?_
    refine gM trivial (.inr rfl) rfl rfl rfl ?_
    refine gM trivial (.inr rfl) rfl rfl rfl ?_
    refine rg_nil nofun ?_
    refine vc_ret ?_
    rw [(res_stay (by assumption) (by first|exact goK_1 (by assumption)|exact goK_2 (by assumption)|exact goK_3 (by assumption))).1,(res_stay (by assumption) (by first|exact goK_1 (by assumption)|exact goK_2 (by assumption)|exact goK_3 (by assumption))).2]
    exact ⟨_,endsT [(2,3,one ⟨rHv (tabV 3 zo T),46,2⟩),(3,4,inF zo 28 77 T)] (.inr rfl) (.tmp rfl rfl (.tmp rfl rfl .nil)) rfl rfl trivial ⟨asTab rfl rfl rfl,asIn rfl,trivial⟩ rfl⟩
   ·skip
    have n19:=unF c19
    refine vc_skip ?_
    refine vc_seq ?_
    refine vc_region hm ?_
    refine gM trivial (.inl rfl) rfl rfl rfl ?_
    refine gM trivial (.inl rfl) rfl rfl rfl ?_
    refine gM trivial (.inl rfl) rfl rfl rfl ?_
    refine gM trivial (.inl rfl) rfl rfl rfl ?_
    refine gX trivial rfl rfl rfl rfl rfl rfl rfl rfl (by have:=whoOk_in (who:=who) (by assumption);have:=ok_3 (T:=T) (by assumption);omega) (by have:=whoOk_in (who:=who) (by assumption);have:=ok_3 (T:=T) (by assumption);omega) (fun h=>hls_ne (tabV_ne h)) ?_
    refine gF trivial rfl rfl rfl rfl rfl ?_
    refine gL trivial rfl rfl rfl rfl rfl rfl rfl (lH0k (by have:=whoOk_in (who:=who) (by assumption);have:=ok_3 (T:=T) (by assumption);omega) (by have:=whoOk_in (who:=who) (by assumption);have:=ok_3 (T:=T) (by assumption);omega)) ?_
    refine gL trivial rfl rfl rfl rfl rfl rfl rfl rfl ?_
    refine gCT (as':=[(3,one ⟨rSp (cutL (at_ T who).r s),28,2⟩)]) (v':=.slice (some ⟨3,0,none⟩) (cutL (at_ T who).r s).length 0) 4 [nA (nm 1 (2 * (who).toNat)),nF 3] [1] (spec_l1Cut_c (l:=(at_ T who).r) (s:=s) (hB _ (at_mem (by have:=whoOk_in (who:=who) (by assumption);have:=ok_3 (T:=T) (by assumption);omega) (by have:=whoOk_in (who:=who) (by assumption);have:=ok_3 (T:=T) (by assumption);omega))).1 (spanOk_in (by assumption))) trivial rfl rfl rfl rfl rfl ⟨aRow rfl (rSp_flat _) rfl (inF_0 (by have:=whoOk_in (who:=who) (by assumption);have:=ok_3 (T:=T) (by assumption);omega) (by have:=whoOk_in (who:=who) (by assumption);have:=ok_3 (T:=T) (by assumption);omega)) (.inl rfl) (.inl rfl) rfl,trivial⟩ ⟨rFlatT (rSp_flat _) rfl,trivial⟩ ⟨rfl,rfl⟩ rfl rfl rfl ?_
    refine gM trivial (.inl rfl) rfl rfl rfl ?_
    refine gM trivial (.inl rfl) rfl rfl rfl ?_
    refine gX trivial rfl rfl rfl rfl rfl rfl rfl rfl (by have:=whoOk_in (who:=who) (by assumption);have:=ok_3 (T:=T) (by assumption);omega) (by have:=whoOk_in (who:=who) (by assumption);have:=ok_3 (T:=T) (by assumption);omega) (fun h=>hls_ne (tabV_ne h)) ?_
    refine gF trivial rfl rfl rfl rfl rfl ?_
    refine gL trivial rfl rfl rfl rfl rfl rfl rfl (lH1k (by have:=whoOk_in (who:=who) (by assumption);have:=ok_3 (T:=T) (by assumption);omega) (by have:=whoOk_in (who:=who) (by assumption);have:=ok_3 (T:=T) (by assumption);omega)) ?_
    refine gL trivial rfl rfl rfl rfl rfl rfl rfl rfl ?_
    refine gCT (as':=[(4,one ⟨rSp (cutL (at_ T who).w s),28,2⟩)]) (v':=.slice (some ⟨4,0,none⟩) (cutL (at_ T who).w s).length 0) 5 [nA (nm 1 (2 * (who).toNat + 1)),nF 4] [1] (spec_l1Cut_c (l:=(at_ T who).w) (s:=s) (hB _ (at_mem (by have:=whoOk_in (who:=who) (by assumption);have:=ok_3 (T:=T) (by assumption);omega) (by have:=whoOk_in (who:=who) (by assumption);have:=ok_3 (T:=T) (by assumption);omega))).2 (spanOk_in (by assumption))) trivial rfl rfl rfl rfl rfl ⟨aRow rfl (rSp_flat _) rfl (inF_1 (by have:=whoOk_in (who:=who) (by assumption);have:=ok_3 (T:=T) (by assumption);omega) (by have:=whoOk_in (who:=who) (by assumption);have:=ok_3 (T:=T) (by assumption);omega)) (.inl rfl) (.inl rfl) rfl,trivial⟩ ⟨rFlatT (rSp_flat _) rfl,trivial⟩ ⟨rfl,rfl⟩ rfl rfl rfl ?_
    refine gU trivial rfl rfl rfl rfl rfl rfl rfl rfl ?_
    refine gCT (as':=[(5,one ⟨rHv (tabV 6 zo (repT T who (dropH (at_ T who) s))),46,2⟩),(6,inF zo 28 77 (repT T who (dropH (at_ T who) s)))]) (v':=.tuple #[.slice (some ⟨5,0,none⟩) (repT T who (dropH (at_ T who) s)).length 0,.bool (lockOk (setH T who (dropH (at_ T who) s)))]) 7 [nA (nm 0 (0)),nF 1,nA (nm 3 (0)),nA (nm 4 (0)),nF 5,nF 6] [0,1,3,4] (spec_l4Put_c (T:=T) (who:=who) (h:=(dropH (at_ T who) s)) hT hB l48 l48 (whoOk_in (by assumption)) (ok_3 (by assumption))) trivial rfl rfl rfl rfl rfl ⟨aTab (k:=kk) rfl rfl rfl rfl (.inl rfl) (.inl rfl) rfl rfl,aIn rfl rfl (.inl rfl) (.inl rfl) rfl,aRow rfl (rSp_flat _) rfl rfl (.inl rfl) (.inl rfl) rfl,aRow rfl (rSp_flat _) rfl rfl (.inl rfl) (.inl rfl) rfl,trivial⟩ ⟨rTab rfl rfl rfl,rIn rfl,trivial⟩ ⟨rfl,rfl⟩ rfl rfl rfl ?_
    refine gE trivial rfl rfl rfl rfl rfl rfl ?_
    refine gE trivial rfl rfl rfl rfl rfl rfl ?_
    refine gM trivial (.inr rfl) rfl rfl rfl ?_
    refine gM trivial (.inr rfl) rfl rfl rfl ?_
    refine rg_nil (fun _=>by kernel_rfl) ?_
    refine vc_ret ?_
    rw [(res_go (by assumption) (goK_4 (by assumption) (by assumption) rfl)).1,(res_go (by assumption) (goK_4 (by assumption) (by assumption) rfl)).2]
    exact ⟨_,endsT [(2,5,one ⟨rHv (tabV 3 zo (repT T who (dropH (at_ T who) s))),46,2⟩),(3,6,inF zo 28 77 (repT T who (dropH (at_ T who) s)))] (.inr rfl) (.tmp rfl rfl (.tmp rfl rfl .nil)) rfl rfl trivial ⟨asTab rfl rfl rfl,asIn rfl,trivial⟩ rfl⟩
theorem spec_LockGive_c {T:List Ho} {who:Int} {write:Bool} {s:Sp} {kk cc:Nat} (hT:T.length≤1048576) (hB:∀ h ∈ T,h.r.length≤1048576∧h.w.length≤1048576):FDoes Try.prog 32 [.slice (some ⟨0,kk,none⟩) T.length cc,.int .i64 who,.bool write,vSp s] (hp [(0,false,one ⟨hls kk (rHv (tabV 1 zo T)),46,0⟩),(1,false,inF zo 28 0 T)]) (mkF (.tuple #[.slice (some ⟨2,0,none⟩) (resT T (goK who s (decide (((lockBars T who write s).length:Int)=0))) who (giveH (at_ T who) write s)).length 0,.bool (resB T (goK who s (decide (((lockBars T who write s).length:Int)=0))) who (giveH (at_ T who) write s))]) [0,1] [] [(2,one ⟨rHv (tabV 3 zo (resT T (goK who s (decide (((lockBars T who write s).length:Int)=0))) who (giveH (at_ T who) write s))),46,2⟩),(3,inF zo 28 77 (resT T (goK who s (decide (((lockBars T who write s).length:Int)=0))) who (giveH (at_ T who) write s)))]):=by
 have hm:Try.prog.follows .mixedOrders=true:=by kernel_rfl
 have hd_:∀ x_ ∈ ([(0,false,one ⟨hls kk (rHv (tabV 1 zo T)),46,0⟩),(1,false,inF zo 28 0 T)]:List (Nat × Bool × Fam)),∀ k_ y_,x_.2.2 k_=some y_→DetB (lt 2) y_:=by
  intro x_ hx k_ y_ e
  simp only [List.mem_cons,List.not_mem_nil,or_false] at hx
  rcases hx with rfl|rfl
  ·exact det_tab (k0:=kk) rfl e
  ·exact det_in e
 refine fn_exact (u0:=2) Try.func32 rfl rfl (gets rfl rfl rfl hd_ rfl) ?_
 clear hd_
 refine vc_seq ?_
 refine vc_region hm ?_
 refine gB (u':=3) trivial rfl rfl rfl rfl rfl rfl rfl rfl ?_
 refine gM trivial (.inr rfl) rfl rfl rfl ?_
 refine gM trivial (.inr rfl) rfl rfl rfl ?_
 refine rg_nil nofun ?_
 refine vc_seq ?_
 refine vc_seq ?_
 refine vc_region hm ?_
 refine gM trivial (.inl rfl) rfl rfl rfl ?_
 refine gCT0 [nA (nm 0 (0)),nF 1] [0,1] (spec_LockOk_c (T:=T) hT hB) trivial rfl rfl rfl rfl rfl ⟨aTab (k:=kk) rfl rfl rfl rfl (.inl rfl) (.inl rfl) rfl rfl,aIn rfl rfl (.inl rfl) (.inl rfl) rfl,trivial⟩ rfl rfl rfl rfl ?_
 refine gN trivial rfl rfl rfl rfl ?_
 refine rg_nil nofun ?_
 refine cI rfl (fun c13=>?_) (fun c13=>?_)
 ·skip
  have n13:=unT c13
  refine vc_seq ?_
  refine vc_region hm ?_
  refine gR (u':=4) trivial rfl rfl rfl rfl rfl rfl rfl rfl rfl rfl rfl rfl rfl rfl ?_
  refine gM trivial (.inr rfl) rfl rfl rfl ?_
  refine gM trivial (.inr rfl) rfl rfl rfl ?_
  refine rg_nil nofun ?_
  refine vc_re (S2:=⟨5,[(8,.slice (some ⟨3,0,none⟩) 0 0),(9,.bool false)],[(0,false,one ⟨hls kk (rHv (tabV 1 zo T)),46,0⟩),(1,false,inF zo 28 0 T),(3,true,one ⟨rHv (tabV 4 zo []),46,2⟩),(4,true,inF zo 28 77 [])]⟩) (re_nil (ms:=[0,1,2,3]) (C:=4) rfl ⟨⟨⟨rfl,rfl⟩,rfl⟩,⟨⟨rfl,rfl⟩,rfl⟩,trivial⟩ ⟨ktTab (k:=kk) rfl rfl (.inr (.inl rfl)) id rfl rfl,ktIn rfl id rfl,ktFlat rfl rfl (.inr (.inl rfl)) id rfl,ktInN (n:=0) rfl (by decide) rfl,trivial⟩ rfl rfl (rig_of rfl) rfl) ?_
  refine vc_ret ?_
  rw [(res_no (by assumption)).1,(res_no (by assumption)).2]
  exact ⟨_,endsT [(2,3,one ⟨rHv (tabV 3 zo []),46,2⟩),(3,4,inF zo 28 77 [])] (.inr rfl) (.tmp rfl rfl (.tmp rfl rfl .nil)) rfl rfl trivial ⟨asTab rfl rfl rfl,asIn rfl,trivial⟩ rfl⟩
 ·skip
  have n13:=unF c13
  refine vc_skip ?_
  refine vc_seq ?_
  refine vc_seq ?_
  refine vc_region hm ?_
  refine gM trivial (.inl rfl) rfl rfl rfl ?_
  refine gC0 [] (spec_l4Who_c who) trivial rfl rfl rfl rfl (by trivial) rfl rfl rfl rfl rfl ?_
  refine gN trivial rfl rfl rfl rfl ?_
  refine gM trivial (.inl rfl) rfl rfl rfl ?_
  refine gI2 (d:=18) rfl (fun c18=>?_) (fun c18=>?_)
  ·skip
   have n18:=unT c18
   refine gO ⟨_,_,rfl,rfl,c18⟩ rfl rfl ?_
   refine gO ⟨_,_,rfl,rfl,c18⟩ rfl rfl ?_
   refine gO ⟨_,_,rfl,rfl,c18⟩ rfl rfl ?_
   refine gPT trivial rfl rfl c18 rfl rfl rfl ?_
   refine gM trivial (.inl rfl) rfl rfl rfl ?_
   refine gO ⟨_,_,rfl,rfl,rfl⟩ rfl rfl ?_
   refine gO ⟨_,_,rfl,rfl,rfl⟩ rfl rfl ?_
   refine gO ⟨_,_,rfl,rfl,rfl⟩ rfl rfl ?_
   refine gO ⟨_,_,rfl,rfl,rfl⟩ rfl rfl ?_
   refine gO ⟨_,_,rfl,rfl,rfl⟩ rfl rfl ?_
   refine gO ⟨_,_,rfl,rfl,rfl⟩ rfl rfl ?_
   refine gO ⟨_,_,rfl,rfl,rfl⟩ rfl rfl ?_
   refine gPT trivial rfl rfl rfl rfl rfl rfl ?_
   refine rg_nil nofun ?_
   refine cT rfl rfl ?_
   refine vc_seq ?_
   refine vc_region hm ?_
   refine gM trivial (.inl rfl) rfl rfl rfl ?_
   refine gCT (as':=[(3,one ⟨rHv (tabV 4 zo T),46,2⟩),(4,inF zo 28 77 T)]) (v':=.slice (some ⟨3,0,none⟩) T.length 0) 5 [nA (nm 0 (0)),nF 1,nF 3,nF 4] [0,1] (spec_l4Copy_c (T:=T) hT hB) trivial rfl rfl rfl rfl rfl ⟨aTab (k:=kk) rfl rfl rfl rfl (.inl rfl) (.inl rfl) rfl rfl,aIn rfl rfl (.inl rfl) (.inl rfl) rfl,trivial⟩ ⟨rTab rfl rfl rfl,rIn rfl,trivial⟩ ⟨rfl,rfl⟩ rfl rfl rfl ?_
   refine gM trivial (.inr rfl) rfl rfl rfl ?_
   refine gM trivial (.inr rfl) rfl rfl rfl ?_
   refine rg_nil nofun ?_
   refine vc_ret ?_
   rw [(res_stay (by assumption) (by first|exact goK_1 (by assumption)|exact goK_2 (by assumption)|exact goK_3 (give_no (by assumption) (by assumption) (by assumption) (by assumption)))).1,(res_stay (by assumption) (by first|exact goK_1 (by assumption)|exact goK_2 (by assumption)|exact goK_3 (give_no (by assumption) (by assumption) (by assumption) (by assumption)))).2]
   exact ⟨_,endsT [(2,3,one ⟨rHv (tabV 3 zo T),46,2⟩),(3,4,inF zo 28 77 T)] (.inr rfl) (.tmp rfl rfl (.tmp rfl rfl .nil)) rfl rfl trivial ⟨asTab rfl rfl rfl,asIn rfl,trivial⟩ rfl⟩
  ·skip
   have n18:=unF c18
   refine gL ⟨_,_,rfl,rfl,c18⟩ rfl rfl rfl rfl rfl rfl rfl rfl ?_
   refine gC0 [] (spec_SpanOk_c s) ⟨_,_,rfl,rfl,c18⟩ rfl rfl rfl rfl (by trivial) rfl rfl rfl rfl rfl ?_
   refine gN ⟨_,_,rfl,rfl,c18⟩ rfl rfl rfl rfl ?_
   refine gPF trivial rfl rfl c18 rfl rfl rfl ?_
   refine gM trivial (.inl rfl) rfl rfl rfl ?_
   refine gI2 (d:=23) rfl (fun c23=>?_) (fun c23=>?_)
   ·skip
    have n23:=unT c23
    refine gO ⟨_,_,rfl,rfl,c23⟩ rfl rfl ?_
    refine gO ⟨_,_,rfl,rfl,c23⟩ rfl rfl ?_
    refine gO ⟨_,_,rfl,rfl,c23⟩ rfl rfl ?_
    refine gO ⟨_,_,rfl,rfl,c23⟩ rfl rfl ?_
    refine gO ⟨_,_,rfl,rfl,c23⟩ rfl rfl ?_
    refine gO ⟨_,_,rfl,rfl,c23⟩ rfl rfl ?_
    refine gO ⟨_,_,rfl,rfl,c23⟩ rfl rfl ?_
    refine gPT trivial rfl rfl c23 rfl rfl rfl ?_
    refine rg_nil nofun ?_
    refine cT rfl rfl ?_
    refine vc_seq ?_
    refine vc_region hm ?_
    refine gM trivial (.inl rfl) rfl rfl rfl ?_
    refine gCT (as':=[(3,one ⟨rHv (tabV 4 zo T),46,2⟩),(4,inF zo 28 77 T)]) (v':=.slice (some ⟨3,0,none⟩) T.length 0) 5 [nA (nm 0 (0)),nF 1,nF 3,nF 4] [0,1] (spec_l4Copy_c (T:=T) hT hB) trivial rfl rfl rfl rfl rfl ⟨aTab (k:=kk) rfl rfl rfl rfl (.inl rfl) (.inl rfl) rfl rfl,aIn rfl rfl (.inl rfl) (.inl rfl) rfl,trivial⟩ ⟨rTab rfl rfl rfl,rIn rfl,trivial⟩ ⟨rfl,rfl⟩ rfl rfl rfl ?_
    refine gM trivial (.inr rfl) rfl rfl rfl ?_
    refine gM trivial (.inr rfl) rfl rfl rfl ?_
    refine rg_nil nofun ?_
    refine vc_ret ?_
    rw [(res_stay (by assumption) (by first|exact goK_1 (by assumption)|exact goK_2 (by assumption)|exact goK_3 (give_no (by assumption) (by assumption) (by assumption) (by assumption)))).1,(res_stay (by assumption) (by first|exact goK_1 (by assumption)|exact goK_2 (by assumption)|exact goK_3 (give_no (by assumption) (by assumption) (by assumption) (by assumption)))).2]
    exact ⟨_,endsT [(2,3,one ⟨rHv (tabV 3 zo T),46,2⟩),(3,4,inF zo 28 77 T)] (.inr rfl) (.tmp rfl rfl (.tmp rfl rfl .nil)) rfl rfl trivial ⟨asTab rfl rfl rfl,asIn rfl,trivial⟩ rfl⟩
   ·skip
    have n23:=unF c23
    refine gM ⟨_,_,rfl,rfl,c23⟩ (.inl rfl) rfl rfl rfl ?_
    refine gM ⟨_,_,rfl,rfl,c23⟩ (.inl rfl) rfl rfl rfl ?_
    refine gM ⟨_,_,rfl,rfl,c23⟩ (.inl rfl) rfl rfl rfl ?_
    refine gL ⟨_,_,rfl,rfl,c23⟩ rfl rfl rfl rfl rfl rfl rfl rfl ?_
    refine gCT (as':=[(3,one ⟨rI (barsL T who write s T.length),3,1⟩)]) (v':=.slice (some ⟨3,0,none⟩) (barsL T who write s T.length).length 0) 4 [nA (nm 0 (0)),nF 1,nF 3] [0,1] (spec_l4Bars_c (T:=T) (who:=who) (write:=write) (s:=s) hT hB) ⟨_,_,rfl,rfl,c23⟩ rfl rfl rfl rfl rfl ⟨aTab (k:=kk) rfl rfl rfl rfl (.inl rfl) (.inl rfl) rfl rfl,aIn rfl rfl (.inl rfl) (.inl rfl) rfl,trivial⟩ ⟨rFlatT (rI_flat _) rfl,trivial⟩ ⟨rfl,rfl⟩ rfl rfl rfl ?_
    refine gK ⟨_,_,rfl,rfl,c23⟩ rfl rfl rfl rfl rfl rfl rI_nil ?_
    refine gI ⟨_,_,rfl,rfl,c23⟩ rfl rfl rfl rfl rfl rfl ?_
    refine gPF trivial rfl rfl c23 rfl rfl rfl ?_
    refine rg_nil nofun ?_
    refine cI rfl (fun c31=>?_) (fun c31=>?_)
    ·skip
     have p31:=of_decide_eq_true c31
     refine vc_seq ?_
     refine vc_region hm ?_
     refine gM trivial (.inl rfl) rfl rfl rfl ?_
     refine gCT (as':=[(4,one ⟨rHv (tabV 5 zo T),46,2⟩),(5,inF zo 28 77 T)]) (v':=.slice (some ⟨4,0,none⟩) T.length 0) 6 [nA (nm 0 (0)),nF 1,nF 4,nF 5] [0,1] (spec_l4Copy_c (T:=T) hT hB) trivial rfl rfl rfl rfl rfl ⟨aTab (k:=kk) rfl rfl rfl rfl (.inl rfl) (.inl rfl) rfl rfl,aIn rfl rfl (.inl rfl) (.inl rfl) rfl,trivial⟩ ⟨rTab rfl rfl rfl,rIn rfl,trivial⟩ ⟨rfl,rfl⟩ rfl rfl rfl ?_
     refine gM trivial (.inr rfl) rfl rfl rfl ?_
     refine gM trivial (.inr rfl) rfl rfl rfl ?_
     refine rg_nil nofun ?_
     refine vc_ret ?_
     rw [(res_stay (by assumption) (by first|exact goK_1 (by assumption)|exact goK_2 (by assumption)|exact goK_3 (give_no (by assumption) (by assumption) (by assumption) (by assumption)))).1,(res_stay (by assumption) (by first|exact goK_1 (by assumption)|exact goK_2 (by assumption)|exact goK_3 (give_no (by assumption) (by assumption) (by assumption) (by assumption)))).2]
     exact ⟨_,endsT [(2,4,one ⟨rHv (tabV 3 zo T),46,2⟩),(3,5,inF zo 28 77 T)] (.inr rfl) (.tmp rfl rfl (.tmp rfl rfl .nil)) rfl rfl trivial ⟨asTab rfl rfl rfl,asIn rfl,trivial⟩ rfl⟩
    ·skip
     have p31:=of_decide_eq_false c31
     refine vc_skip ?_
     refine vc_seq ?_
     refine vc_region hm ?_
     refine gM trivial (.inl rfl) rfl rfl rfl ?_
     refine gM trivial (.inl rfl) rfl rfl rfl ?_
     refine gX trivial rfl rfl rfl rfl rfl rfl rfl rfl (by have:=whoOk_in (who:=who) (by assumption);have:=ok_3 (T:=T) (by assumption);omega) (by have:=whoOk_in (who:=who) (by assumption);have:=ok_3 (T:=T) (by assumption);omega) (fun h=>hls_ne (tabV_ne h)) ?_
     refine gL trivial rfl rfl rfl rfl rfl rfl rfl (aHk (by have:=whoOk_in (who:=who) (by assumption);have:=ok_3 (T:=T) (by assumption);omega) (by have:=whoOk_in (who:=who) (by assumption);have:=ok_3 (T:=T) (by assumption);omega)) ?_
     refine gZ (u':=5) trivial rfl rfl rfl rfl rfl rfl rfl rfl ?_
     refine gT trivial rfl rfl rfl rfl rfl rfl rfl rfl rfl rfl (Nat.le_of_ble_eq_true rfl) rfl ?_
     refine rg_nil nofun ?_
     refine vc_seq ?_
     refine vc_seq ?_
     refine vc_region hm ?_
     refine gM trivial (.inl rfl) rfl rfl rfl ?_
     refine rg_nil nofun ?_
     refine cI rfl (fun c38=>?_) (fun c38=>?_)
     ·skip
      refine vc_seq ?_
      refine vc_region hm ?_
      refine gM trivial (.inl rfl) rfl rfl rfl ?_
      refine gM trivial (.inl rfl) rfl rfl rfl ?_
      refine gF trivial rfl rfl rfl rfl rfl ?_
      refine gL trivial rfl rfl rfl rfl rfl rfl rfl rfl ?_
      refine gL trivial rfl rfl rfl rfl rfl rfl rfl rfl ?_
      refine gCT (as':=[(5,one ⟨rSp (cutL (at_ T who).r s),28,2⟩)]) (v':=.slice (some ⟨5,0,none⟩) (cutL (at_ T who).r s).length 0) 6 [nA (nm 1 (2 * (who).toNat)),nF 5] [1] (spec_l1Cut_c (l:=(at_ T who).r) (s:=s) (hB _ (at_mem (by have:=whoOk_in (who:=who) (by assumption);have:=ok_3 (T:=T) (by assumption);omega) (by have:=whoOk_in (who:=who) (by assumption);have:=ok_3 (T:=T) (by assumption);omega))).1 (spanOk_in (by assumption))) trivial rfl rfl rfl rfl rfl ⟨aRow rfl (rSp_flat _) rfl (inF_0 (by have:=whoOk_in (who:=who) (by assumption);have:=ok_3 (T:=T) (by assumption);omega) (by have:=whoOk_in (who:=who) (by assumption);have:=ok_3 (T:=T) (by assumption);omega)) (.inl rfl) (.inl rfl) rfl,trivial⟩ ⟨rFlatT (rSp_flat _) rfl,trivial⟩ ⟨rfl,rfl⟩ rfl rfl rfl ?_
      refine gF trivial rfl rfl rfl rfl rfl ?_
      refine gL trivial rfl rfl rfl rfl rfl rfl rfl rfl ?_
      refine gL trivial rfl rfl rfl rfl rfl rfl rfl rfl ?_
      refine gCT (as':=[(6,one ⟨rSp (addL (at_ T who).w s),28,2⟩)]) (v':=.slice (some ⟨6,0,none⟩) (addL (at_ T who).w s).length 0) 7 [nA (nm 1 (2 * (who).toNat + 1)),nF 6] [1] (spec_l1Add_c (l:=(at_ T who).w) (s:=s) (hB _ (at_mem (by have:=whoOk_in (who:=who) (by assumption);have:=ok_3 (T:=T) (by assumption);omega) (by have:=whoOk_in (who:=who) (by assumption);have:=ok_3 (T:=T) (by assumption);omega))).2 (spanOk_in (by assumption))) trivial rfl rfl rfl rfl rfl ⟨aRow rfl (rSp_flat _) rfl (inF_1 (by have:=whoOk_in (who:=who) (by assumption);have:=ok_3 (T:=T) (by assumption);omega) (by have:=whoOk_in (who:=who) (by assumption);have:=ok_3 (T:=T) (by assumption);omega)) (.inl rfl) (.inl rfl) rfl,trivial⟩ ⟨rFlatT (rSp_flat _) rfl,trivial⟩ ⟨rfl,rfl⟩ rfl rfl rfl ?_
      refine gU trivial rfl rfl rfl rfl rfl rfl rfl rfl ?_
      refine gCT (as':=[(7,one ⟨rHv (tabV 8 zo (repT T who ⟨cutL (at_ T who).r s,addL (at_ T who).w s⟩)),46,2⟩),(8,inF zo 28 77 (repT T who ⟨cutL (at_ T who).r s,addL (at_ T who).w s⟩))]) (v':=.tuple #[.slice (some ⟨7,0,none⟩) (repT T who ⟨cutL (at_ T who).r s,addL (at_ T who).w s⟩).length 0,.bool (lockOk (setH T who ⟨cutL (at_ T who).r s,addL (at_ T who).w s⟩))]) 9 [nA (nm 0 (0)),nF 1,nA (nm 5 (0)),nA (nm 6 (0)),nF 7,nF 8] [0,1,5,6] (spec_l4Put_c (T:=T) (who:=who) (h:=⟨cutL (at_ T who).r s,addL (at_ T who).w s⟩) hT hB l48 l48 (whoOk_in (by assumption)) (ok_3 (by assumption))) trivial rfl rfl rfl rfl rfl ⟨aTab (k:=kk) rfl rfl rfl rfl (.inl rfl) (.inl rfl) rfl rfl,aIn rfl rfl (.inl rfl) (.inl rfl) rfl,aRow rfl (rSp_flat _) rfl rfl (.inl rfl) (.inl rfl) rfl,aRow rfl (rSp_flat _) rfl rfl (.inl rfl) (.inl rfl) rfl,trivial⟩ ⟨rTab rfl rfl rfl,rIn rfl,trivial⟩ ⟨rfl,rfl⟩ rfl rfl rfl ?_
      refine gE trivial rfl rfl rfl rfl rfl rfl ?_
      refine gE trivial rfl rfl rfl rfl rfl rfl ?_
      refine gM trivial (.inr rfl) rfl rfl rfl ?_
      refine gM trivial (.inr rfl) rfl rfl rfl ?_
      refine rg_nil (fun _=>by kernel_rfl) ?_
      refine vc_ret ?_
      rw [giveH_T c38]
      rw [(res_go (by assumption) (goK_4 (by assumption) (by assumption) (give_yes (by assumption) (by assumption) (by assumption) (by assumption)))).1,(res_go (by assumption) (goK_4 (by assumption) (by assumption) (give_yes (by assumption) (by assumption) (by assumption) (by assumption)))).2]
      exact ⟨_,endsT [(2,7,one ⟨rHv (tabV 3 zo (repT T who ⟨cutL (at_ T who).r s,addL (at_ T who).w s⟩)),46,2⟩),(3,8,inF zo 28 77 (repT T who ⟨cutL (at_ T who).r s,addL (at_ T who).w s⟩))] (.inr rfl) (.tmp rfl rfl (.tmp rfl rfl .nil)) rfl rfl trivial ⟨asTab rfl rfl rfl,asIn rfl,trivial⟩ rfl⟩
     ·skip
      refine vc_skip ?_
      refine vc_seq ?_
      refine vc_region hm ?_
      refine gM trivial (.inl rfl) rfl rfl rfl ?_
      refine gM trivial (.inl rfl) rfl rfl rfl ?_
      refine gF trivial rfl rfl rfl rfl rfl ?_
      refine gL trivial rfl rfl rfl rfl rfl rfl rfl rfl ?_
      refine gL trivial rfl rfl rfl rfl rfl rfl rfl rfl ?_
      refine gCT (as':=[(5,one ⟨rSp (addL (at_ T who).r s),28,2⟩)]) (v':=.slice (some ⟨5,0,none⟩) (addL (at_ T who).r s).length 0) 6 [nA (nm 1 (2 * (who).toNat)),nF 5] [1] (spec_l1Add_c (l:=(at_ T who).r) (s:=s) (hB _ (at_mem (by have:=whoOk_in (who:=who) (by assumption);have:=ok_3 (T:=T) (by assumption);omega) (by have:=whoOk_in (who:=who) (by assumption);have:=ok_3 (T:=T) (by assumption);omega))).1 (spanOk_in (by assumption))) trivial rfl rfl rfl rfl rfl ⟨aRow rfl (rSp_flat _) rfl (inF_0 (by have:=whoOk_in (who:=who) (by assumption);have:=ok_3 (T:=T) (by assumption);omega) (by have:=whoOk_in (who:=who) (by assumption);have:=ok_3 (T:=T) (by assumption);omega)) (.inl rfl) (.inl rfl) rfl,trivial⟩ ⟨rFlatT (rSp_flat _) rfl,trivial⟩ ⟨rfl,rfl⟩ rfl rfl rfl ?_
      refine gF trivial rfl rfl rfl rfl rfl ?_
      refine gL trivial rfl rfl rfl rfl rfl rfl rfl rfl ?_
      refine gCT (as':=[(6,one ⟨rSp (withoutL (addL (at_ T who).r s) (at_ T who).w),28,2⟩)]) (v':=.slice (some ⟨6,0,none⟩) (withoutL (addL (at_ T who).r s) (at_ T who).w).length 0) 7 [nA (nm 5 (0)),nA (nm 1 (2 * (who).toNat + 1)),nF 6] [5,1] (spec_l4Without_c (a:=addL (at_ T who).r s) (b:=(at_ T who).w) l48 (hB _ (at_mem (by have:=whoOk_in (who:=who) (by assumption);have:=ok_3 (T:=T) (by assumption);omega) (by have:=whoOk_in (who:=who) (by assumption);have:=ok_3 (T:=T) (by assumption);omega))).2 (okW (by assumption) (by assumption)).2) trivial rfl rfl rfl rfl rfl ⟨aRow rfl (rSp_flat _) rfl rfl (.inl rfl) (.inl rfl) rfl,aRow rfl (rSp_flat _) rfl (inF_1 (by have:=whoOk_in (who:=who) (by assumption);have:=ok_3 (T:=T) (by assumption);omega) (by have:=whoOk_in (who:=who) (by assumption);have:=ok_3 (T:=T) (by assumption);omega)) (.inl rfl) (.inl rfl) rfl,trivial⟩ ⟨rFlatT (rSp_flat _) rfl,trivial⟩ ⟨rfl,rfl⟩ rfl rfl rfl ?_
      refine gF trivial rfl rfl rfl rfl rfl ?_
      refine gL trivial rfl rfl rfl rfl rfl rfl rfl rfl ?_
      refine gU trivial rfl rfl rfl rfl rfl rfl rfl rfl ?_
      refine gCT (as':=[(7,one ⟨rHv (tabV 8 zo (repT T who ⟨withoutL (addL (at_ T who).r s) (at_ T who).w,(at_ T who).w⟩)),46,2⟩),(8,inF zo 28 77 (repT T who ⟨withoutL (addL (at_ T who).r s) (at_ T who).w,(at_ T who).w⟩))]) (v':=.tuple #[.slice (some ⟨7,0,none⟩) (repT T who ⟨withoutL (addL (at_ T who).r s) (at_ T who).w,(at_ T who).w⟩).length 0,.bool (lockOk (setH T who ⟨withoutL (addL (at_ T who).r s) (at_ T who).w,(at_ T who).w⟩))]) 9 [nA (nm 0 (0)),nF 1,nA (nm 6 (0)),nA (nm 1 (2 * (who).toNat + 1)),nF 7,nF 8] [0,1,6] (spec_l4Put_c (T:=T) (who:=who) (h:=⟨withoutL (addL (at_ T who).r s) (at_ T who).w,(at_ T who).w⟩) hT hB wo_len (hB _ (at_mem (by have:=whoOk_in (who:=who) (by assumption);have:=ok_3 (T:=T) (by assumption);omega) (by have:=whoOk_in (who:=who) (by assumption);have:=ok_3 (T:=T) (by assumption);omega))).2 (whoOk_in (by assumption)) (ok_3 (by assumption))) trivial rfl rfl rfl rfl rfl ⟨aTab (k:=kk) rfl rfl rfl rfl (.inl rfl) (.inl rfl) rfl rfl,aIn rfl rfl (.inl rfl) (.inl rfl) rfl,aRow rfl (rSp_flat _) rfl rfl (.inl rfl) (.inl rfl) rfl,aRow rfl (rSp_flat _) rfl (inF_1 (by have:=whoOk_in (who:=who) (by assumption);have:=ok_3 (T:=T) (by assumption);omega) (by have:=whoOk_in (who:=who) (by assumption);have:=ok_3 (T:=T) (by assumption);omega)) (.inl rfl) (.inl rfl) rfl,trivial⟩ ⟨rTab rfl rfl rfl,rIn rfl,trivial⟩ ⟨rfl,rfl⟩ rfl rfl rfl ?_
      refine gE trivial rfl rfl rfl rfl rfl rfl ?_
      refine gE trivial rfl rfl rfl rfl rfl rfl ?_
      refine gM trivial (.inr rfl) rfl rfl rfl ?_
      refine gM trivial (.inr rfl) rfl rfl rfl ?_
      refine rg_nil (fun _=>by kernel_rfl) ?_
      refine vc_ret ?_
      rw [giveH_F c38]
      rw [(res_go (by assumption) (goK_4 (by assumption) (by assumption) (give_yes (by assumption) (by assumption) (by assumption) (by assumption)))).1,(res_go (by assumption) (goK_4 (by assumption) (by assumption) (give_yes (by assumption) (by assumption) (by assumption) (by assumption)))).2]
      exact ⟨_,endsT [(2,7,one ⟨rHv (tabV 3 zo (repT T who ⟨withoutL (addL (at_ T who).r s) (at_ T who).w,(at_ T who).w⟩)),46,2⟩),(3,8,inF zo 28 77 (repT T who ⟨withoutL (addL (at_ T who).r s) (at_ T who).w,(at_ T who).w⟩))] (.inr rfl) (.tmp rfl rfl (.tmp rfl rfl .nil)) rfl rfl trivial ⟨asTab rfl rfl rfl,asIn rfl,trivial⟩ rfl⟩
theorem spec_LockDown_c {T:List Ho} {who:Int} {s:Sp} {kk cc:Nat} (hT:T.length≤1048576) (hB:∀ h ∈ T,h.r.length≤1048576∧h.w.length≤1048576):FDoes Try.prog 41 [.slice (some ⟨0,kk,none⟩) T.length cc,.int .i64 who,vSp s] (hp [(0,false,one ⟨hls kk (rHv (tabV 1 zo T)),46,0⟩),(1,false,inF zo 28 0 T)]) (mkF (.tuple #[.slice (some ⟨2,0,none⟩) (resT T (goK who s true) who (downH (at_ T who) s)).length 0,.bool (resB T (goK who s true) who (downH (at_ T who) s))]) [0,1] [] [(2,one ⟨rHv (tabV 3 zo (resT T (goK who s true) who (downH (at_ T who) s))),46,2⟩),(3,inF zo 28 77 (resT T (goK who s true) who (downH (at_ T who) s)))]):=by
 have hm:Try.prog.follows .mixedOrders=true:=by kernel_rfl
 have hd_:∀ x_ ∈ ([(0,false,one ⟨hls kk (rHv (tabV 1 zo T)),46,0⟩),(1,false,inF zo 28 0 T)]:List (Nat × Bool × Fam)),∀ k_ y_,x_.2.2 k_=some y_→DetB (lt 2) y_:=by
  intro x_ hx k_ y_ e
  simp only [List.mem_cons,List.not_mem_nil,or_false] at hx
  rcases hx with rfl|rfl
  ·exact det_tab (k0:=kk) rfl e
  ·exact det_in e
 refine fn_exact (u0:=2) Try.func41 rfl rfl (gets rfl rfl rfl hd_ rfl) ?_
 clear hd_
 refine vc_seq ?_
 refine vc_region hm ?_
 refine gB (u':=3) trivial rfl rfl rfl rfl rfl rfl rfl rfl ?_
 refine gM trivial (.inr rfl) rfl rfl rfl ?_
 refine gM trivial (.inr rfl) rfl rfl rfl ?_
 refine rg_nil nofun ?_
 refine vc_seq ?_
 refine vc_seq ?_
 refine vc_region hm ?_
 refine gM trivial (.inl rfl) rfl rfl rfl ?_
 refine gCT0 [nA (nm 0 (0)),nF 1] [0,1] (spec_LockOk_c (T:=T) hT hB) trivial rfl rfl rfl rfl rfl ⟨aTab (k:=kk) rfl rfl rfl rfl (.inl rfl) (.inl rfl) rfl rfl,aIn rfl rfl (.inl rfl) (.inl rfl) rfl,trivial⟩ rfl rfl rfl rfl ?_
 refine gN trivial rfl rfl rfl rfl ?_
 refine rg_nil nofun ?_
 refine cI rfl (fun c13=>?_) (fun c13=>?_)
 ·skip
  have n13:=unT c13
  refine vc_seq ?_
  refine vc_region hm ?_
  refine gR (u':=4) trivial rfl rfl rfl rfl rfl rfl rfl rfl rfl rfl rfl rfl rfl rfl ?_
  refine gM trivial (.inr rfl) rfl rfl rfl ?_
  refine gM trivial (.inr rfl) rfl rfl rfl ?_
  refine rg_nil nofun ?_
  refine vc_re (S2:=⟨5,[(6,.slice (some ⟨3,0,none⟩) 0 0),(7,.bool false)],[(0,false,one ⟨hls kk (rHv (tabV 1 zo T)),46,0⟩),(1,false,inF zo 28 0 T),(3,true,one ⟨rHv (tabV 4 zo []),46,2⟩),(4,true,inF zo 28 77 [])]⟩) (re_nil (ms:=[0,1,2,3]) (C:=4) rfl ⟨⟨⟨rfl,rfl⟩,rfl⟩,⟨⟨rfl,rfl⟩,rfl⟩,trivial⟩ ⟨ktTab (k:=kk) rfl rfl (.inr (.inl rfl)) id rfl rfl,ktIn rfl id rfl,ktFlat rfl rfl (.inr (.inl rfl)) id rfl,ktInN (n:=0) rfl (by decide) rfl,trivial⟩ rfl rfl (rig_of rfl) rfl) ?_
  refine vc_ret ?_
  rw [(res_no (by assumption)).1,(res_no (by assumption)).2]
  exact ⟨_,endsT [(2,3,one ⟨rHv (tabV 3 zo []),46,2⟩),(3,4,inF zo 28 77 [])] (.inr rfl) (.tmp rfl rfl (.tmp rfl rfl .nil)) rfl rfl trivial ⟨asTab rfl rfl rfl,asIn rfl,trivial⟩ rfl⟩
 ·skip
  have n13:=unF c13
  refine vc_skip ?_
  refine vc_seq ?_
  refine vc_seq ?_
  refine vc_region hm ?_
  refine gM trivial (.inl rfl) rfl rfl rfl ?_
  refine gC0 [] (spec_l4Who_c who) trivial rfl rfl rfl rfl (by trivial) rfl rfl rfl rfl rfl ?_
  refine gN trivial rfl rfl rfl rfl ?_
  refine gM trivial (.inl rfl) rfl rfl rfl ?_
  refine gI2 (d:=18) rfl (fun c18=>?_) (fun c18=>?_)
  ·skip
   have n18:=unT c18
   refine gO ⟨_,_,rfl,rfl,c18⟩ rfl rfl ?_
   refine gO ⟨_,_,rfl,rfl,c18⟩ rfl rfl ?_
   refine gO ⟨_,_,rfl,rfl,c18⟩ rfl rfl ?_
   refine gPT trivial rfl rfl c18 rfl rfl rfl ?_
   refine rg_nil nofun ?_
   refine cT rfl rfl ?_
   refine vc_seq ?_
   refine vc_region hm ?_
   refine gM trivial (.inl rfl) rfl rfl rfl ?_
   refine gCT (as':=[(3,one ⟨rHv (tabV 4 zo T),46,2⟩),(4,inF zo 28 77 T)]) (v':=.slice (some ⟨3,0,none⟩) T.length 0) 5 [nA (nm 0 (0)),nF 1,nF 3,nF 4] [0,1] (spec_l4Copy_c (T:=T) hT hB) trivial rfl rfl rfl rfl rfl ⟨aTab (k:=kk) rfl rfl rfl rfl (.inl rfl) (.inl rfl) rfl rfl,aIn rfl rfl (.inl rfl) (.inl rfl) rfl,trivial⟩ ⟨rTab rfl rfl rfl,rIn rfl,trivial⟩ ⟨rfl,rfl⟩ rfl rfl rfl ?_
   refine gM trivial (.inr rfl) rfl rfl rfl ?_
   refine gM trivial (.inr rfl) rfl rfl rfl ?_
   refine rg_nil nofun ?_
   refine vc_ret ?_
   rw [(res_stay (by assumption) (by first|exact goK_1 (by assumption)|exact goK_2 (by assumption)|exact goK_3 (by assumption))).1,(res_stay (by assumption) (by first|exact goK_1 (by assumption)|exact goK_2 (by assumption)|exact goK_3 (by assumption))).2]
   exact ⟨_,endsT [(2,3,one ⟨rHv (tabV 3 zo T),46,2⟩),(3,4,inF zo 28 77 T)] (.inr rfl) (.tmp rfl rfl (.tmp rfl rfl .nil)) rfl rfl trivial ⟨asTab rfl rfl rfl,asIn rfl,trivial⟩ rfl⟩
  ·skip
   have n18:=unF c18
   refine gL ⟨_,_,rfl,rfl,c18⟩ rfl rfl rfl rfl rfl rfl rfl rfl ?_
   refine gC0 [] (spec_SpanOk_c s) ⟨_,_,rfl,rfl,c18⟩ rfl rfl rfl rfl (by trivial) rfl rfl rfl rfl rfl ?_
   refine gN ⟨_,_,rfl,rfl,c18⟩ rfl rfl rfl rfl ?_
   refine gPF trivial rfl rfl c18 rfl rfl rfl ?_
   refine rg_nil nofun ?_
   refine cI rfl (fun c22=>?_) (fun c22=>?_)
   ·skip
    have n22:=unT c22
    refine vc_seq ?_
    refine vc_region hm ?_
    refine gM trivial (.inl rfl) rfl rfl rfl ?_
    refine gCT (as':=[(3,one ⟨rHv (tabV 4 zo T),46,2⟩),(4,inF zo 28 77 T)]) (v':=.slice (some ⟨3,0,none⟩) T.length 0) 5 [nA (nm 0 (0)),nF 1,nF 3,nF 4] [0,1] (spec_l4Copy_c (T:=T) hT hB) trivial rfl rfl rfl rfl rfl ⟨aTab (k:=kk) rfl rfl rfl rfl (.inl rfl) (.inl rfl) rfl rfl,aIn rfl rfl (.inl rfl) (.inl rfl) rfl,trivial⟩ ⟨rTab rfl rfl rfl,rIn rfl,trivial⟩ ⟨rfl,rfl⟩ rfl rfl rfl ?_
    refine gM trivial (.inr rfl) rfl rfl rfl ?_
    refine gM trivial (.inr rfl) rfl rfl rfl ?_
    refine rg_nil nofun ?_
    refine vc_ret ?_
    rw [(res_stay (by assumption) (by first|exact goK_1 (by assumption)|exact goK_2 (by assumption)|exact goK_3 (by assumption))).1,(res_stay (by assumption) (by first|exact goK_1 (by assumption)|exact goK_2 (by assumption)|exact goK_3 (by assumption))).2]
    exact ⟨_,endsT [(2,3,one ⟨rHv (tabV 3 zo T),46,2⟩),(3,4,inF zo 28 77 T)] (.inr rfl) (.tmp rfl rfl (.tmp rfl rfl .nil)) rfl rfl trivial ⟨asTab rfl rfl rfl,asIn rfl,trivial⟩ rfl⟩
   ·skip
    have n22:=unF c22
    refine vc_skip ?_
    refine vc_seq ?_
    refine vc_region hm ?_
    refine gM trivial (.inl rfl) rfl rfl rfl ?_
    refine gM trivial (.inl rfl) rfl rfl rfl ?_
    refine gX trivial rfl rfl rfl rfl rfl rfl rfl rfl (by have:=whoOk_in (who:=who) (by assumption);have:=ok_3 (T:=T) (by assumption);omega) (by have:=whoOk_in (who:=who) (by assumption);have:=ok_3 (T:=T) (by assumption);omega) (fun h=>hls_ne (tabV_ne h)) ?_
    refine gL trivial rfl rfl rfl rfl rfl rfl rfl (aHk (by have:=whoOk_in (who:=who) (by assumption);have:=ok_3 (T:=T) (by assumption);omega) (by have:=whoOk_in (who:=who) (by assumption);have:=ok_3 (T:=T) (by assumption);omega)) ?_
    refine gZ (u':=4) trivial rfl rfl rfl rfl rfl rfl rfl rfl ?_
    refine gT trivial rfl rfl rfl rfl rfl rfl rfl rfl rfl rfl (Nat.le_of_ble_eq_true rfl) rfl ?_
    refine rg_nil nofun ?_
    refine vc_seq ?_
    refine vc_region hm ?_
    refine gF trivial rfl rfl rfl rfl rfl ?_
    refine gL trivial rfl rfl rfl rfl rfl rfl rfl rfl ?_
    refine gCT (as':=[(4,one ⟨plL (fun x=>l1In (at_ T who).r (x:Int)),4,1⟩)]) (v':=.slice (some ⟨4,0,none⟩) 48 0) 5 [nA (nm 1 (2 * (who).toNat)),nF 4] [1] (spec_l1Places_c (l:=(at_ T who).r) (hB _ (at_mem (by have:=whoOk_in (who:=who) (by assumption);have:=ok_3 (T:=T) (by assumption);omega) (by have:=whoOk_in (who:=who) (by assumption);have:=ok_3 (T:=T) (by assumption);omega))).1) trivial rfl rfl rfl rfl rfl ⟨aRow rfl (rSp_flat _) rfl (inF_0 (by have:=whoOk_in (who:=who) (by assumption);have:=ok_3 (T:=T) (by assumption);omega) (by have:=whoOk_in (who:=who) (by assumption);have:=ok_3 (T:=T) (by assumption);omega)) (.inl rfl) (.inl rfl) rfl,trivial⟩ ⟨rFlatT (plL_flat _) rfl,trivial⟩ ⟨rfl,rfl⟩ rfl rfl rfl ?_
    refine gM trivial (.inr rfl) rfl rfl rfl ?_
    refine rg_nil nofun ?_
    refine vc_seq ?_
    refine vc_seq ?_
    refine vc_region hm ?_
    refine gF trivial rfl rfl rfl rfl rfl ?_
    refine gL trivial rfl rfl rfl rfl rfl rfl rfl rfl ?_
    refine gM trivial (.inr rfl) rfl rfl rfl ?_
    refine rg_nil nofun ?_
    refine vc_block ?_
    refine vc_loopT (fun n_ S_=>∃ (i:Int),s.lo≤i∧i≤s.hi∧n_=(s.hi - i).toNat∧S_=⟨5,[(0,.slice (some ⟨0,kk,none⟩) T.length cc),(1,.int .i64 who),(5,.pointer (some ⟨2,0,none⟩)),(8,.pointer (some ⟨3,0,none⟩)),(9,.slice (some ⟨4,0,none⟩) 48 0),(10,.int .i64 i)],[(0,false,one ⟨hls kk (rHv (tabV 1 zo T)),46,0⟩),(1,false,inF zo 28 0 T),(2,true,one ⟨[.int .i64 s.lo,.int .i64 s.hi],28,2⟩),(3,true,one ⟨[.slice (some ⟨nm 1 (2 * (who).toNat),0,none⟩) (at_ T who).r.length 0,.slice (some ⟨nm 1 (2 * (who).toNat + 1),0,none⟩) (at_ T who).w.length 0],46,2⟩),(4,true,one ⟨plL (dnP (at_ T who) s i),4,1⟩)]⟩) ⟨s.lo,Int.le_refl _,(by have:=spanOk_in (s:=s) (by assumption);omega),rfl,rfl⟩ (re_nil (ms:=[0,1,2,3,4]) (C:=999) rfl ⟨⟨⟨rfl,rfl⟩,rfl⟩,⟨⟨rfl,rfl⟩,rfl⟩,⟨⟨rfl,rfl⟩,rfl⟩,⟨⟨rfl,rfl⟩,rfl⟩,⟨⟨rfl,rfl⟩,rfl⟩,⟨⟨rfl,rfl⟩,rfl⟩,trivial⟩ ⟨ktTab (k:=kk) rfl rfl (.inr (.inl rfl)) id rfl rfl,ktIn rfl id rfl,ktFlat rfl rfl (.inr (.inl rfl)) id rfl,ktHv rfl rfl id rfl rfl,ktFlat (plL_flat _) (eqH dn_0) (.inr (.inl rfl)) id rfl,trivial⟩ rfl rfl (rig_of rfl) rfl) ?_
    rintro n_ S_ ⟨i,hi,hj,rfl,rfl⟩
    refine vc_seq ?_
    refine vc_seq ?_
    refine vc_region hm ?_
    refine gM trivial (.inl rfl) rfl rfl rfl ?_
    refine gF trivial rfl rfl rfl rfl rfl ?_
    refine gL trivial rfl rfl rfl rfl rfl rfl rfl rfl ?_
    refine gI trivial rfl rfl rfl rfl rfl rfl ?_
    refine rg_nil nofun ?_
    refine cI rfl (fun c37=>?_) (fun c37=>?_)
    ·skip
     have p37:=of_decide_eq_true c37
     refine vc_skip ?_
     refine vc_seq ?_
     refine vc_block ?_
     refine vc_region hm ?_
     refine gM trivial (.inl rfl) rfl rfl rfl ?_
     refine gM trivial (.inl rfl) rfl rfl rfl ?_
     refine gM trivial (.inl rfl) rfl rfl rfl ?_
     refine gM trivial (.inl rfl) rfl rfl rfl ?_
     refine gX trivial rfl rfl rfl rfl rfl rfl rfl rfl (by have:=spanOk_in (s:=s) (by assumption);omega) (by have:=spanOk_in (s:=s) (by assumption);omega) (fun _=>plL_ne) ?_
     refine gL trivial rfl rfl rfl rfl rfl rfl rfl (lPl (by have:=spanOk_in (s:=s) (by assumption);omega) (by have:=spanOk_in (s:=s) (by assumption);omega)) ?_
     refine gM trivial (.inl rfl) rfl rfl rfl ?_
     refine gI2 (d:=46) rfl (fun c46=>?_) (fun c46=>?_)
     ·skip
      refine gO ⟨_,_,rfl,rfl,c46⟩ rfl rfl ?_
      refine gO ⟨_,_,rfl,rfl,c46⟩ rfl rfl ?_
      refine gO ⟨_,_,rfl,rfl,c46⟩ rfl rfl ?_
      refine gO ⟨_,_,rfl,rfl,c46⟩ rfl rfl ?_
      refine gPT trivial rfl rfl c46 rfl rfl rfl ?_
      refine gX trivial rfl rfl rfl rfl rfl rfl rfl rfl (by have:=spanOk_in (s:=s) (by assumption);omega) (by have:=spanOk_in (s:=s) (by assumption);omega) (fun _=>plL_ne) ?_
      refine gT trivial rfl rfl rfl rfl rfl rfl rfl rfl rfl rfl (kPl (by have:=spanOk_in (s:=s) (by assumption);omega) (by have:=spanOk_in (s:=s) (by assumption);omega)) (sPl (by have:=spanOk_in (s:=s) (by assumption);omega) (by have:=spanOk_in (s:=s) (by assumption);omega)) ?_
      refine rg_nil nofun ?_
      refine vc_region hm ?_
      refine gM trivial (.inl rfl) rfl rfl rfl ?_
      refine gA trivial rfl rfl rfl rfl rfl rfl (by have:=spanOk_in (s:=s) (by assumption);omega) ?_
      refine gM trivial (.inr rfl) rfl rfl rfl ?_
      refine rg_nil nofun ?_
      exact lp_nextT ⟨i + 1,(by omega),(by omega),rfl,rfl⟩ (by omega) (re_nil (ms:=[0,1,2,3,4]) (C:=999) rfl ⟨⟨⟨rfl,rfl⟩,rfl⟩,⟨⟨rfl,rfl⟩,rfl⟩,⟨⟨rfl,rfl⟩,rfl⟩,⟨⟨rfl,rfl⟩,rfl⟩,⟨⟨rfl,rfl⟩,rfl⟩,⟨⟨rfl,rfl⟩,rfl⟩,trivial⟩ ⟨ktTab (k:=kk) rfl rfl (.inr (.inl rfl)) id rfl rfl,ktIn rfl id rfl,ktFlat rfl rfl (.inr (.inl rfl)) id rfl,ktHv rfl rfl id rfl rfl,ktFlat (plL_flat _) (eqH (dn_step (by have:=spanOk_in (s:=s) (by assumption);omega) hi (by first|exact dn_T (by assumption)|exact dn_F (by assumption)))) (.inr (.inl rfl)) id rfl,trivial⟩ rfl rfl (rig_of rfl) rfl)
     ·skip
      refine gF ⟨_,_,rfl,rfl,c46⟩ rfl rfl rfl rfl rfl ?_
      refine gL ⟨_,_,rfl,rfl,c46⟩ rfl rfl rfl rfl rfl rfl rfl rfl ?_
      refine gM ⟨_,_,rfl,rfl,c46⟩ (.inl rfl) rfl rfl rfl ?_
      refine gCT0 [nA (nm 1 (2 * (who).toNat + 1))] [1] (spec_l1In_c (l:=(at_ T who).w) (a:=i) (hB _ (at_mem (by have:=whoOk_in (who:=who) (by assumption);have:=ok_3 (T:=T) (by assumption);omega) (by have:=whoOk_in (who:=who) (by assumption);have:=ok_3 (T:=T) (by assumption);omega))).2) ⟨_,_,rfl,rfl,c46⟩ rfl rfl rfl rfl rfl ⟨aRow rfl (rSp_flat _) rfl (inF_1 (by have:=whoOk_in (who:=who) (by assumption);have:=ok_3 (T:=T) (by assumption);omega) (by have:=whoOk_in (who:=who) (by assumption);have:=ok_3 (T:=T) (by assumption);omega)) (.inl rfl) (.inl rfl) rfl,trivial⟩ rfl rfl rfl rfl ?_
      refine gPF trivial rfl rfl c46 rfl rfl rfl ?_
      refine gX trivial rfl rfl rfl rfl rfl rfl rfl rfl (by have:=spanOk_in (s:=s) (by assumption);omega) (by have:=spanOk_in (s:=s) (by assumption);omega) (fun _=>plL_ne) ?_
      refine gT trivial rfl rfl rfl rfl rfl rfl rfl rfl rfl rfl (kPl (by have:=spanOk_in (s:=s) (by assumption);omega) (by have:=spanOk_in (s:=s) (by assumption);omega)) (sPl (by have:=spanOk_in (s:=s) (by assumption);omega) (by have:=spanOk_in (s:=s) (by assumption);omega)) ?_
      refine rg_nil nofun ?_
      refine vc_region hm ?_
      refine gM trivial (.inl rfl) rfl rfl rfl ?_
      refine gA trivial rfl rfl rfl rfl rfl rfl (by have:=spanOk_in (s:=s) (by assumption);omega) ?_
      refine gM trivial (.inr rfl) rfl rfl rfl ?_
      refine rg_nil nofun ?_
      exact lp_nextT ⟨i + 1,(by omega),(by omega),rfl,rfl⟩ (by omega) (re_nil (ms:=[0,1,2,3,4]) (C:=999) rfl ⟨⟨⟨rfl,rfl⟩,rfl⟩,⟨⟨rfl,rfl⟩,rfl⟩,⟨⟨rfl,rfl⟩,rfl⟩,⟨⟨rfl,rfl⟩,rfl⟩,⟨⟨rfl,rfl⟩,rfl⟩,⟨⟨rfl,rfl⟩,rfl⟩,trivial⟩ ⟨ktTab (k:=kk) rfl rfl (.inr (.inl rfl)) id rfl rfl,ktIn rfl id rfl,ktFlat rfl rfl (.inr (.inl rfl)) id rfl,ktHv rfl rfl id rfl rfl,ktFlat (plL_flat _) (eqH (dn_step (by have:=spanOk_in (s:=s) (by assumption);omega) hi (by first|exact dn_T (by assumption)|exact dn_F (by assumption)))) (.inr (.inl rfl)) id rfl,trivial⟩ rfl rfl (rig_of rfl) rfl)
    ·skip
     have p37:=of_decide_eq_false c37
     refine vc_exit ?_
     refine vc_seq ?_
     refine vc_region hm ?_
     refine gM trivial (.inl rfl) rfl rfl rfl ?_
     refine gM trivial (.inl rfl) rfl rfl rfl ?_
     refine gM trivial (.inl rfl) rfl rfl rfl ?_
     refine gCn 6 [4,5] (spec_l1Of_c (dnP (at_ T who) s i)) trivial rfl rfl rfl rfl ⟨rFlat (plL_flat _) rfl (.inl rfl) rfl,trivial⟩ ⟨rSp_flat _,trivial⟩ rfl rfl rfl rfl ?_
     refine gF trivial rfl rfl rfl rfl rfl ?_
     refine gL trivial rfl rfl rfl rfl rfl rfl rfl rfl ?_
     refine gL trivial rfl rfl rfl rfl rfl rfl rfl rfl ?_
     refine gCT (as':=[(6,one ⟨rSp (cutL (at_ T who).w s),28,2⟩)]) (v':=.slice (some ⟨6,0,none⟩) (cutL (at_ T who).w s).length 0) 7 [nA (nm 1 (2 * (who).toNat + 1)),nF 6] [1] (spec_l1Cut_c (l:=(at_ T who).w) (s:=s) (hB _ (at_mem (by have:=whoOk_in (who:=who) (by assumption);have:=ok_3 (T:=T) (by assumption);omega) (by have:=whoOk_in (who:=who) (by assumption);have:=ok_3 (T:=T) (by assumption);omega))).2 (spanOk_in (by assumption))) trivial rfl rfl rfl rfl rfl ⟨aRow rfl (rSp_flat _) rfl (inF_1 (by have:=whoOk_in (who:=who) (by assumption);have:=ok_3 (T:=T) (by assumption);omega) (by have:=whoOk_in (who:=who) (by assumption);have:=ok_3 (T:=T) (by assumption);omega)) (.inl rfl) (.inl rfl) rfl,trivial⟩ ⟨rFlatT (rSp_flat _) rfl,trivial⟩ ⟨rfl,rfl⟩ rfl rfl rfl ?_
     refine gU trivial rfl rfl rfl rfl rfl rfl rfl rfl ?_
     refine gCT (as':=[(7,one ⟨rHv (tabV 8 zo (repT T who ⟨l1ofP (dnP (at_ T who) s i),cutL (at_ T who).w s⟩)),46,2⟩),(8,inF zo 28 77 (repT T who ⟨l1ofP (dnP (at_ T who) s i),cutL (at_ T who).w s⟩))]) (v':=.tuple #[.slice (some ⟨7,0,none⟩) (repT T who ⟨l1ofP (dnP (at_ T who) s i),cutL (at_ T who).w s⟩).length 0,.bool (lockOk (setH T who ⟨l1ofP (dnP (at_ T who) s i),cutL (at_ T who).w s⟩))]) 9 [nA (nm 0 (0)),nF 1,nA (nm 5 (0)),nA (nm 6 (0)),nF 7,nF 8] [0,1,5,6] (spec_l4Put_c (T:=T) (who:=who) (h:=⟨l1ofP (dnP (at_ T who) s i),cutL (at_ T who).w s⟩) hT hB l48 l48 (whoOk_in (by assumption)) (ok_3 (by assumption))) trivial rfl rfl rfl rfl rfl ⟨aTab (k:=kk) rfl rfl rfl rfl (.inl rfl) (.inl rfl) rfl rfl,aIn rfl rfl (.inl rfl) (.inl rfl) rfl,aRow rfl (rSp_flat _) rfl rfl (.inl rfl) (.inl rfl) rfl,aRow rfl (rSp_flat _) rfl rfl (.inl rfl) (.inl rfl) rfl,trivial⟩ ⟨rTab rfl rfl rfl,rIn rfl,trivial⟩ ⟨rfl,rfl⟩ rfl rfl rfl ?_
     refine gE trivial rfl rfl rfl rfl rfl rfl ?_
     refine gE trivial rfl rfl rfl rfl rfl rfl ?_
     refine gM trivial (.inr rfl) rfl rfl rfl ?_
     refine gM trivial (.inr rfl) rfl rfl rfl ?_
     refine rg_nil (fun _=>by kernel_rfl) ?_
     refine vc_ret ?_
     rw [down_eq p37 hj]
     rw [(res_go (by assumption) (goK_4 (by assumption) (by assumption) rfl)).1,(res_go (by assumption) (goK_4 (by assumption) (by assumption) rfl)).2]
     exact ⟨_,endsT [(2,7,one ⟨rHv (tabV 3 zo (repT T who ⟨l1ofP (dnP (at_ T who) s i),cutL (at_ T who).w s⟩)),46,2⟩),(3,8,inF zo 28 77 (repT T who ⟨l1ofP (dnP (at_ T who) s i),cutL (at_ T who).w s⟩))] (.inr rfl) (.tmp rfl rfl (.tmp rfl rfl .nil)) rfl rfl trivial ⟨asTab rfl rfl rfl,asIn rfl,trivial⟩ rfl⟩
abbrev T0:List Ho:=List.replicate 3 default
theorem resT_ok {T:List Ho} {go:Bool} {who:Int} {x:Ho} (h:lockOk T=true):lockOk (resT T go who x)=true:=by
 unfold resT
 rw [if_pos h]
 split
 ·unfold repT
  split
  ·assumption
  ·exact h
 ·exact h
theorem lk_B0 {T:List Ho} (h:lockOk T=true):∀ x ∈ T,x.r.length≤12∧x.w.length≤12:=fun x hx=>by
 obtain ⟨i,hi,rfl⟩:=List.mem_iff_getElem.1 hx
 have:=ok_at h (i:=i) hi
 rw [at_get hi]
 exact ⟨spansOk_len this.1,spansOk_len this.2.1⟩
theorem lk_T {T:List Ho} (h:lockOk T=true):T.length≤1048576:=by have:=ok_3 h;omega
theorem lk_B {T:List Ho} (h:lockOk T=true):∀ x ∈ T,x.r.length≤1048576∧x.w.length≤1048576:=fun x hx=>by have:=lk_B0 h x hx;omega
theorem l4None_c : ∃ E,FDoes Try.prog 76 [] (hp []) E∧∃ T:List Ho,lockOk T=true∧E=mkF (.slice (some ⟨0,0,none⟩) T.length 0) [] [] [(0,one ⟨rHv (tabV 1 zo T),46,77⟩),(1,inF zo 28 77 T)]:=by
 have hm:Try.prog.follows .mixedOrders=true:=by kernel_rfl
 have hd_:∀ x ∈ ([]:List (Nat × Bool × Fam)),∀ k y,x.2.2 k=some y→DetB (lt 0) y:=fun x_ hx=>(by cases hx)
 refine fn_some (u0:=0) Try.func76 rfl rfl (gets rfl rfl rfl hd_ rfl) ?_
 clear hd_
 refine vc_seq ?_
 refine vc_region hm ?_
 refine gM trivial (.inr rfl) rfl rfl rfl ?_
 refine rg_nil nofun ?_
 refine vc_seq ?_
 refine vc_region hm ?_
 refine gMk (u':=1) trivial rfl rfl rfl rfl rfl rfl rfl rfl rfl rfl rfl rfl rfl rfl ⟨by decide,by decide⟩ (zeros_row (enc:=eHv) (n:=2) (fun _=>rfl) (by decide) rfl 3) ?_
 refine gM trivial (.inr rfl) rfl rfl rfl ?_
 refine rg_nil nofun ?_
 refine vc_re (S2:=⟨2,[(0,.slice (some ⟨0,0,none⟩) T0.length 0)],[(0,true,one ⟨rHv (tabV 1 zo T0),46,77⟩),(1,true,inF zo 28 77 T0)]⟩) (re_nil (ms:=[0]) (C:=1) rfl ⟨⟨⟨rfl,rfl⟩,rfl⟩,trivial⟩ ⟨ktTabN (n:=3) rfl rfl (.inr (.inr ⟨by decide,by decide,by decide⟩)) id rfl rfl,ktInN (n:=3) rfl (by decide) rfl,trivial⟩ rfl rfl (rig_of rfl) rfl) ?_
 refine vc_ret ?_
 exact ⟨_,_,endsT (v:=.slice (some ⟨0,0,none⟩) T0.length 0) (ups:=[]) (rd:=[]) [(0,0,one ⟨rHv (tabV 1 zo T0),46,77⟩),(1,1,inF zo 28 77 T0)] (.inr rfl) (.tmp rfl rfl .nil) rfl rfl trivial ⟨asTab rfl rfl rfl,asIn rfl,trivial⟩ rfl,T0,rfl,rfl⟩
theorem l4Some_c {l:List Int} {k n t0:Nat} {p:Int} (hl:ByL l) (hn:n≤l.length) (hp0:0≤p) (hp1:p≤994000):∃ E,FDoes Try.prog 44 [.pointer (some ⟨1,0,none⟩)] (hp [(0,false,one ⟨hls k (rY l),t0,0⟩),(1,true,one ⟨[.slice (some ⟨0,k,none⟩) n 0,.int .i64 (p)],82,2⟩)]) E∧∃ (T:List Ho) (p2:Int),lockOk T=true∧p≤p2∧p2≤p + 70∧E=mkF (.slice (some ⟨2,0,none⟩) T.length 0) [0] [(1,one ⟨[.slice (some ⟨0,k,none⟩) n 0,.int .i64 (p2)],82,2⟩)] [(2,one ⟨rHv (tabV 3 zo T),46,77⟩),(3,inF zo 28 77 T)]:=by
 have hm:Try.prog.follows .mixedOrders=true:=by kernel_rfl
 have hd_:∀ x_ ∈ ([(0,false,one ⟨hls k (rY l),t0,0⟩),(1,true,one ⟨[.slice (some ⟨0,k,none⟩) n 0,.int .i64 (p)],82,2⟩)]:List (Nat × Bool × Fam)),∀ k_ y_,x_.2.2 k_=some y_→DetB (lt 2) y_:=by
  intro x_ hx k_ y_ e
  simp only [List.mem_cons,List.not_mem_nil,or_false] at hx
  rcases hx with rfl|rfl
  ·exact det_code e
  ·exact det_ok rfl e
 refine fn_some (u0:=2) Try.func44 rfl rfl (gets rfl rfl rfl hd_ rfl) ?_
 clear hd_
 refine vc_seq ?_
 refine vc_region hm ?_
 refine gM trivial (.inr rfl) rfl rfl rfl ?_
 refine rg_nil nofun ?_
 refine vc_seq ?_
 refine vc_region hm ?_
 obtain ⟨EN,hEN,TN,hkN,rfl⟩:=l4None_c
 refine gCT (as':=[(2,one ⟨rHv (tabV 3 zo TN),46,77⟩),(3,inF zo 28 77 TN)]) (v':=.slice (some ⟨2,0,none⟩) TN.length 0) 4 [nF 2,nF 3] [] (hEN) trivial rfl rfl rfl rfl rfl trivial ⟨rTab rfl rfl rfl,rIn rfl,trivial⟩ ⟨rfl,rfl⟩ rfl rfl rfl ?_
 refine gM trivial (.inr rfl) rfl rfl rfl ?_
 refine rg_nil nofun ?_
 refine vc_seq ?_
 refine vc_seq ?_
 refine vc_region hm ?_
 refine gM trivial (.inl rfl) rfl rfl rfl ?_
 refine gR (u':=5) (out:=rI [4,8,12,2,0]) trivial rfl rfl rfl rfl rfl rfl rfl rfl rfl rfl rfl rfl rfl rfl ?_
 obtain ⟨E1,hE1,x1,x1a,x1b,rfl⟩:=num_c (k:=k) (t0:=t0) (p:=p) hl hn (by omega) (by omega) (L:=[4,8,12,2,0]) (a:=0) (b:=12) (by decide) (by decide)
 refine gCF (ups':=[(1,one ⟨[.slice (some ⟨0,k,none⟩) n 0,.int .i64 (p + 1)],82,2⟩)]) (as':=[]) (v':=.int .i64 x1) 5 [0,1,4] hE1 trivial rfl rfl rfl rfl ⟨rCode rfl rfl,rCells rfl ⟨rfl,rfl,.inr rfl⟩ rfl,rFlat (rI_flat _) rfl (.inl rfl) rfl,trivial⟩ ⟨frOne rfl rfl,trivial⟩ trivial rfl rfl (ho1 ⟨_,rfl⟩) (hu1 rfl) rfl rfl ?_
 refine gM trivial (.inr rfl) rfl rfl rfl ?_
 refine rg_nil nofun ?_
 refine vc_block ?_
 refine vc_loopT (fun n_ S_=>∃ (T:List Ho) (i q:Int),lockOk T=true∧0≤i∧i≤12∧p≤q∧q≤p + 1 + 5 * (12 - i)∧n_=i.toNat∧S_=⟨4,[(0,.pointer (some ⟨1,0,none⟩)),(3,.slice (some ⟨2,0,none⟩) T.length 0),(4,.int .i64 i)],[(0,false,one ⟨hls k (rY l),t0,0⟩),(1,true,one ⟨[.slice (some ⟨0,k,none⟩) n 0,.int .i64 (q)],82,2⟩),(2,true,one ⟨rHv (tabV 3 zo T),46,77⟩),(3,true,inF zo 28 77 T)]⟩) ⟨TN,x1,p + 1,hkN,(by omega),(by omega),(by omega),(by omega),rfl,rfl⟩ (re_nil (ms:=[0,1,2,3]) (C:=999) rfl ⟨⟨⟨rfl,rfl⟩,rfl⟩,⟨⟨rfl,rfl⟩,rfl⟩,⟨⟨rfl,rfl⟩,rfl⟩,trivial⟩ ⟨ktCode rfl rfl,ktRow rfl rfl rfl (BlkW.refl _) id rfl,ktTab (k:=0) rfl rfl (.inr (.inl rfl)) id rfl rfl,ktIn rfl id rfl,trivial⟩ rfl rfl (rig_of rfl) rfl) ?_
 rintro n_ S_ ⟨T,i,q,hk,hi0,hi,hq,hr,rfl,rfl⟩
 refine vc_seq ?_
 refine vc_seq ?_
 refine vc_region hm ?_
 refine gM trivial (.inl rfl) rfl rfl rfl ?_
 refine gI trivial rfl rfl rfl rfl rfl rfl ?_
 refine rg_nil nofun ?_
 refine cI rfl (fun c12=>?_) (fun c12=>?_)
 ·skip
  have p12:=of_decide_eq_true c12
  refine vc_skip ?_
  refine vc_seq ?_
  refine vc_block ?_
  refine vc_seq ?_
  refine vc_region hm ?_
  refine gM trivial (.inl rfl) rfl rfl rfl ?_
  obtain ⟨E3,hE3,x3,x3a,x3b,rfl⟩:=pick_c (k:=k) (t0:=t0) (p:=q) hl hn (by omega) (by omega) (m:=3) (by omega) (by omega)
  refine gCF (ups':=[(1,one ⟨[.slice (some ⟨0,k,none⟩) n 0,.int .i64 (q + 1)],82,2⟩)]) (as':=[]) (v':=.int .i64 x3) 4 [0,1] hE3 trivial rfl rfl rfl rfl ⟨rCode rfl rfl,rCells rfl ⟨rfl,rfl,.inr rfl⟩ rfl,trivial⟩ ⟨frOne rfl rfl,trivial⟩ trivial rfl rfl (ho1 ⟨_,rfl⟩) (hu1 rfl) rfl rfl ?_
  refine gM trivial (.inr rfl) rfl rfl rfl ?_
  refine rg_nil nofun ?_
  refine vc_seq ?_
  refine vc_region hm ?_
  refine gM trivial (.inl rfl) rfl rfl rfl ?_
  obtain ⟨E4,hE4,s4,p4,s4a,s4b,s4c,q4a,q4b,rfl⟩:=span_c (k:=k) (t0:=t0) (p:=q + 1) hl hn (by omega) (by omega) 
  refine gCF (ups':=[(1,one ⟨[.slice (some ⟨0,k,none⟩) n 0,.int .i64 (p4)],82,2⟩)]) (as':=[]) (v':=vSp s4) 4 [0,1] hE4 trivial rfl rfl rfl rfl ⟨rCode rfl rfl,rCells rfl ⟨rfl,rfl,.inr rfl⟩ rfl,trivial⟩ ⟨frOne rfl rfl,trivial⟩ trivial rfl rfl (ho1 ⟨_,rfl⟩) (hu1 rfl) rfl rfl ?_
  refine gZ (u':=5) trivial rfl rfl rfl rfl rfl rfl rfl rfl ?_
  refine gT trivial rfl rfl rfl rfl rfl rfl rfl rfl rfl rfl (Nat.le_of_ble_eq_true rfl) rfl ?_
  refine rg_nil nofun ?_
  refine vc_seq ?_
  refine vc_region hm ?_
  refine gM trivial (.inl rfl) rfl rfl rfl ?_
  obtain ⟨E5,hE5,x5,x5a,x5b,rfl⟩:=pick_c (k:=k) (t0:=t0) (p:=p4) hl hn (by omega) (by omega) (m:=6) (by omega) (by omega)
  refine gCF (ups':=[(1,one ⟨[.slice (some ⟨0,k,none⟩) n 0,.int .i64 (p4 + 1)],82,2⟩)]) (as':=[]) (v':=.int .i64 x5) 5 [0,1] hE5 trivial rfl rfl rfl rfl ⟨rCode rfl rfl,rCells rfl ⟨rfl,rfl,.inr rfl⟩ rfl,trivial⟩ ⟨frOne rfl rfl,trivial⟩ trivial rfl rfl (ho1 ⟨_,rfl⟩) (hu1 rfl) rfl rfl ?_
  refine rg_nil nofun ?_
  refine vc_block ?_
  refine vc_seq ?_
  refine vc_region hm ?_
  refine gI trivial rfl rfl rfl rfl rfl rfl ?_
  refine gM trivial (.inr rfl) rfl rfl rfl ?_
  refine rg_nil nofun ?_
  refine cI rfl (fun c31=>?_) (fun c31=>?_)
  ·skip
   have p31:=eq_of_beq c31
   refine vc_region hm ?_
   refine gM trivial (.inl rfl) rfl rfl rfl ?_
   refine gM trivial (.inl rfl) rfl rfl rfl ?_
   refine gL trivial rfl rfl rfl rfl rfl rfl rfl rfl ?_
   refine gCT (as':=[(5,one ⟨rHv (tabV 6 zo (resT T (goK x3 s4 true) x3 (dropH (at_ T x3) s4))),46,2⟩),(6,inF zo 28 77 (resT T (goK x3 s4 true) x3 (dropH (at_ T x3) s4)))]) (v':=.tuple #[.slice (some ⟨5,0,none⟩) (resT T (goK x3 s4 true) x3 (dropH (at_ T x3) s4)).length 0,.bool (resB T (goK x3 s4 true) x3 (dropH (at_ T x3) s4))]) 7 [nA (nm 2 (0)),nF 3,nF 5,nF 6] [2,3] (spec_LockDrop_c (T:=T) (who:=x3) (s:=s4) (kk:=0) (cc:=0) (lk_T hk) (lk_B hk)) trivial rfl rfl rfl rfl rfl ⟨aTab (k:=0) rfl rfl rfl rfl (.inl rfl) (.inl rfl) rfl rfl,aIn rfl rfl (.inl rfl) (.inl rfl) rfl,trivial⟩ ⟨rTab rfl rfl rfl,rIn rfl,trivial⟩ ⟨rfl,rfl⟩ rfl rfl rfl ?_
   refine gM trivial (.inl rfl) rfl rfl rfl ?_
   refine gE trivial rfl rfl rfl rfl rfl rfl ?_
   refine gE trivial rfl rfl rfl rfl rfl rfl ?_
   refine gM trivial (.inr rfl) rfl rfl rfl ?_
   refine rg_nil nofun ?_
   refine vc_region hm ?_
   refine gM trivial (.inl rfl) rfl rfl rfl ?_
   refine gA trivial rfl rfl rfl rfl rfl rfl (by omega) ?_
   refine gM trivial (.inr rfl) rfl rfl rfl ?_
   refine rg_nil nofun ?_
   exact lp_nextT ⟨(resT T (goK x3 s4 true) x3 (dropH (at_ T x3) s4)),i - 1,p4 + 1,(resT_ok hk),(by omega),(by omega),(by omega),(by omega),rfl,rfl⟩ (by omega) (re_nil (ms:=[0,1,5,6]) (C:=999) rfl ⟨⟨⟨rfl,rfl⟩,rfl⟩,⟨⟨rfl,rfl⟩,rfl⟩,⟨⟨rfl,rfl⟩,rfl⟩,trivial⟩ ⟨ktCode rfl rfl,ktRow rfl rfl rfl (BlkW.refl _) id rfl,ktTab (k:=0) rfl rfl (.inr (.inr ⟨by decide,by decide,by decide⟩)) id rfl rfl,ktIn rfl id rfl,trivial⟩ rfl rfl (rig_of rfl) rfl)
  ·skip
   have p31:=ne_of_beq_false c31
   refine vc_seq ?_
   refine vc_region hm ?_
   refine gI trivial rfl rfl rfl rfl rfl rfl ?_
   refine gM trivial (.inr rfl) rfl rfl rfl ?_
   refine rg_nil nofun ?_
   refine cI rfl (fun c40=>?_) (fun c40=>?_)
   ·skip
    have p40:=eq_of_beq c40
    refine vc_region hm ?_
    refine gM trivial (.inl rfl) rfl rfl rfl ?_
    refine gM trivial (.inl rfl) rfl rfl rfl ?_
    refine gL trivial rfl rfl rfl rfl rfl rfl rfl rfl ?_
    refine gCT (as':=[(5,one ⟨rHv (tabV 6 zo (resT T (goK x3 s4 true) x3 (downH (at_ T x3) s4))),46,2⟩),(6,inF zo 28 77 (resT T (goK x3 s4 true) x3 (downH (at_ T x3) s4)))]) (v':=.tuple #[.slice (some ⟨5,0,none⟩) (resT T (goK x3 s4 true) x3 (downH (at_ T x3) s4)).length 0,.bool (resB T (goK x3 s4 true) x3 (downH (at_ T x3) s4))]) 7 [nA (nm 2 (0)),nF 3,nF 5,nF 6] [2,3] (spec_LockDown_c (T:=T) (who:=x3) (s:=s4) (kk:=0) (cc:=0) (lk_T hk) (lk_B hk)) trivial rfl rfl rfl rfl rfl ⟨aTab (k:=0) rfl rfl rfl rfl (.inl rfl) (.inl rfl) rfl rfl,aIn rfl rfl (.inl rfl) (.inl rfl) rfl,trivial⟩ ⟨rTab rfl rfl rfl,rIn rfl,trivial⟩ ⟨rfl,rfl⟩ rfl rfl rfl ?_
    refine gM trivial (.inl rfl) rfl rfl rfl ?_
    refine gE trivial rfl rfl rfl rfl rfl rfl ?_
    refine gE trivial rfl rfl rfl rfl rfl rfl ?_
    refine gM trivial (.inr rfl) rfl rfl rfl ?_
    refine rg_nil nofun ?_
    refine vc_region hm ?_
    refine gM trivial (.inl rfl) rfl rfl rfl ?_
    refine gA trivial rfl rfl rfl rfl rfl rfl (by omega) ?_
    refine gM trivial (.inr rfl) rfl rfl rfl ?_
    refine rg_nil nofun ?_
    exact lp_nextT ⟨(resT T (goK x3 s4 true) x3 (downH (at_ T x3) s4)),i - 1,p4 + 1,(resT_ok hk),(by omega),(by omega),(by omega),(by omega),rfl,rfl⟩ (by omega) (re_nil (ms:=[0,1,5,6]) (C:=999) rfl ⟨⟨⟨rfl,rfl⟩,rfl⟩,⟨⟨rfl,rfl⟩,rfl⟩,⟨⟨rfl,rfl⟩,rfl⟩,trivial⟩ ⟨ktCode rfl rfl,ktRow rfl rfl rfl (BlkW.refl _) id rfl,ktTab (k:=0) rfl rfl (.inr (.inr ⟨by decide,by decide,by decide⟩)) id rfl rfl,ktIn rfl id rfl,trivial⟩ rfl rfl (rig_of rfl) rfl)
   ·skip
    have p40:=ne_of_beq_false c40
    refine vc_region hm ?_
    refine gM trivial (.inl rfl) rfl rfl rfl ?_
    refine gM trivial (.inl rfl) rfl rfl rfl ?_
    refine gM trivial (.inl rfl) rfl rfl rfl ?_
    obtain ⟨E10,hE10,x10,x10a,x10b,rfl⟩:=pick_c (k:=k) (t0:=t0) (p:=p4 + 1) hl hn (by omega) (by omega) (m:=2) (by omega) (by omega)
    refine gCF (ups':=[(1,one ⟨[.slice (some ⟨0,k,none⟩) n 0,.int .i64 (p4 + 1 + 1)],82,2⟩)]) (as':=[]) (v':=.int .i64 x10) 5 [0,1] hE10 trivial rfl rfl rfl rfl ⟨rCode rfl rfl,rCells rfl ⟨rfl,rfl,.inr rfl⟩ rfl,trivial⟩ ⟨frOne rfl rfl,trivial⟩ trivial rfl rfl (ho1 ⟨_,rfl⟩) (hu1 rfl) rfl rfl ?_
    refine gI trivial rfl rfl rfl rfl rfl rfl ?_
    refine gL trivial rfl rfl rfl rfl rfl rfl rfl rfl ?_
    refine gCT (as':=[(5,one ⟨rHv (tabV 6 zo (resT T (goK x3 s4 (decide (((lockBars T x3 (x10 == 0) s4).length:Int)=0))) x3 (giveH (at_ T x3) (x10 == 0) s4))),46,2⟩),(6,inF zo 28 77 (resT T (goK x3 s4 (decide (((lockBars T x3 (x10 == 0) s4).length:Int)=0))) x3 (giveH (at_ T x3) (x10 == 0) s4)))]) (v':=.tuple #[.slice (some ⟨5,0,none⟩) (resT T (goK x3 s4 (decide (((lockBars T x3 (x10 == 0) s4).length:Int)=0))) x3 (giveH (at_ T x3) (x10 == 0) s4)).length 0,.bool (resB T (goK x3 s4 (decide (((lockBars T x3 (x10 == 0) s4).length:Int)=0))) x3 (giveH (at_ T x3) (x10 == 0) s4))]) 7 [nA (nm 2 (0)),nF 3,nF 5,nF 6] [2,3] (spec_LockGive_c (T:=T) (who:=x3) (write:=(x10 == 0)) (s:=s4) (kk:=0) (cc:=0) (lk_T hk) (lk_B hk)) trivial rfl rfl rfl rfl rfl ⟨aTab (k:=0) rfl rfl rfl rfl (.inl rfl) (.inl rfl) rfl rfl,aIn rfl rfl (.inl rfl) (.inl rfl) rfl,trivial⟩ ⟨rTab rfl rfl rfl,rIn rfl,trivial⟩ ⟨rfl,rfl⟩ rfl rfl rfl ?_
    refine gM trivial (.inl rfl) rfl rfl rfl ?_
    refine gE trivial rfl rfl rfl rfl rfl rfl ?_
    refine gE trivial rfl rfl rfl rfl rfl rfl ?_
    refine gM trivial (.inr rfl) rfl rfl rfl ?_
    refine rg_nil (fun _=>by kernel_rfl) ?_
    refine vc_region hm ?_
    refine gM trivial (.inl rfl) rfl rfl rfl ?_
    refine gA trivial rfl rfl rfl rfl rfl rfl (by omega) ?_
    refine gM trivial (.inr rfl) rfl rfl rfl ?_
    refine rg_nil nofun ?_
    exact lp_nextT ⟨(resT T (goK x3 s4 (decide (((lockBars T x3 (x10 == 0) s4).length:Int)=0))) x3 (giveH (at_ T x3) (x10 == 0) s4)),i - 1,p4 + 1 + 1,(resT_ok hk),(by omega),(by omega),(by omega),(by omega),rfl,rfl⟩ (by omega) (re_nil (ms:=[0,1,5,6]) (C:=999) rfl ⟨⟨⟨rfl,rfl⟩,rfl⟩,⟨⟨rfl,rfl⟩,rfl⟩,⟨⟨rfl,rfl⟩,rfl⟩,trivial⟩ ⟨ktCode rfl rfl,ktRow rfl rfl rfl (BlkW.refl _) id rfl,ktTab (k:=0) rfl rfl (.inr (.inr ⟨by decide,by decide,by decide⟩)) id rfl rfl,ktIn rfl id rfl,trivial⟩ rfl rfl (rig_of rfl) rfl)
 ·skip
  have p12:=of_decide_eq_false c12
  refine vc_exit ?_
  refine vc_seq ?_
  refine vc_region hm ?_
  refine gM trivial (.inl rfl) rfl rfl rfl ?_
  refine gM trivial (.inr rfl) rfl rfl rfl ?_
  refine rg_nil nofun ?_
  refine vc_ret ?_
  exact ⟨mkF (.slice (some ⟨2,0,none⟩) T.length 0) [0] [(1,one ⟨[.slice (some ⟨0,k,none⟩) n 0,.int .i64 (q)],82,2⟩)] [(2,one ⟨rHv (tabV 3 zo T),46,77⟩),(3,inF zo 28 77 T)],_,endsT [(2,2,one ⟨rHv (tabV 3 zo T),46,77⟩),(3,3,inF zo 28 77 T)] (.inr rfl) (.tmp rfl rfl .nil) rfl rfl ⟨upOne rfl rfl rfl,trivial⟩ ⟨asTab rfl rfl rfl,asIn rfl,trivial⟩ rfl,T,_,hk,(by omega),(by omega),rfl⟩
end Go.Proofs.Ytbgehlihpkefmaa.A
namespace Go.Proofs.Ytbgehlihpkefmaa.A
open Go Go.RowKit
def nLs (l:List Nat):Nat→Option Nat:=fun k=>l[k]?
def dropF (F:Fam) (i:Nat):Fam:=fun k=>if k=i then none else F k
theorem nodB_inj {l:List Nat} (h:nodB l=true) {k k' n:Nat} (h1:l[k]?=some n) (h2:l[k']?=some n):k=k':=by
 have hn:=nod_of h
 obtain ⟨a1,a2⟩:=List.getElem?_eq_some_iff.1 h1
 obtain ⟨b1,b2⟩:=List.getElem?_eq_some_iff.1 h2
 have hp:=List.pairwise_iff_getElem.1 hn
 rcases Nat.lt_trichotomy k k' with q|q|q
 ·exact absurd (a2.trans b2.symm) (hp k k' a1 b1 q)
 ·exact q
 ·exact absurd (b2.trans a2.symm) (hp k' k b1 a1 q)
theorem hg_one {ms:List Nat} {D i C:Nat} {h2:List (Nat × Bool × Fam)} (hl:∀ x ∈ h2,x.1=C→∀ k,x.2.2 k ≠ none→k=0) (ho:∀ y ∈ h2,y.1 ≠ C→mp ms y.1<1000∧(mp ms y.1=D→y.2.2 i=none)) (hD:D<1000):∀ x ∈ h2,x.1=C→(∀ k k' n',x.2.2 k ≠ none→x.2.2 k' ≠ none→nLs [nm D i] k=some n'→nLs [nm D i] k'=some n'→k=k')∧∀ k n',x.2.2 k ≠ none→nLs [nm D i] k=some n'→∀ y ∈ h2,y.1 ≠ C→∀ k',y.2.2 k' ≠ none→n' ≠ nm (mp ms y.1) k':=fun x hx ex=>by
 refine ⟨fun k k' n' h1 h2 _ _=>by rw [hl x hx ex k h1,hl x hx ex k' h2],fun k n' h1 q y hy hne k' hk' e=>?_⟩
 have:=hl x hx ex k h1
 subst this
 have q:nm D i=n':=Option.some.inj q
 obtain ⟨a1,a2⟩:=ho y hy hne
 have e1:D=mp ms y.1:=by
  have:=congrArg (· % 1000) (q.trans e)
  simpa [nm_mod hD,nm_mod a1] using this
 have e2:i=k':=by
  have:=congrArg (· / 1000) (q.trans e)
  simpa [nm_div hD,nm_div a1] using this
 exact hk' (e2 ▸ a2 e1.symm)
theorem re_list {r u1 u2 C:Nat} {ms l:List Nat} {t1 t2:List (Nat × Value)} {h1 h2:List (Nat × Bool × Fam)} (hr:(Nat.ble r u2 && Nat.ble r C && Nat.blt C 1000)=true) (ht:KeepTT (tmG ms C (nLs l)) u2 t1 t2) (hh:KeepHT (tmG ms C (nLs l)) u2 h1 h2)
  (hi:(h2.all fun x=>h2.all fun y=>x.1 == C || y.1 == C || !(mp ms x.1 == mp ms y.1) || x.1 == y.1)=true) (hlt:(h2.all fun x=>Nat.blt (mp ms x.1) 1000)=true) (hm:∀ b,b<r→mp ms b=b) (hnd:nodB (h2.map (·.1))=true) (hl:nodB l=true) (hck:(h2.all fun y=>y.1 == C || l.all fun n=>!(n % 1000 == mp ms y.1))=true):Re r ⟨u2,t2,h2⟩ ⟨u1,t1,h1⟩ :=
 re_mk hr ht hh hi hlt hm (fun x hx ex=>⟨fun k k' n' _ _ q1 q2=>nodB_inj hl q1 q2,fun k n' _ q y hy hne k' _ e=>by
  have a:=List.all_eq_true.1 hck y hy
  have b:=of_blt (List.all_eq_true.1 hlt y hy)
  rw [Bool.or_eq_true] at a
  rcases a with a|a
  ·exact hne (by simpa using a)
  ·have:=List.all_eq_true.1 a n' (List.mem_of_getElem? q)
   rw [e,nm_mod b] at this
   simp at this⟩) hnd
theorem ktSub {ms:List Nat} {C u2 b i:Nat} {g:Nat→Option Nat} {h1:List (Nat × Bool × Fam)} {o o':Bool} {F:Fam} (hf:∀ k y,F k=some y→y.cs.all flat1=true) (hl:h1.lookup (mp ms b)=some (o',F)) (ho:o=true→o'=true) (hb:(Nat.blt b u2 && Nat.blt b 1000 && Nat.blt (mp ms b) 1000 && !(b == C))=true):KeepBT (tmG ms C g) u2 h1 b o (dropF F i):=by
 obtain ⟨a1,a2,a3,a4⟩:=ktFam (o:=o) hf hl ho hb (ms:=ms) (g:=g)
 have sub:∀ k y,dropF F i k=some y→F k=some y:=fun k y h=>by
  unfold dropF at h
  split at h
  ·cases h
  ·exact h
 exact ⟨a1,a2,fun k y hy=>a3 k y (sub k y hy),fun k y hy=>a4 k y (sub k y hy)⟩
theorem ktCL {ms l:List Nat} {C u2 t:Nat} {h1:List (Nat × Bool × Fam)} {M:List Ho} (hA:∀ j,j<2 * M.length→∀ n',l[j]?=some n'→∃ F' y',h1.lookup (n' % 1000)=some (true,F')∧F' (n' / 1000)=some y'∧y'.cs=rSp (sel (at_ M ((j / 2:Nat):Int)) j)∧y'.t=t∧y'.e ≠ 0) (hN:∀ j,j<2 * M.length→l[j]?=none→sel (at_ M ((j / 2:Nat):Int)) j = []) (hb:(Nat.blt C u2 && Nat.blt C 1000)=true):KeepBT (tmG ms C (nLs l)) u2 h1 C true (inF zo t 77 M):=by
 refine ktC (fun k y hy=>inF_flat hy) (fun k y hy=>?_) hb
 unfold inF at hy
 obtain ⟨h,hh,rfl⟩:=Option.map_eq_some_iff.1 hy
 have hk:k<2 * M.length:=by
  have:=(List.getElem?_eq_some_iff.1 hh).1
  omega
 have ha:at_ M ((k / 2:Nat):Int)=h:=at_of hh
 refine ⟨fun q=>⟨?_,(by decide:77<100)⟩,fun n' q=>?_⟩
 ·have:=hN k hk q
  rw [ha] at this
  show hls (zo k) (rSp (sel h k)) = []
  rw [this]
  rfl
 ·obtain ⟨F',y',a1,a2,a3,a4,a5⟩:=hA k hk n' q
  rw [ha] at a3
  exact ⟨true,F',y',a1,a2,⟨.inl a3,fun _=>a4,.inr (.inr ⟨(by decide:77≤77),(by decide:77<100),a5⟩),fun q=>(by cases q)⟩,fun _=>rfl⟩
theorem asTabK {m:Nat→Nat} {u C C' j t e k0:Nat} {T:List Ho} {h:List (Nat × Bool × Fam)} (hl:h.lookup j=some (true,one ⟨hls k0 (rHv (tabV C' zo T)),t,e⟩)) (hm:m C=C') (hC:(Nat.blt C 1000 && Nat.blt C u)=true):h.lookup j=some (true,rnF m (one ⟨hls k0 (rHv (tabV C zo T)),t,e⟩))∧∀ k y,one ⟨hls k0 (rHv (tabV C zo T)),t,e⟩ k=some y→DetB (lt u) y:=by
 have h1:=hC
 rw [Bool.and_eq_true] at h1
 refine ⟨?_,fun k y h=>det_tab (k0:=k0) hC h⟩
 rw [hl,rnF_one]
 simp only [Blk.rn]
 rw [show (hls k0 (rHv (tabV C zo T))).map (rn1 m)=hls k0 ((rHv (tabV C zo T)).map (rn1 m)) by unfold hls;rw [List.map_append,List.map_replicate];rfl,tabV_rn (of_blt h1.1),hm]
theorem rTb {m:Nat→Nat} {hc:List (Nat × Bool × Fam)} {b c C' t e' k:Nat} {o':Bool} {T:List Ho} (hl:hc.lookup (m b)=some (o',one ⟨hls k (rHv (tabV C' zo T)),t,e'⟩)) (hm:m c=C') (hb:(Nat.blt (m b) 1000 && Nat.ble t capT && Nat.blt c 1000)=true):m b<1000∧∃ o' F',hc.lookup (m b)=some (o',F')∧FamLe (rnF m (one ⟨hls k (rHv (tabV c zo T)),t,0⟩)) F':=by
 simp only [Bool.and_eq_true] at hb
 refine rCells hl ⟨?_,rfl,.inl rfl⟩ (by rw [hb.1.1,hb.1.2];rfl)
 show hls k (rHv (tabV C' zo T))=(hls k (rHv (tabV c zo T))).map (rn1 m)
 rw [show (hls k (rHv (tabV c zo T))).map (rn1 m)=hls k ((rHv (tabV c zo T)).map (rn1 m)) by unfold hls;rw [List.map_append,List.map_replicate];rfl,tabV_rn (of_blt hb.2),hm]
theorem rInT {m:Nat→Nat} {hc:List (Nat × Bool × Fam)} {c t e':Nat} {o':Bool} {T:List Ho} (hl:hc.lookup (m c)=some (o',inF zo t e' T)) (hb:(Nat.blt (m c) 1000 && Nat.ble t capT)=true):m c<1000∧∃ o' F',hc.lookup (m c)=some (o',F')∧FamLe (rnF m (inF zo t 0 T)) F':=by
 simp only [Bool.and_eq_true] at hb
 refine ⟨of_blt hb.1,o',_,hl,?_⟩
 rw [rnF_in]
 intro k x hx
 unfold inF at hx ⊢
 obtain ⟨h,hh,rfl⟩:=Option.map_eq_some_iff.1 hx
 rw [hh]
 exact ⟨_,rfl,rfl,rfl,fun q=>absurd rfl q,fun _=>.inr (Nat.le_of_ble_eq_true hb.2)⟩
theorem frTab {m:Nat→Nat} {b c C C' t e k:Nat} {T:List Ho} (h:m b=c) (hm:m C=C') (hC:Nat.blt C 1000=true):m b=c∧rnF m (one ⟨hls k (rHv (tabV C zo T)),t,e⟩)=one ⟨hls k (rHv (tabV C' zo T)),t,e⟩:=by
 refine ⟨h,?_⟩
 rw [rnF_one]
 simp only [Blk.rn]
 rw [show (hls k (rHv (tabV C zo T))).map (rn1 m)=hls k ((rHv (tabV C zo T)).map (rn1 m)) by unfold hls;rw [List.map_append,List.map_replicate];rfl,tabV_rn (of_blt hC),hm]
theorem frIn {m:Nat→Nat} {b c t e:Nat} {off:Nat→Nat} {T:List Ho} (h:m b=c):m b=c∧rnF m (inF off t e T)=inF off t e T:=⟨h,rnF_in⟩
theorem len3 {α:Type} {T:List α} (h:T.length=3):∃ a b c,T = [a,b,c]:=by
 rcases T with _|⟨a,_|⟨b,_|⟨c,_|⟨d,T⟩⟩⟩⟩
 ·cases h
 ·cases h
 ·cases h
 ·exact ⟨a,b,c,rfl⟩
 ·simp at h
section
variable {P:Program} {nt:Nat} {ops:Array Oper} {draw:Bool} {rest:List Oper} {u d:Nat} {t:List (Nat × Value)} {h:List (Nat × Bool × Fam)} {acc:List Eff} {K:St→Prop} {o:Oper}
theorem gTailO {ty e:TypeId} {x y:Operand} {n len sz:Nat} {i:Int} {b:Blk} (hw:wantT (tl t) ops o) (hop:o.op = .slice ty x (some y) none none) (hu:P.underlying ty=some (.slice e)) (hz:szP P e=some sz) (hx:ev t x=some (.slice (some ⟨n,0,none⟩) len 0)) (hy:ev t y=some (.int .i64 i)) (hb:hat (hp h) n=some b) (h0:(Nat.blt 0 sz && Nat.blt sz 77 && b.e == sz)=true) (hs:o.dst=some d) (hn:Nat.blt d nt=true) (hl:b.cs.length=len * sz) (hi0:0≤i) (hi1:i<len)
  (k:RG P nt ops draw rest ⟨u,(d,.slice (some ⟨n,i.toNat * sz,none⟩) (len - i.toNat) i.toNat) :: t,h⟩ (acc ++ [{ v:=.slice (some ⟨n,i.toNat * sz,none⟩) (len - i.toNat) i.toNat,rd:=[n % 1000] }]) K):RG P nt ops draw (o :: rest) ⟨u,t,h⟩ acc K:=by
 simp only [Bool.and_eq_true,beq_iff_eq] at h0
 obtain ⟨⟨h0,h77⟩,he⟩:=h0
 have h0:=of_blt h0
 have h77:=of_blt h77
 refine gV (does_val hw (fun ρ ac w ht hah=>?_) fun U hU=>?_) hs hn k
 ·have hbl:=hat_at hb hah (.inl (.head _))
  have hne:b.cs ≠ []:=fun e=>by
   rw [e] at hl
   have:0<len * sz:=Nat.mul_pos (by omega) h0
   simp at hl
   omega
  obtain ⟨hnil,sl,z,_,_,hcap,_⟩:=blkAt_some hbl hne (by omega)
  have hcap:=(hcap (by omega)).2.1
  rw [hl,he] at hcap
  have hcap:len≤(ρ n).cap:=Nat.le_of_mul_le_mul_right (show len * sz≤(ρ n).cap * sz by omega) h0
  have e1:ac.eval x=r3 ρ (.slice (some ⟨n,0,none⟩) len 0):=ev_sound (ρ:=ρ) (by rw [hop];simp [Op.operands]) ht hx
  have e1:ac.eval x = .slice (some ⟨(ρ n).blk,0,none⟩) len (ρ n).cap:=by rw [e1];show (if (ρ n).nil=true then zv _ else _)=_;rw [if_neg (by rw [hnil];decide)];rfl
  have e2:ac.eval y = .int .i64 i:=ev_sound (ρ:=ρ) (by rw [hop];simp [Op.operands]) ht hy
  have e3:(Instr.sliceBounds true len (ρ n).cap (some (.int .i64 i)) none none).run P w = .ok (i.toNat,len,(ρ n).cap) w:=by
   simp [Instr.sliceBounds,Instr.sliceBound,asIntOf,hi0,show i≤(len:Int) by omega,Sem.run_pure,Sem.run_bind,Result.andThen_ok]
  have e4:¬ (ρ n).cap=i.toNat:=by omega
  have e5:r3 ρ (.slice (some ⟨n,i.toNat * sz,none⟩) (len - i.toNat) i.toNat) = .slice (some ⟨(ρ n).blk,i.toNat * sz,none⟩) (len - i.toNat) ((ρ n).cap - i.toNat):=by
   show (if (ρ n).nil=true then zv _ else _)=_
   rw [if_neg (by rw [hnil];decide)]
  rw [e5]
  simp [execOp,hop,e1,e2,Instr.sliceAt,Instr.slice,run_underlying hu,run_sizeOf hz,e3,e4,add_eq,Sem.run_pure,Sem.run_bind,Result.andThen_ok]
 ·intro ρ ρ' hρ
  have:=hρ n (hat_det hb hU (.inl (.head _))).1
  simp [r3,r2,r1,this]
end
end Go.Proofs.Ytbgehlihpkefmaa.A
namespace Go.Proofs.Ytbgehlihpkefmaa.A
open Go Go.RowKit
set_option maxHeartbeats 4000000
theorem tab2 {C:Nat} {a b:Ho}:rHv (tabV C zo [a,b]) = [.slice (some ⟨nm C 0,0,none⟩) a.r.length 0,.slice (some ⟨nm C 1,0,none⟩) a.w.length 0,.slice (some ⟨nm C 2,0,none⟩) b.r.length 0,.slice (some ⟨nm C 3,0,none⟩) b.w.length 0]:=rfl
theorem tab3 {C:Nat} {a b c:Ho}:rHv (tabV C zo [a,b,c]) = [.slice (some ⟨nm C 0,0,none⟩) a.r.length 0,.slice (some ⟨nm C 1,0,none⟩) a.w.length 0,.slice (some ⟨nm C 2,0,none⟩) b.r.length 0,.slice (some ⟨nm C 3,0,none⟩) b.w.length 0,.slice (some ⟨nm C 4,0,none⟩) c.r.length 0,.slice (some ⟨nm C 5,0,none⟩) c.w.length 0]:=rfl
theorem tab4 {C:Nat} {a b c d:Ho}:rHv (tabV C zo [a,b,c,d]) = [.slice (some ⟨nm C 0,0,none⟩) a.r.length 0,.slice (some ⟨nm C 1,0,none⟩) a.w.length 0,.slice (some ⟨nm C 2,0,none⟩) b.r.length 0,.slice (some ⟨nm C 3,0,none⟩) b.w.length 0,.slice (some ⟨nm C 4,0,none⟩) c.r.length 0,.slice (some ⟨nm C 5,0,none⟩) c.w.length 0,.slice (some ⟨nm C 6,0,none⟩) d.r.length 0,.slice (some ⟨nm C 7,0,none⟩) d.w.length 0]:=rfl
theorem bent_k {h0 h1 h2:Ho} {t u2:Nat} {h:List (Nat × Bool × Fam)} (hl:h.lookup 5=some (true,inF zo t 2 [h0,h1,h2])) (hu:Nat.blt 6 u2=true:=by rfl):KeepBT (tmG [0,1,2,3,4,5] 6 (nLs [nm 5 1])) u2 h 6 true (one ⟨rSp h0.w,t,2⟩):=by
 refine ktC (fun k y hy=>?_) (fun k y hy=>?_) (by rw [hu];rfl)
 ·obtain ⟨rfl,rfl⟩:=one_some hy
  exact rSp_flat _
 ·obtain ⟨rfl,rfl⟩:=one_some hy
  refine ⟨fun q=>(by cases q),fun n' q=>?_⟩
  cases q
  exact ⟨true,_,_,hl,rfl,BlkW.refl _,fun _=>rfl⟩
theorem bent_f {p:Prop} (h:p):p:=h
theorem nbq {a b:Nat} (h:Nat.beq a b=false):a ≠ b:=fun e=>by
 subst e
 rw [Nat.beq_refl] at h
 cases h
theorem holOf {cs cs':List Value} (h1:cs' = []→cs = []) (h2:∀ (i:Nat) (v:Value),cs[i]?=some v→v ≠ hole→cs'[i]?=some v):HolL cs cs':=⟨h1,h2⟩
theorem spec_l4Copy2_c {T:List Ho} {kk cc:Nat} (hT:T.length≤1048576) (hB:∀ h ∈ T,h.r.length≤1048576∧h.w.length≤1048576):FDoes Try.prog 58 [.slice (some ⟨0,kk,none⟩) T.length cc] (hp [(0,false,one ⟨hls kk (rHv (tabV 1 zo T)),46,0⟩),(1,false,inF zo 28 0 T)]) (mkF (.slice (some ⟨2,0,none⟩) T.length 0) [0,1] [] [(2,one ⟨rHv (tabV 3 zo T),46,2⟩),(3,inF zo 28 2 T)]):=by
 have hm:Try.prog.follows .mixedOrders=true:=by kernel_rfl
 have hd_:∀ x_ ∈ ([(0,false,one ⟨hls kk (rHv (tabV 1 zo T)),46,0⟩),(1,false,inF zo 28 0 T)]:List (Nat × Bool × Fam)),∀ k_ y_,x_.2.2 k_=some y_→DetB (lt 2) y_:=by
  intro x_ hx k_ y_ e
  simp only [List.mem_cons,List.not_mem_nil,or_false] at hx
  rcases hx with rfl|rfl
  ·exact det_tab (k0:=kk) rfl e
  ·exact det_in e
 refine fn_exact (u0:=2) Try.func58 rfl rfl (gets rfl rfl rfl hd_ rfl) ?_
 clear hd_
 refine vc_seq ?_
 refine vc_region hm ?_
 refine gM trivial (.inr rfl) rfl rfl rfl ?_
 refine rg_nil nofun ?_
 refine vc_seq ?_
 refine vc_region hm ?_
 refine gR (u':=3) trivial rfl rfl rfl rfl rfl rfl rfl rfl rfl rfl rfl rfl rfl rfl ?_
 refine gM trivial (.inr rfl) rfl rfl rfl ?_
 refine rg_nil nofun ?_
 refine vc_seq ?_
 refine vc_seq ?_
 refine vc_region hm ?_
 refine gM trivial (.inr rfl) rfl rfl rfl ?_
 refine rg_nil nofun ?_
 refine vc_block ?_
 refine vc_loopT (fun n_ S_=>∃ (j:Nat),j≤T.length∧n_=T.length - j∧S_=⟨4,[(0,.slice (some ⟨0,kk,none⟩) T.length cc),(3,.slice (some ⟨2,0,none⟩) j 0),(4,.int .i64 j)],[(0,false,one ⟨hls kk (rHv (tabV 1 zo T)),46,0⟩),(1,false,inF zo 28 0 T),(2,true,one ⟨rHv (tabV 3 zo (T.take j)),46,2⟩),(3,true,inF zo 28 2 (T.take j))]⟩) ⟨0,Nat.zero_le _,rfl,rfl⟩ (re_nil (ms:=[0,1,2,3]) (C:=3) rfl ⟨⟨⟨rfl,rfl⟩,rfl⟩,⟨⟨rfl,rfl⟩,rfl⟩,⟨⟨rfl,rfl⟩,rfl⟩,trivial⟩ ⟨ktTab (k:=kk) rfl rfl (.inr (.inl rfl)) id rfl rfl,ktIn rfl id rfl,ktTabN (n:=0) rfl rfl (.inr (.inl rfl)) id rfl rfl,ktInN (n:=0) rfl (by decide) rfl,trivial⟩ rfl rfl (rig_of rfl) rfl) ?_
 rintro n_ S_ ⟨j,hj,rfl,rfl⟩
 refine vc_seq ?_
 refine vc_seq ?_
 refine vc_region hm ?_
 refine gM trivial (.inl rfl) rfl rfl rfl ?_
 refine gM trivial (.inl rfl) rfl rfl rfl ?_
 refine gK trivial rfl rfl rfl rfl rfl rfl (hls_nil tabV_nil) ?_
 refine gI trivial rfl rfl rfl rfl rfl rfl ?_
 refine rg_nil nofun ?_
 refine cI rfl (fun c9=>?_) (fun c9=>?_)
 ·skip
  have p9:=of_decide_eq_true c9
  refine vc_skip ?_
  refine vc_seq ?_
  refine vc_block ?_
  refine vc_region hm ?_
  refine gM trivial (.inl rfl) rfl rfl rfl ?_
  refine gR (u':=5) trivial rfl rfl rfl rfl rfl rfl rfl rfl rfl rfl rfl rfl rfl rfl ?_
  refine gM trivial (.inl rfl) rfl rfl rfl ?_
  refine gM trivial (.inl rfl) rfl rfl rfl ?_
  refine gX trivial rfl rfl rfl rfl rfl rfl rfl rfl (by omega) p9 (fun h=>hls_ne (tabV_ne h)) ?_
  refine gF trivial rfl rfl rfl rfl rfl ?_
  refine gL trivial rfl rfl rfl rfl rfl rfl rfl (lH0k (by omega) p9) ?_
  refine gApi (u':=6) trivial rfl rfl rfl rfl rfl rfl rfl rfl rfl rfl rfl rfl (inF_0 (by omega) p9) rfl (cp_len _) (cp_leaf _) (show (0 + (at_ T (j:Int)).r.length) * (16 + 1)≤140737488355328 by have:=hB _ (at_mem (by omega) p9);omega) (cp_eq _) (Nat.zero_add _) ?_
  refine gR (u':=7) trivial rfl rfl rfl rfl rfl rfl rfl rfl rfl rfl rfl rfl rfl rfl ?_
  refine gM trivial (.inl rfl) rfl rfl rfl ?_
  refine gM trivial (.inl rfl) rfl rfl rfl ?_
  refine gX trivial rfl rfl rfl rfl rfl rfl rfl rfl (by omega) p9 (fun h=>hls_ne (tabV_ne h)) ?_
  refine gF trivial rfl rfl rfl rfl rfl ?_
  refine gL trivial rfl rfl rfl rfl rfl rfl rfl (lH1k (by omega) p9) ?_
  refine gApi (u':=8) trivial rfl rfl rfl rfl rfl rfl rfl rfl rfl rfl rfl rfl (inF_1 (by omega) p9) rfl (cp_len _) (cp_leaf _) (show (0 + (at_ T (j:Int)).w.length) * (16 + 1)≤140737488355328 by have:=hB _ (at_mem (by omega) p9);omega) (cp_eq _) (Nat.zero_add _) ?_
  refine gU trivial rfl rfl rfl rfl rfl rfl rfl rfl ?_
  refine gR (u':=9) trivial rfl rfl rfl rfl rfl rfl rfl rfl rfl rfl rfl rfl rfl rfl ?_
  refine gAp (u':=10) trivial rfl rfl rfl rfl rfl rfl rfl rfl rfl rfl rfl rfl (by rw [rowL_len (n:=2) (fun _=>rfl),tabV_len,take_len' (by omega)]) (Nat.le_refl _) rfl (show (j + 1) * (48 + 1)≤140737488355328 by omega) (row_snoc (enc:=eHv) (x:=⟨.slice (some ⟨5,0,none⟩) (at_ T (j:Int)).r.length 0,.slice (some ⟨7,0,none⟩) (at_ T (j:Int)).w.length 0⟩)) rfl ?_
  refine gM trivial (.inr rfl) rfl rfl rfl ?_
  refine rg_nil (fun _=>by kernel_rfl) ?_
  refine vc_region hm ?_
  refine gM trivial (.inl rfl) rfl rfl rfl ?_
  refine gA trivial rfl rfl rfl rfl rfl rfl (by omega) ?_
  refine gM trivial (.inr rfl) rfl rfl rfl ?_
  refine rg_nil nofun ?_
  exact lp_nextT ⟨j + 1,(by omega),rfl,rfl⟩ (by omega) (re_fold (ms:=[0,1,9,3]) (C:=3) (C':=3) (i:=2 * (j)) (a:=5) (b:=7) rfl ⟨⟨⟨rfl,rfl⟩,rfl⟩,⟨⟨rfl,rfl⟩,rfl⟩,⟨⟨rfl,rfl⟩,rfl⟩,trivial⟩ ⟨ktTab (k:=kk) rfl rfl (.inr (.inl rfl)) id rfl rfl,ktIn rfl id rfl,ktTabC rfl (ap_x p9) (fun _=>ap_i p9) (fun i h h'=>ap_j p9 h h') (.inr (.inl rfl)) id rfl rfl,kPutC (fun i h h'=>ap_g p9 h h') (ap_ho p9) rfl rfl rfl (.inr ⟨.inl rfl,.inl rfl,.inl rfl⟩) (fun _=>⟨rfl,rfl,rfl⟩) rfl,trivial⟩ rfl rfl (rig_of rfl) rfl rfl)
 ·skip
  have p9:=of_decide_eq_false c9
  refine vc_exit ?_
  refine vc_seq ?_
  refine vc_region hm ?_
  refine gM trivial (.inl rfl) rfl rfl rfl ?_
  refine gM trivial (.inr rfl) rfl rfl rfl ?_
  refine rg_nil nofun ?_
  refine vc_ret ?_
  obtain rfl:j=T.length:=by omega
  rw [List.take_length]
  exact ⟨_,endsT [(2,2,one ⟨rHv (tabV 3 zo T),46,2⟩),(3,3,inF zo 28 2 T)] (.inr rfl) (.tmp rfl rfl .nil) rfl rfl trivial ⟨asTab rfl rfl rfl,asIn rfl,trivial⟩ rfl⟩
theorem bent_c {l:List Int} {k n t0:Nat} {p:Int} (hl:ByL l) (hn:n≤l.length) (hp0:0≤p) (hp1:p≤993000) {T:List Ho} (hk:lockOk T=true):∃ E,FDoes Try.prog 43 [.pointer (some ⟨1,0,none⟩),.slice (some ⟨2,0,none⟩) T.length 0] (hp [(0,false,one ⟨hls k (rY l),t0,0⟩),(1,true,one ⟨[.slice (some ⟨0,k,none⟩) n 0,.int .i64 (p)],82,2⟩),(2,false,one ⟨rHv (tabV 3 zo T),46,0⟩),(3,false,inF zo 28 0 T)]) E∧∃ (M:List Ho) (kk cc:Nat) (p2:Int),M.length≤4∧(∀ h ∈ M,h.r.length≤100∧h.w.length≤100)∧p≤p2∧p2≤p + 100∧E=mkF (.slice (some ⟨4,kk,none⟩) M.length cc) [0,2,3] [(1,one ⟨[.slice (some ⟨0,k,none⟩) n 0,.int .i64 (p2)],82,2⟩)] [(4,one ⟨hls kk (rHv (tabV 5 zo M)),46,0⟩),(5,inF zo 28 77 M)]:=by
 have hm:Try.prog.follows .mixedOrders=true:=by kernel_rfl
 have hd_:∀ x_ ∈ ([(0,false,one ⟨hls k (rY l),t0,0⟩),(1,true,one ⟨[.slice (some ⟨0,k,none⟩) n 0,.int .i64 (p)],82,2⟩),(2,false,one ⟨rHv (tabV 3 zo T),46,0⟩),(3,false,inF zo 28 0 T)]:List (Nat × Bool × Fam)),∀ k_ y_,x_.2.2 k_=some y_→DetB (lt 4) y_:=by
  intro x_ hx k_ y_ e
  simp only [List.mem_cons,List.not_mem_nil,or_false] at hx
  rcases hx with rfl|rfl|rfl|rfl
  ·exact det_code e
  ·exact det_ok rfl e
  ·exact det_tab (k0:=0) rfl e
  ·exact det_in e
 obtain ⟨h0,h1,h2,rfl⟩:=len3 (ok_3 hk)
 have b0:=lk_B0 hk h0 (by simp)
 have b1:=lk_B0 hk h1 (by simp)
 have b2:=lk_B0 hk h2 (by simp)
 refine fn_some (u0:=4) Try.func43 rfl rfl (gets rfl rfl rfl hd_ rfl) ?_
 clear hd_
 refine vc_seq ?_
 refine vc_region hm ?_
 refine gM trivial (.inr rfl) rfl rfl rfl ?_
 refine rg_nil nofun ?_
 refine vc_seq ?_
 refine vc_region hm ?_
 refine gM trivial (.inl rfl) rfl rfl rfl ?_
 refine gCT (as':=[(4,one ⟨rHv (tabV 5 zo [h0,h1,h2]),46,2⟩),(5,inF zo 28 2 [h0,h1,h2])]) (v':=.slice (some ⟨4,0,none⟩) 3 0) 6 [nA (nm 2 (0)),nF 3,nF 4,nF 5] [2,3] (spec_l4Copy2_c (T:=[h0,h1,h2]) (kk:=0) (cc:=0) (lk_T hk) (lk_B hk)) trivial rfl rfl rfl rfl rfl ⟨aTab (k:=0) rfl rfl rfl rfl (.inl rfl) (.inl rfl) rfl rfl,aIn rfl rfl (.inl rfl) (.inl rfl) rfl,trivial⟩ ⟨rTab rfl rfl rfl,rIn rfl,trivial⟩ ⟨rfl,rfl⟩ rfl rfl rfl ?_
 refine gM trivial (.inr rfl) rfl rfl rfl ?_
 refine rg_nil nofun ?_
 refine vc_seq ?_
 refine vc_seq ?_
 refine vc_re (S2:=⟨7,[(0,.pointer (some ⟨1,0,none⟩)),(5,.slice (some ⟨4,0,none⟩) 3 0)],[(0,false,one ⟨hls k (rY l),t0,0⟩),(1,true,one ⟨[.slice (some ⟨0,k,none⟩) n 0,.int .i64 (p)],82,2⟩),(4,true,one ⟨[.slice (some ⟨5,0,none⟩) h0.r.length 0,.slice (some ⟨6,0,none⟩) h0.w.length 0,.slice (some ⟨2005,0,none⟩) h1.r.length 0,.slice (some ⟨3005,0,none⟩) h1.w.length 0,.slice (some ⟨4005,0,none⟩) h2.r.length 0,.slice (some ⟨5005,0,none⟩) h2.w.length 0],46,2⟩),(5,true,dropF (inF zo 28 2 [h0,h1,h2]) 1),(6,true,one ⟨rSp h0.w,28,2⟩)]⟩) (re_mk (ms:=[0,1,2,3,4,5]) (C:=6) (g:=nLs [nm 5 1]) rfl ⟨⟨⟨rfl,rfl⟩,rfl⟩,⟨⟨rfl,rfl⟩,rfl⟩,trivial⟩ ⟨ktCode rfl rfl,ktRow rfl rfl rfl (BlkW.refl _) id rfl,ktRow rfl rfl rfl ⟨.inl rfl,fun _=>rfl,.inr (.inl rfl),fun q=>(by cases q)⟩ id rfl,ktSub (fun k y hy=>inF_flat hy) rfl id rfl,bent_k rfl,trivial⟩ rfl rfl (rig_of rfl) (hg_one (by intro x hx;simp only [List.mem_cons,List.not_mem_nil,or_false] at hx;rcases hx with rfl|rfl|rfl|rfl|rfl <;> intro e k hk <;> first|(exact absurd e (nbq rfl))|(by_cases q:k=0 <;> simp_all [one])) (by intro x hx;simp only [List.mem_cons,List.not_mem_nil,or_false] at hx;rcases hx with rfl|rfl|rfl|rfl|rfl <;> intro hne <;> first|exact absurd rfl hne|exact ⟨of_blt rfl,fun e=>absurd e (nbq rfl)⟩|exact ⟨of_blt rfl,fun _=>rfl⟩) (by decide)) rfl) ?_
 refine vc_region hm ?_
 refine gM trivial (.inl rfl) rfl rfl rfl ?_
 obtain ⟨E1,hE1,x1,x1a,x1b,rfl⟩:=pick_c (k:=k) (t0:=t0) (p:=p) hl hn (by omega) (by omega) (m:=40) (by omega) (by omega)
 refine gCF (ups':=[(1,one ⟨[.slice (some ⟨0,k,none⟩) n 0,.int .i64 (p + 1)],82,2⟩)]) (as':=[]) (v':=.int .i64 x1) 7 [0,1] hE1 trivial rfl rfl rfl rfl ⟨rCode rfl rfl,rCells rfl ⟨rfl,rfl,.inr rfl⟩ rfl,trivial⟩ ⟨frOne rfl rfl,trivial⟩ trivial rfl rfl (ho1 ⟨_,rfl⟩) (hu1 rfl) rfl rfl ?_
 refine rg_nil nofun ?_
 refine vc_block ?_
 refine vc_seq ?_
 refine vc_region hm ?_
 refine gI trivial rfl rfl rfl rfl rfl rfl ?_
 refine gM trivial (.inr rfl) rfl rfl rfl ?_
 refine rg_nil nofun ?_
 refine cI rfl (fun c10=>?_) (fun c10=>?_)
 ·skip
  have p10:=eq_of_beq c10
  refine vc_seq ?_
  refine vc_region hm ?_
  refine gM trivial (.inl rfl) rfl rfl rfl ?_
  refine gTailO trivial rfl rfl rfl rfl rfl rfl rfl rfl rfl rfl (by decide) (by decide) ?_
  refine gM trivial (.inr rfl) rfl rfl rfl ?_
  refine rg_nil nofun ?_
  refine vc_re (S2:=⟨6,[(4,.slice (some ⟨4,2,none⟩) ([h1,h2]:List Ho).length 1)],[(1,true,one ⟨[.slice (some ⟨0,k,none⟩) n 0,.int .i64 (p + 1)],82,2⟩),(4,true,one ⟨hls 2 (rHv (tabV 5 zo ([h1,h2]:List Ho))),46,0⟩),(5,true,inF zo 28 77 ([h1,h2]:List Ho))]⟩) (re_list (ms:=[0,1,2,3,4]) (C:=5) (l:=[2005,3005,4005,5005]) rfl ⟨⟨⟨rfl,rfl⟩,rfl⟩,trivial⟩ ⟨ktRow rfl rfl rfl (BlkW.refl _) id rfl,(by rw [tab2];exact ktRow rfl rfl rfl ⟨.inr ⟨rfl,holOf (fun h=>absurd h (List.cons_ne_nil _ _)) (fun i v hv hh=>by rcases i with _|_|_|_|_|_|i <;> first|exact hv|exact absurd (Option.some.inj hv).symm hh|cases hv)⟩,fun q=>absurd rfl q,.inl rfl,fun _=>.inr (Nat.le_of_ble_eq_true rfl)⟩ id rfl),ktCL (fun j hj n' hn=>bent_f (by rcases j with _|_|_|_|_|_|_|_|j <;> first|(cases hn;exact ⟨_,_,rfl,rfl,rfl,rfl,nbq rfl⟩)|cases hn)) (fun j hj hn=>by rcases j with _|_|_|_|_|_|_|_|j <;> first|rfl|(exfalso;simp only [List.length_cons,List.length_nil] at hj;omega)|(cases hn;done)) rfl,trivial⟩ rfl rfl (rig_of rfl) rfl rfl rfl) ?_
  refine vc_ret ?_
  exact ⟨mkF (.slice (some ⟨4,2,none⟩) ([h1,h2]:List Ho).length 1) [0,2,3] [(1,one ⟨[.slice (some ⟨0,k,none⟩) n 0,.int .i64 (p + 1)],82,2⟩)] [(4,one ⟨hls 2 (rHv (tabV 5 zo ([h1,h2]:List Ho))),46,0⟩),(5,inF zo 28 77 ([h1,h2]:List Ho))],_,endsT [(4,4,one ⟨hls 2 (rHv (tabV 5 zo ([h1,h2]:List Ho))),46,0⟩),(5,5,inF zo 28 77 ([h1,h2]:List Ho))] (.inr rfl) (.tmp rfl rfl .nil) rfl rfl ⟨upOne rfl rfl rfl,trivial⟩ ⟨asTabK rfl rfl rfl,asIn rfl,trivial⟩ rfl,([h1,h2]:List Ho),2,1,_,(Nat.le_of_ble_eq_true rfl),(by intro x hx;simp only [List.mem_cons,List.not_mem_nil,or_false] at hx;rcases hx with rfl|rfl <;> refine ⟨?_,?_⟩ <;> (try dsimp only) <;> (try simp only [List.length_append,List.length_cons,List.length_nil]) <;> omega),(by omega),(by omega),rfl⟩
 ·skip
  have p10:=ne_of_beq_false c10
  refine vc_seq ?_
  refine vc_region hm ?_
  refine gI trivial rfl rfl rfl rfl rfl rfl ?_
  refine gM trivial (.inr rfl) rfl rfl rfl ?_
  refine rg_nil nofun ?_
  refine cI rfl (fun c14=>?_) (fun c14=>?_)
  ·skip
   have p14:=eq_of_beq c14
   refine vc_region hm ?_
   refine gM trivial (.inl rfl) rfl rfl rfl ?_
   refine gM trivial (.inl rfl) rfl rfl rfl ?_
   refine gX trivial rfl rfl rfl rfl rfl rfl rfl rfl (by decide) (by decide) (fun _ h=>nomatch h) ?_
   refine gF trivial rfl rfl rfl rfl rfl ?_
   refine gL trivial rfl rfl rfl rfl rfl rfl rfl rfl ?_
   refine gM trivial (.inl rfl) rfl rfl rfl ?_
   obtain ⟨E4,hE4,s4,p4,s4a,s4b,s4c,q4a,q4b,rfl⟩:=span_c (k:=k) (t0:=t0) (p:=p + 1) hl hn (by omega) (by omega) 
   refine gCF (ups':=[(1,one ⟨[.slice (some ⟨0,k,none⟩) n 0,.int .i64 (p4)],82,2⟩)]) (as':=[]) (v':=vSp s4) 7 [0,1] hE4 trivial rfl rfl rfl rfl ⟨rCode rfl rfl,rCells rfl ⟨rfl,rfl,.inr rfl⟩ rfl,trivial⟩ ⟨frOne rfl rfl,trivial⟩ trivial rfl rfl (ho1 ⟨_,rfl⟩) (hu1 rfl) rfl rfl ?_
   refine gR (u':=8) (out:=rSp [s4]) trivial rfl rfl rfl rfl rfl rfl rfl rfl rfl rfl rfl rfl rfl rfl ?_
   refine gAp (u':=9) trivial rfl rfl rfl rfl rfl rfl rfl rfl rfl rfl rfl rfl (by rw [rowL_len (n:=2) (fun _=>rfl)]) (Nat.le_refl _) rfl (show (h0.w.length + 1) * (16 + 1)≤140737488355328 by omega) (row_snoc (enc:=eSp) (x:=s4)) rfl ?_
   refine gX trivial rfl rfl rfl rfl rfl rfl rfl rfl (by decide) (by decide) (fun _ h=>nomatch h) ?_
   refine gF trivial rfl rfl rfl rfl rfl ?_
   refine gT trivial rfl rfl rfl rfl rfl rfl rfl rfl rfl rfl (Nat.le_of_ble_eq_true rfl) rfl ?_
   refine rg_nil (fun _=>by kernel_rfl) ?_
   refine vc_seq ?_
   refine vc_region hm ?_
   refine gM trivial (.inl rfl) rfl rfl rfl ?_
   refine gM trivial (.inr rfl) rfl rfl rfl ?_
   refine rg_nil nofun ?_
   have hw1:h0.w.length + 1=(h0.w ++ [s4]).length:=by rw [List.length_append];rfl
   rw [hw1]
   refine vc_re (S2:=⟨6,[(4,.slice (some ⟨4,0,none⟩) ([⟨h0.r,h0.w ++ [s4]⟩,h1,h2]:List Ho).length 0)],[(1,true,one ⟨[.slice (some ⟨0,k,none⟩) n 0,.int .i64 (p4)],82,2⟩),(4,true,one ⟨hls 0 (rHv (tabV 5 zo ([⟨h0.r,h0.w ++ [s4]⟩,h1,h2]:List Ho))),46,0⟩),(5,true,inF zo 28 77 ([⟨h0.r,h0.w ++ [s4]⟩,h1,h2]:List Ho))]⟩) (re_list (ms:=[0,1,2,3,4]) (C:=5) (l:=[5,8,2005,3005,4005,5005]) rfl ⟨⟨⟨rfl,rfl⟩,rfl⟩,trivial⟩ ⟨ktRow rfl rfl rfl (BlkW.refl _) id rfl,(by rw [tab3];exact ktRow rfl rfl rfl ⟨.inl rfl,fun q=>absurd rfl q,.inl rfl,fun _=>.inr (Nat.le_of_ble_eq_true rfl)⟩ id rfl),ktCL (fun j hj n' hn=>bent_f (by rcases j with _|_|_|_|_|_|_|_|j <;> first|(cases hn;exact ⟨_,_,rfl,rfl,rfl,rfl,nbq rfl⟩)|cases hn)) (fun j hj hn=>by rcases j with _|_|_|_|_|_|_|_|j <;> first|rfl|(exfalso;simp only [List.length_cons,List.length_nil] at hj;omega)|(cases hn;done)) rfl,trivial⟩ rfl rfl (rig_of rfl) rfl rfl rfl) ?_
   refine vc_ret ?_
   exact ⟨mkF (.slice (some ⟨4,0,none⟩) ([⟨h0.r,h0.w ++ [s4]⟩,h1,h2]:List Ho).length 0) [0,2,3] [(1,one ⟨[.slice (some ⟨0,k,none⟩) n 0,.int .i64 (p4)],82,2⟩)] [(4,one ⟨hls 0 (rHv (tabV 5 zo ([⟨h0.r,h0.w ++ [s4]⟩,h1,h2]:List Ho))),46,0⟩),(5,inF zo 28 77 ([⟨h0.r,h0.w ++ [s4]⟩,h1,h2]:List Ho))],_,endsT [(4,4,one ⟨hls 0 (rHv (tabV 5 zo ([⟨h0.r,h0.w ++ [s4]⟩,h1,h2]:List Ho))),46,0⟩),(5,5,inF zo 28 77 ([⟨h0.r,h0.w ++ [s4]⟩,h1,h2]:List Ho))] (.inr rfl) (.tmp rfl rfl .nil) rfl rfl ⟨upOne rfl rfl rfl,trivial⟩ ⟨asTabK rfl rfl rfl,asIn rfl,trivial⟩ rfl,([⟨h0.r,h0.w ++ [s4]⟩,h1,h2]:List Ho),0,0,_,(Nat.le_of_ble_eq_true rfl),(by intro x hx;simp only [List.mem_cons,List.not_mem_nil,or_false] at hx;rcases hx with rfl|rfl|rfl <;> refine ⟨?_,?_⟩ <;> (try dsimp only) <;> (try simp only [List.length_append,List.length_cons,List.length_nil]) <;> omega),(by omega),(by omega),rfl⟩
  ·skip
   have p14:=ne_of_beq_false c14
   refine vc_seq ?_
   refine vc_region hm ?_
   refine gI trivial rfl rfl rfl rfl rfl rfl ?_
   refine gM trivial (.inr rfl) rfl rfl rfl ?_
   refine rg_nil nofun ?_
   refine cI rfl (fun c27=>?_) (fun c27=>?_)
   ·skip
    have p27:=eq_of_beq c27
    refine vc_region hm ?_
    refine gM trivial (.inl rfl) rfl rfl rfl ?_
    refine gM trivial (.inl rfl) rfl rfl rfl ?_
    obtain ⟨E6,hE6,L6,p6,l6a,q6a,q6b,rfl⟩:=lists_c (k:=k) (t0:=t0) (p:=p + 1) hl hn (by omega) (by omega) 
    refine gCF (ups':=[(1,one ⟨[.slice (some ⟨0,k,none⟩) n 0,.int .i64 (p6)],82,2⟩)]) (as':=[(7,one ⟨rSp L6,28,2⟩)]) (v':=.slice (some ⟨7,0,none⟩) L6.length 0) 8 [0,1,7] hE6 trivial rfl rfl rfl rfl ⟨rCode rfl rfl,rCells rfl ⟨rfl,rfl,.inr rfl⟩ rfl,trivial⟩ ⟨frOne rfl rfl,trivial⟩ ⟨frFlat (rSp_flat _) rfl,trivial⟩ rfl rfl (ho1 ⟨_,rfl⟩) (hu1 rfl) rfl rfl ?_
    refine gX trivial rfl rfl rfl rfl rfl rfl rfl rfl (by decide) (by decide) (fun _ h=>nomatch h) ?_
    refine gF trivial rfl rfl rfl rfl rfl ?_
    refine gT trivial rfl rfl rfl rfl rfl rfl rfl rfl rfl rfl (Nat.le_of_ble_eq_true rfl) rfl ?_
    refine rg_nil nofun ?_
    refine vc_seq ?_
    refine vc_region hm ?_
    refine gM trivial (.inl rfl) rfl rfl rfl ?_
    refine gM trivial (.inr rfl) rfl rfl rfl ?_
    refine rg_nil nofun ?_
    refine vc_re (S2:=⟨6,[(4,.slice (some ⟨4,0,none⟩) ([h0,⟨L6,h1.w⟩,h2]:List Ho).length 0)],[(1,true,one ⟨[.slice (some ⟨0,k,none⟩) n 0,.int .i64 (p6)],82,2⟩),(4,true,one ⟨hls 0 (rHv (tabV 5 zo ([h0,⟨L6,h1.w⟩,h2]:List Ho))),46,0⟩),(5,true,inF zo 28 77 ([h0,⟨L6,h1.w⟩,h2]:List Ho))]⟩) (re_list (ms:=[0,1,2,3,4]) (C:=5) (l:=[5,6,7,3005,4005,5005]) rfl ⟨⟨⟨rfl,rfl⟩,rfl⟩,trivial⟩ ⟨ktRow rfl rfl rfl (BlkW.refl _) id rfl,(by rw [tab3];exact ktRow rfl rfl rfl ⟨.inl rfl,fun q=>absurd rfl q,.inl rfl,fun _=>.inr (Nat.le_of_ble_eq_true rfl)⟩ id rfl),ktCL (fun j hj n' hn=>bent_f (by rcases j with _|_|_|_|_|_|_|_|j <;> first|(cases hn;exact ⟨_,_,rfl,rfl,rfl,rfl,nbq rfl⟩)|cases hn)) (fun j hj hn=>by rcases j with _|_|_|_|_|_|_|_|j <;> first|rfl|(exfalso;simp only [List.length_cons,List.length_nil] at hj;omega)|(cases hn;done)) rfl,trivial⟩ rfl rfl (rig_of rfl) rfl rfl rfl) ?_
    refine vc_ret ?_
    exact ⟨mkF (.slice (some ⟨4,0,none⟩) ([h0,⟨L6,h1.w⟩,h2]:List Ho).length 0) [0,2,3] [(1,one ⟨[.slice (some ⟨0,k,none⟩) n 0,.int .i64 (p6)],82,2⟩)] [(4,one ⟨hls 0 (rHv (tabV 5 zo ([h0,⟨L6,h1.w⟩,h2]:List Ho))),46,0⟩),(5,inF zo 28 77 ([h0,⟨L6,h1.w⟩,h2]:List Ho))],_,endsT [(4,4,one ⟨hls 0 (rHv (tabV 5 zo ([h0,⟨L6,h1.w⟩,h2]:List Ho))),46,0⟩),(5,5,inF zo 28 77 ([h0,⟨L6,h1.w⟩,h2]:List Ho))] (.inr rfl) (.tmp rfl rfl .nil) rfl rfl ⟨upOne rfl rfl rfl,trivial⟩ ⟨asTabK rfl rfl rfl,asIn rfl,trivial⟩ rfl,([h0,⟨L6,h1.w⟩,h2]:List Ho),0,0,_,(Nat.le_of_ble_eq_true rfl),(by intro x hx;simp only [List.mem_cons,List.not_mem_nil,or_false] at hx;rcases hx with rfl|rfl|rfl <;> refine ⟨?_,?_⟩ <;> (try dsimp only) <;> (try simp only [List.length_append,List.length_cons,List.length_nil]) <;> omega),(by omega),(by omega),rfl⟩
   ·skip
    have p27:=ne_of_beq_false c27
    refine vc_seq ?_
    refine vc_region hm ?_
    refine gI trivial rfl rfl rfl rfl rfl rfl ?_
    refine gM trivial (.inr rfl) rfl rfl rfl ?_
    refine rg_nil nofun ?_
    refine cI rfl (fun c34=>?_) (fun c34=>?_)
    ·skip
     have p34:=eq_of_beq c34
     refine vc_region hm ?_
     refine gM trivial (.inl rfl) rfl rfl rfl ?_
     refine gU trivial rfl rfl rfl rfl rfl rfl rfl rfl ?_
     refine gR (u':=8) trivial rfl rfl rfl rfl rfl rfl rfl rfl rfl rfl rfl rfl rfl rfl ?_
     refine gAp (u':=9) trivial rfl rfl rfl rfl rfl rfl rfl rfl rfl rfl rfl rfl rfl (Nat.le_refl _) rfl (show (3 + 1) * (48 + 1)≤140737488355328 by decide) rfl rfl ?_
     refine gM trivial (.inr rfl) rfl rfl rfl ?_
     refine rg_nil nofun ?_
     refine vc_seq ?_
     refine vc_region hm ?_
     refine gM trivial (.inl rfl) rfl rfl rfl ?_
     refine gM trivial (.inr rfl) rfl rfl rfl ?_
     refine rg_nil nofun ?_
     refine vc_re (S2:=⟨6,[(4,.slice (some ⟨4,0,none⟩) ([h0,h1,h2,⟨[],[]⟩]:List Ho).length 0)],[(1,true,one ⟨[.slice (some ⟨0,k,none⟩) n 0,.int .i64 (p + 1)],82,2⟩),(4,true,one ⟨hls 0 (rHv (tabV 5 zo ([h0,h1,h2,⟨[],[]⟩]:List Ho))),46,0⟩),(5,true,inF zo 28 77 ([h0,h1,h2,⟨[],[]⟩]:List Ho))]⟩) (re_list (ms:=[0,1,2,3,8]) (C:=5) (l:=[5,6,2005,3005,4005,5005]) rfl ⟨⟨⟨rfl,rfl⟩,rfl⟩,trivial⟩ ⟨ktRow rfl rfl rfl (BlkW.refl _) id rfl,(by rw [tab4];exact ktRow rfl rfl rfl ⟨.inl rfl,fun q=>absurd rfl q,.inl rfl,fun _=>.inr (Nat.le_of_ble_eq_true rfl)⟩ id rfl),ktCL (fun j hj n' hn=>bent_f (by rcases j with _|_|_|_|_|_|_|_|j <;> first|(cases hn;exact ⟨_,_,rfl,rfl,rfl,rfl,nbq rfl⟩)|cases hn)) (fun j hj hn=>by rcases j with _|_|_|_|_|_|_|_|j <;> first|rfl|(exfalso;simp only [List.length_cons,List.length_nil] at hj;omega)|(cases hn;done)) rfl,trivial⟩ rfl rfl (rig_of rfl) rfl rfl rfl) ?_
     refine vc_ret ?_
     exact ⟨mkF (.slice (some ⟨4,0,none⟩) ([h0,h1,h2,⟨[],[]⟩]:List Ho).length 0) [0,2,3] [(1,one ⟨[.slice (some ⟨0,k,none⟩) n 0,.int .i64 (p + 1)],82,2⟩)] [(4,one ⟨hls 0 (rHv (tabV 5 zo ([h0,h1,h2,⟨[],[]⟩]:List Ho))),46,0⟩),(5,inF zo 28 77 ([h0,h1,h2,⟨[],[]⟩]:List Ho))],_,endsT [(4,4,one ⟨hls 0 (rHv (tabV 5 zo ([h0,h1,h2,⟨[],[]⟩]:List Ho))),46,0⟩),(5,5,inF zo 28 77 ([h0,h1,h2,⟨[],[]⟩]:List Ho))] (.inr rfl) (.tmp rfl rfl .nil) rfl rfl ⟨upOne rfl rfl rfl,trivial⟩ ⟨asTabK rfl rfl rfl,asIn rfl,trivial⟩ rfl,([h0,h1,h2,⟨[],[]⟩]:List Ho),0,0,_,(Nat.le_of_ble_eq_true rfl),(by intro x hx;simp only [List.mem_cons,List.not_mem_nil,or_false] at hx;rcases hx with rfl|rfl|rfl|rfl <;> refine ⟨?_,?_⟩ <;> (try dsimp only) <;> (try simp only [List.length_append,List.length_cons,List.length_nil]) <;> omega),(by omega),(by omega),rfl⟩
    ·skip
     have p34:=ne_of_beq_false c34
     refine vc_skip ?_
     refine vc_seq ?_
     refine vc_region hm ?_
     refine gM trivial (.inl rfl) rfl rfl rfl ?_
     refine gM trivial (.inr rfl) rfl rfl rfl ?_
     refine rg_nil nofun ?_
     refine vc_re (S2:=⟨6,[(4,.slice (some ⟨4,0,none⟩) ([h0,h1,h2]:List Ho).length 0)],[(1,true,one ⟨[.slice (some ⟨0,k,none⟩) n 0,.int .i64 (p + 1)],82,2⟩),(4,true,one ⟨hls 0 (rHv (tabV 5 zo ([h0,h1,h2]:List Ho))),46,0⟩),(5,true,inF zo 28 77 ([h0,h1,h2]:List Ho))]⟩) (re_list (ms:=[0,1,2,3,4]) (C:=5) (l:=[5,6,2005,3005,4005,5005]) rfl ⟨⟨⟨rfl,rfl⟩,rfl⟩,trivial⟩ ⟨ktRow rfl rfl rfl (BlkW.refl _) id rfl,(by rw [tab3];exact ktRow rfl rfl rfl ⟨.inl rfl,fun q=>absurd rfl q,.inl rfl,fun _=>.inr (Nat.le_of_ble_eq_true rfl)⟩ id rfl),ktCL (fun j hj n' hn=>bent_f (by rcases j with _|_|_|_|_|_|_|_|j <;> first|(cases hn;exact ⟨_,_,rfl,rfl,rfl,rfl,nbq rfl⟩)|cases hn)) (fun j hj hn=>by rcases j with _|_|_|_|_|_|_|_|j <;> first|rfl|(exfalso;simp only [List.length_cons,List.length_nil] at hj;omega)|(cases hn;done)) rfl,trivial⟩ rfl rfl (rig_of rfl) rfl rfl rfl) ?_
     refine vc_ret ?_
     exact ⟨mkF (.slice (some ⟨4,0,none⟩) ([h0,h1,h2]:List Ho).length 0) [0,2,3] [(1,one ⟨[.slice (some ⟨0,k,none⟩) n 0,.int .i64 (p + 1)],82,2⟩)] [(4,one ⟨hls 0 (rHv (tabV 5 zo ([h0,h1,h2]:List Ho))),46,0⟩),(5,inF zo 28 77 ([h0,h1,h2]:List Ho))],_,endsT [(4,4,one ⟨hls 0 (rHv (tabV 5 zo ([h0,h1,h2]:List Ho))),46,0⟩),(5,5,inF zo 28 77 ([h0,h1,h2]:List Ho))] (.inr rfl) (.tmp rfl rfl .nil) rfl rfl ⟨upOne rfl rfl rfl,trivial⟩ ⟨asTabK rfl rfl rfl,asIn rfl,trivial⟩ rfl,([h0,h1,h2]:List Ho),0,0,_,(Nat.le_of_ble_eq_true rfl),(by intro x hx;simp only [List.mem_cons,List.not_mem_nil,or_false] at hx;rcases hx with rfl|rfl|rfl <;> refine ⟨?_,?_⟩ <;> (try dsimp only) <;> (try simp only [List.length_append,List.length_cons,List.length_nil]) <;> omega),(by omega),(by omega),rfl⟩
theorem asRd {m:Nat→Nat} {u j:Nat} {x:Blk} {h:List (Nat × Bool × Fam)} (hl:h.lookup j=some (true,one (x.rn m))) (hk:x.cs.all (ok1 u)=true):h.lookup j=some (true,rnF m (one x))∧∀ k y,one x k=some y→DetB (lt u) y:=⟨by rw [rnF_one];exact hl,fun k y e=>det_ok (t:=x.t) (e:=x.e) hk e⟩
theorem open_c {l:List Int} {k:Nat} (hl:ByL l):∃ E,FDoes Try.prog 42 [.slice (some ⟨0,k,none⟩) l.length 0] (hp [(0,false,one ⟨hls k (rY l),capT + l.length,0⟩)]) E∧∃ n:Nat,n≤l.length∧E=mkF (.pointer (some ⟨1,0,none⟩)) [0] [] [(1,one ⟨[.slice (some ⟨0,k,none⟩) n 0,.int .i64 (0)],82,2⟩)]:=by
 have hm:Try.prog.follows .mixedOrders=true:=by kernel_rfl
 have hd_:∀ x_ ∈ ([(0,false,one ⟨hls k (rY l),capT + l.length,0⟩)]:List (Nat × Bool × Fam)),∀ k_ y_,x_.2.2 k_=some y_→DetB (lt 1) y_:=by
  intro x_ hx k_ y_ e
  simp only [List.mem_cons,List.not_mem_nil,or_false] at hx
  subst hx
  exact det_code e
 refine fn_some (u0:=1) Try.func42 rfl rfl (gets rfl rfl rfl hd_ rfl) ?_
 clear hd_
 refine vc_seq ?_
 refine vc_region hm ?_
 refine gM trivial (.inr rfl) rfl rfl rfl ?_
 refine rg_nil nofun ?_
 refine vc_seq ?_
 refine vc_seq ?_
 refine vc_region hm ?_
 refine gM trivial (.inl rfl) rfl rfl rfl ?_
 refine gK trivial rfl rfl rfl rfl rfl rfl (hls_nil fun e=>(by have:=rY_nil e;omega)) ?_
 refine gI trivial rfl rfl rfl rfl rfl rfl ?_
 refine rg_nil nofun ?_
 refine cI rfl (fun c5=>?_) (fun c5=>?_)
 ·skip
  have p5:=of_decide_eq_true c5
  refine vc_region hm ?_
  refine gM trivial (.inl rfl) rfl rfl rfl ?_
  refine gHead (m:=2000) trivial rfl rfl rfl rfl rfl rfl rfl rfl (hls_ne (rY_ne (by omega))) (by omega) ?_
  refine gM trivial (.inr rfl) rfl rfl rfl ?_
  refine rg_nil nofun ?_
  refine vc_seq ?_
  refine vc_region hm ?_
  refine gM trivial (.inl rfl) rfl rfl rfl ?_
  refine gU trivial rfl rfl rfl rfl rfl rfl rfl rfl ?_
  refine gB (u':=2) trivial rfl rfl rfl rfl rfl rfl rfl rfl ?_
  refine gM trivial (.inr rfl) rfl rfl rfl ?_
  refine rg_nil nofun ?_
  refine vc_ret ?_
  exact ⟨mkF (.pointer (some ⟨1,0,none⟩)) [0] [] [(1,one ⟨[.slice (some ⟨0,k,none⟩) 2000 0,.int .i64 0],82,2⟩)],_,endsT [(1,1,one ⟨[.slice (some ⟨0,k,none⟩) 2000 0,.int .i64 0],82,2⟩)] (.inr rfl) (.tmp rfl rfl .nil) rfl rfl trivial ⟨asRd rfl rfl,trivial⟩ rfl,2000,(by omega),rfl⟩
 ·skip
  have p5:=of_decide_eq_false c5
  refine vc_skip ?_
  refine vc_seq ?_
  refine vc_region hm ?_
  refine gM trivial (.inl rfl) rfl rfl rfl ?_
  refine gU trivial rfl rfl rfl rfl rfl rfl rfl rfl ?_
  refine gB (u':=2) trivial rfl rfl rfl rfl rfl rfl rfl rfl ?_
  refine gM trivial (.inr rfl) rfl rfl rfl ?_
  refine rg_nil nofun ?_
  refine vc_ret ?_
  exact ⟨mkF (.pointer (some ⟨1,0,none⟩)) [0] [] [(1,one ⟨[.slice (some ⟨0,k,none⟩) l.length 0,.int .i64 0],82,2⟩)],_,endsT [(1,1,one ⟨[.slice (some ⟨0,k,none⟩) l.length 0,.int .i64 0],82,2⟩)] (.inr rfl) (.tmp rfl rfl .nil) rfl rfl trivial ⟨asRd rfl rfl,trivial⟩ rfl,l.length,(by omega),rfl⟩
theorem ask_c {l:List Int} {k:Nat} (hl:ByL l):∃ E,FDoes Try.prog 53 [.slice (some ⟨0,k,none⟩) l.length 0] (hp [(0,false,one ⟨hls k (rY l),capT + l.length,0⟩)]) E∧∃ (M:List Ho) (kk cc:Nat) (who:Int) (write:Bool) (s:Sp),M.length≤4∧(∀ h ∈ M,h.r.length≤100∧h.w.length≤100)∧E=mkF (.tuple #[.slice (some ⟨1,kk,none⟩) M.length cc,.int .i64 who,.bool write,vSp s]) [0] [] [(1,one ⟨hls kk (rHv (tabV 2 zo M)),46,0⟩),(2,inF zo 28 77 M)]:=by
 have hm:Try.prog.follows .mixedOrders=true:=by kernel_rfl
 have hd_:∀ x_ ∈ ([(0,false,one ⟨hls k (rY l),capT + l.length,0⟩)]:List (Nat × Bool × Fam)),∀ k_ y_,x_.2.2 k_=some y_→DetB (lt 1) y_:=by
  intro x_ hx k_ y_ e
  simp only [List.mem_cons,List.not_mem_nil,or_false] at hx
  subst hx
  exact det_code e
 refine fn_some (u0:=1) Try.func53 rfl rfl (gets rfl rfl rfl hd_ rfl) ?_
 clear hd_
 refine vc_seq ?_
 refine vc_region hm ?_
 refine gM trivial (.inr rfl) rfl rfl rfl ?_
 refine gM trivial (.inr rfl) rfl rfl rfl ?_
 refine gM trivial (.inr rfl) rfl rfl rfl ?_
 refine gZ (u':=2) trivial rfl rfl rfl rfl rfl rfl rfl rfl ?_
 refine rg_nil nofun ?_
 refine vc_seq ?_
 refine vc_region hm ?_
 refine gM trivial (.inl rfl) rfl rfl rfl ?_
 obtain ⟨En1,hEn1,n,hn,rfl⟩:=open_c (l:=l) (k:=k) hl
 have hp0:(0:Int)≤0:=Int.le_refl _
 refine gCF (ups':=[]) (as':=[(2,one ⟨[.slice (some ⟨0,k,none⟩) n 0,.int .i64 (0)],82,2⟩)]) (v':=.pointer (some ⟨2,0,none⟩)) 3 [0,2] hEn1 trivial rfl rfl rfl rfl ⟨rCode rfl rfl,trivial⟩ trivial ⟨frOne rfl rfl,trivial⟩ rfl rfl (fun x hx=>nomatch hx) (fun x hx=>nomatch hx) rfl rfl ?_
 refine gM trivial (.inr rfl) rfl rfl rfl ?_
 refine rg_nil nofun ?_
 refine vc_seq ?_
 refine vc_region hm ?_
 refine gM trivial (.inl rfl) rfl rfl rfl ?_
 refine gM trivial (.inl rfl) rfl rfl rfl ?_
 obtain ⟨E2,hE2,T2,p2,k2,q2a,q2b,rfl⟩:=l4Some_c (k:=k) (t0:=capT + l.length) (p:=0) hl hn (by omega) (by omega) 
 refine gCF (ups':=[(2,one ⟨[.slice (some ⟨0,k,none⟩) n 0,.int .i64 (p2)],82,2⟩)]) (as':=[(3,one ⟨rHv (tabV 4 zo T2),46,77⟩),(4,inF zo 28 77 T2)]) (v':=.slice (some ⟨3,0,none⟩) T2.length 0) 5 [0,2,3,4] hE2 trivial rfl rfl rfl rfl ⟨rCode rfl rfl,rCells rfl ⟨rfl,rfl,.inr rfl⟩ rfl,trivial⟩ ⟨frOne rfl rfl,trivial⟩ ⟨frTab (k:=0) rfl rfl rfl,frIn rfl,trivial⟩ rfl rfl (ho1 ⟨_,rfl⟩) (hu1 rfl) rfl rfl ?_
 obtain ⟨E3,hE3,M3,kk3,cc3,p3,m3a,m3b,q3a,q3b,rfl⟩:=bent_c (k:=k) (t0:=capT + l.length) (p:=p2) hl hn (by omega) (by omega) (T:=T2) k2
 refine gCF (ups':=[(2,one ⟨[.slice (some ⟨0,k,none⟩) n 0,.int .i64 (p3)],82,2⟩)]) (as':=[(5,one ⟨hls kk3 (rHv (tabV 6 zo M3)),46,0⟩),(6,inF zo 28 77 M3)]) (v':=.slice (some ⟨5,kk3,none⟩) M3.length cc3) 7 [0,2,3,4,5,6] hE3 trivial rfl rfl rfl rfl ⟨rCode rfl rfl,rCells rfl ⟨rfl,rfl,.inr rfl⟩ rfl,rTb (k:=0) rfl rfl rfl,rInT rfl rfl,trivial⟩ ⟨frOne rfl rfl,trivial⟩ ⟨frTab rfl rfl rfl,frIn rfl,trivial⟩ rfl rfl (ho1 ⟨_,rfl⟩) (hu1 rfl) rfl rfl ?_
 refine gM trivial (.inr rfl) rfl rfl rfl ?_
 refine rg_nil nofun ?_
 refine vc_seq ?_
 refine vc_region hm ?_
 refine gM trivial (.inl rfl) rfl rfl rfl ?_
 obtain ⟨E4,hE4,w4,p4,q4a,q4b,rfl⟩:=whoDraw_c (k:=k) (t0:=capT + l.length) (p:=p3) hl hn (by omega) (by omega) 
 refine gCF (ups':=[(2,one ⟨[.slice (some ⟨0,k,none⟩) n 0,.int .i64 (p4)],82,2⟩)]) (as':=[]) (v':=.int .i64 w4) 7 [0,2] hE4 trivial rfl rfl rfl rfl ⟨rCode rfl rfl,rCells rfl ⟨rfl,rfl,.inr rfl⟩ rfl,trivial⟩ ⟨frOne rfl rfl,trivial⟩ trivial rfl rfl (ho1 ⟨_,rfl⟩) (hu1 rfl) rfl rfl ?_
 refine gM trivial (.inr rfl) rfl rfl rfl ?_
 refine rg_nil nofun ?_
 refine vc_seq ?_
 refine vc_region hm ?_
 refine gM trivial (.inl rfl) rfl rfl rfl ?_
 refine gM trivial (.inl rfl) rfl rfl rfl ?_
 refine gM trivial (.inl rfl) rfl rfl rfl ?_
 obtain ⟨E5,hE5,x5,x5a,x5b,rfl⟩:=pick_c (k:=k) (t0:=capT + l.length) (p:=p4) hl hn (by omega) (by omega) (m:=2) (by omega) (by omega)
 refine gCF (ups':=[(2,one ⟨[.slice (some ⟨0,k,none⟩) n 0,.int .i64 (p4 + 1)],82,2⟩)]) (as':=[]) (v':=.int .i64 x5) 7 [0,2] hE5 trivial rfl rfl rfl rfl ⟨rCode rfl rfl,rCells rfl ⟨rfl,rfl,.inr rfl⟩ rfl,trivial⟩ ⟨frOne rfl rfl,trivial⟩ trivial rfl rfl (ho1 ⟨_,rfl⟩) (hu1 rfl) rfl rfl ?_
 refine gI trivial rfl rfl rfl rfl rfl rfl ?_
 refine gM trivial (.inl rfl) rfl rfl rfl ?_
 refine gM trivial (.inl rfl) rfl rfl rfl ?_
 refine gM trivial (.inl rfl) rfl rfl rfl ?_
 obtain ⟨E7,hE7,s7,p7,q7a,q7b,rfl⟩:=part_c (k:=k) (t0:=capT + l.length) (p:=p4 + 1) hl hn (by omega) (by omega) (T:=M3) (kk:=kk3) (cc:=cc3) (who:=w4) (by omega) (fun h hh=>by have:=m3b h hh;omega)
 refine gCF (ups':=[(2,one ⟨[.slice (some ⟨0,k,none⟩) n 0,.int .i64 (p7)],82,2⟩)]) (as':=[]) (v':=vSp s7) 7 [0,2,5,6] hE7 trivial rfl rfl rfl rfl ⟨rCode rfl rfl,rCells rfl ⟨rfl,rfl,.inr rfl⟩ rfl,rTb rfl rfl rfl,rInT rfl rfl,trivial⟩ ⟨frOne rfl rfl,trivial⟩ trivial rfl rfl (ho1 ⟨_,rfl⟩) (hu1 rfl) rfl rfl ?_
 refine gM trivial (.inr rfl) rfl rfl rfl ?_
 refine gM trivial (.inr rfl) rfl rfl rfl ?_
 refine gM trivial (.inr rfl) rfl rfl rfl ?_
 refine gT trivial rfl rfl rfl rfl rfl rfl rfl rfl rfl rfl (Nat.le_of_ble_eq_true rfl) rfl ?_
 refine rg_nil nofun ?_
 refine vc_ret ?_
 exact ⟨mkF (.tuple #[.slice (some ⟨1,kk3,none⟩) M3.length cc3,.int .i64 w4,.bool (x5 == 0),vSp s7]) [0] [] [(1,one ⟨hls kk3 (rHv (tabV 2 zo M3)),46,0⟩),(2,inF zo 28 77 M3)],_,endsT [(1,5,one ⟨hls kk3 (rHv (tabV 2 zo M3)),46,0⟩),(2,6,inF zo 28 77 M3)] (.inr rfl) (.tmp rfl rfl (.tmp rfl rfl (.tmp rfl rfl (.cell rfl rfl rfl rfl rfl .nil)))) rfl rfl trivial ⟨asTabK (k0:=kk3) rfl rfl rfl,asIn rfl,trivial⟩ rfl,M3,kk3,cc3,w4,(x5 == 0),s7,m3a,m3b,rfl⟩
theorem drawBars_c {l:List Int} {k:Nat} (hl:ByL l):∃ E,FDoes Try.prog 33 [.slice (some ⟨0,k,none⟩) l.length 0] (hp [(0,false,one ⟨hls k (rY l),capT + l.length,0⟩)]) E∧∃ (M:List Ho) (kk cc:Nat) (who:Int) (write:Bool) (s:Sp),M.length≤4∧(∀ h ∈ M,h.r.length≤100∧h.w.length≤100)∧E=mkF (.tuple #[.slice (some ⟨1,kk,none⟩) M.length cc,.int .i64 who,.bool write,vSp s]) [0] [] [(1,one ⟨hls kk (rHv (tabV 2 zo M)),46,0⟩),(2,inF zo 28 77 M)]:=by
 have hm:Try.prog.follows .mixedOrders=true:=by kernel_rfl
 have hd_:∀ x_ ∈ ([(0,false,one ⟨hls k (rY l),capT + l.length,0⟩)]:List (Nat × Bool × Fam)),∀ k_ y_,x_.2.2 k_=some y_→DetB (lt 1) y_:=by
  intro x_ hx k_ y_ e
  simp only [List.mem_cons,List.not_mem_nil,or_false] at hx
  subst hx
  exact det_code e
 refine fn_some (u0:=1) Try.func33 rfl rfl (gets rfl rfl rfl hd_ rfl) ?_
 clear hd_
 refine vc_seq ?_
 refine vc_region hm ?_
 refine gM trivial (.inr rfl) rfl rfl rfl ?_
 refine gM trivial (.inr rfl) rfl rfl rfl ?_
 refine gM trivial (.inr rfl) rfl rfl rfl ?_
 refine gZ (u':=2) trivial rfl rfl rfl rfl rfl rfl rfl rfl ?_
 refine rg_nil nofun ?_
 refine vc_seq ?_
 refine vc_region hm ?_
 refine gM trivial (.inl rfl) rfl rfl rfl ?_
 obtain ⟨E1,hE1,M,kk,cc,who,write,sp,ma,mb,rfl⟩:=ask_c (l:=l) (k:=k) hl
 refine gCF (ups':=[]) (as':=[(2,one ⟨hls kk (rHv (tabV 3 zo M)),46,0⟩),(3,inF zo 28 77 M)]) (v':=.tuple #[.slice (some ⟨2,kk,none⟩) M.length cc,.int .i64 who,.bool write,vSp sp]) 4 [0,2,3] hE1 trivial rfl rfl rfl rfl ⟨rCode rfl rfl,trivial⟩ trivial ⟨frTab rfl rfl rfl,frIn rfl,trivial⟩ rfl rfl (fun x hx=>nomatch hx) (fun x hx=>nomatch hx) rfl rfl ?_
 refine gE trivial rfl rfl rfl rfl rfl rfl ?_
 refine gE trivial rfl rfl rfl rfl rfl rfl ?_
 refine gE trivial rfl rfl rfl rfl rfl rfl ?_
 refine gE trivial rfl rfl rfl rfl rfl rfl ?_
 refine gM trivial (.inr rfl) rfl rfl rfl ?_
 refine gM trivial (.inr rfl) rfl rfl rfl ?_
 refine gM trivial (.inr rfl) rfl rfl rfl ?_
 refine gT trivial rfl rfl rfl rfl rfl rfl rfl rfl rfl rfl (Nat.le_of_ble_eq_true rfl) rfl ?_
 refine rg_nil nofun ?_
 refine vc_ret ?_
 exact ⟨mkF (.tuple #[.slice (some ⟨1,kk,none⟩) M.length cc,.int .i64 who,.bool write,vSp sp]) [0] [] [(1,one ⟨hls kk (rHv (tabV 2 zo M)),46,0⟩),(2,inF zo 28 77 M)],_,endsT [(1,2,one ⟨hls kk (rHv (tabV 2 zo M)),46,0⟩),(2,3,inF zo 28 77 M)] (.inr rfl) (.tmp rfl rfl (.tmp rfl rfl (.tmp rfl rfl (.cell rfl rfl rfl rfl rfl .nil)))) rfl rfl trivial ⟨asTabK (k0:=kk) rfl rfl rfl,asIn rfl,trivial⟩ rfl,M,kk,cc,who,write,sp,ma,mb,rfl⟩
end Go.Proofs.Ytbgehlihpkefmaa.A
namespace Go.Proofs.Ytbgehlihpkefmaa.A
open Go Go.RowKit
theorem lm_all {T:List Ho} {who:Int} {write:Bool} {s:Sp} (h:lockMay T who write s=true):lockOk T=true∧whoOk who=true∧spanOk s=true∧mayH (at_ T who) write s=true:=by
 unfold lockMay at h
 simp only [Bool.and_eq_true] at h
 exact h
theorem lm_mk {T:List Ho} {who:Int} {write:Bool} {s:Sp} (h1:lockOk T=true) (h2:whoOk who=true) (h3:0≤s.lo∧s.lo<s.hi∧s.hi≤48) (h4:∀ x:Nat,s.lo≤(x:Int)→(x:Int)<s.hi→mayAt (at_ T who) write (x:Int)=true):lockMay T who write s=true:=by
 rw [lm_4 h1 h2 (by unfold spanOk;exact decide_eq_true h3)]
 exact may_2 (i:=s.hi) h4 (by omega)
theorem lm_sp {T:List Ho} {who:Int} {write:Bool} {s:Sp} (h:lockMay T who write s=true):0≤s.lo∧s.lo<s.hi∧s.hi≤48:=spanOk_in (lm_all h).2.2.1
theorem lm_at {T:List Ho} {who:Int} {write:Bool} {s:Sp} (h:lockMay T who write s=true) {x:Nat} (h0:s.lo≤(x:Int)) (h1:(x:Int)<s.hi):mayAt (at_ T who) write (x:Int)=true:=by
 have hm:=(lm_all h).2.2.2
 have hs:=lm_sp h
 cases q:mayAt (at_ T who) write (x:Int) with
 | true=>rfl
 | false=>rw [may_1 (s:=s) (by omega) h0 h1 (by omega) q] at hm;cases hm
theorem at_setH {T:List Ho} {who:Int} {h:Ho} (h0:0≤who) (h1:who<T.length):at_ (setH T who h) who=h:=by
 have:=at_set_self (xs:=T) (i:=who.toNat) (x:=h) (by omega)
 rw [show ((who.toNat:Nat):Int)=who by omega] at this
 exact this
theorem at_setH' {T:List Ho} {who w:Int} {h:Ho} (h0:0≤who) (h1:0≤w) (hne:w ≠ who):at_ (setH T who h) w=at_ T w:=by
 have:=at_set_ne (xs:=T) (i:=w.toNat) (j:=who.toNat) (x:=h) (by omega)
 rw [show ((w.toNat:Nat):Int)=w by omega] at this
 exact this
theorem lockBars_ok {T:List Ho} {who:Int} {write:Bool} {s:Sp} (h1:lockOk T=true) (h2:whoOk who=true) (h3:spanOk s=true):lockBars T who write s=barsL T who write s T.length:=by unfold lockBars;rw [if_pos (by rw [h1,h2,h3];rfl)]

abbrev spAt (i:Int):Sp:=⟨i,i + 1⟩
theorem may_pt {T:List Ho} {w:Int} {b:Bool} {i:Int} (hk:lockOk T=true) (h0:0≤w) (h1:w<3) (i0:0≤i) (i1:i<48):lockMay T w b (spAt i)=mayAt (at_ T w) b i:=by
 have hw:whoOk w=true:=by unfold whoOk;exact decide_eq_true ⟨h0,h1⟩
 have hs:0≤(spAt i).lo∧(spAt i).lo<(spAt i).hi∧(spAt i).hi≤48:=⟨i0,show i<i + 1 by omega,show i + 1≤48 by omega⟩
 cases q:mayAt (at_ T w) b i with
 | true =>
  refine lm_mk hk hw hs fun x a c=>?_
  ·have a:i≤(x:Int):=a
   have c:(x:Int)<i + 1:=c
   rw [show (x:Int)=i by omega];exact q
 | false =>
  cases q2:lockMay T w b (spAt i) with
  | false=>rfl
  | true =>
   have:=lm_at q2 (x:=i.toNat) (show i≤_ by omega) (show _<i + 1 by omega)
   rw [show ((i.toNat:Nat):Int)=i by omega,q] at this
   cases this
theorem mayAt_of {h:Ho} {b:Bool} {x:Nat}:mayAt h b (x:Int)=(ofP h.w x || (!b && ofP h.r x)):=by unfold mayAt;rw [ofP_in,ofP_in]
def cnt (f:Nat→Bool):Nat→Int
 | 0=>0
 | n + 1=>cnt f n + (if f n=true then 1 else 0)
end Go.Proofs.Ytbgehlihpkefmaa.A
namespace Go.Proofs.Ytbgehlihpkefmaa.A
open Go Go.RowKit
set_option maxHeartbeats 4000000
theorem wpAt_c (i:Int) (h0:0≤i) (h1:i≤48):FDoes Try.prog 18 [.int .i64 i] (hp []) { v:=vSp (spAt i) }:=by
 have hm:Try.prog.follows .mixedOrders=true:=by kernel_rfl
 have hd_:∀ x ∈ ([]:List (Nat × Bool × Fam)),∀ k y,x.2.2 k=some y→DetB (lt 0) y:=fun x_ hx=>(by cases hx)
 refine fn_exact (u0:=0) Try.func18 rfl rfl (gets rfl rfl rfl hd_ rfl) ?_
 clear hd_
 refine vc_seq ?_
 refine vc_region hm ?_
 refine gZ (u':=1) trivial rfl rfl rfl rfl rfl rfl rfl rfl ?_
 refine rg_nil nofun ?_
 refine vc_seq ?_
 refine vc_region hm ?_
 refine gM trivial (.inl rfl) rfl rfl rfl ?_
 refine gM trivial (.inl rfl) rfl rfl rfl ?_
 refine gA trivial rfl rfl rfl rfl rfl rfl (by omega) ?_
 refine gU trivial rfl rfl rfl rfl rfl rfl rfl rfl ?_
 refine gT trivial rfl rfl rfl rfl rfl rfl rfl rfl rfl rfl (Nat.le_of_ble_eq_true rfl) rfl ?_
 refine rg_nil nofun ?_
 refine vc_ret ?_
 exact ⟨idm,endsF (.inr rfl) (.cell rfl rfl rfl rfl rfl .nil) rfl rfl rfl⟩
theorem wpNums_c {a b:List Int} (hn:a.length≤1048576):FDoes Try.prog 35 [.slice (some ⟨0,0,none⟩) a.length 0,.slice (some ⟨1,0,none⟩) b.length 0] (hp [(0,false,one ⟨rI a,3,0⟩),(1,false,one ⟨rI b,3,0⟩)]) { v:=.bool (decide (a=b)),rd:=[0,1] }:=by
 have hm:Try.prog.follows .mixedOrders=true:=by kernel_rfl
 have hd_:∀ x_ ∈ ([(0,false,one ⟨rI a,3,0⟩),(1,false,one ⟨rI b,3,0⟩)]:List (Nat × Bool × Fam)),∀ k_ y_,x_.2.2 k_=some y_→DetB (lt 2) y_:=by
  intro x_ hx k_ y_ e
  simp only [List.mem_cons,List.not_mem_nil,or_false] at hx
  rcases hx with rfl|rfl
  ·exact det_row (rI_flat a) e
  ·exact det_row (rI_flat b) e
 refine fn_exact (u0:=2) Try.func35 rfl rfl (gets rfl rfl rfl hd_ rfl) ?_
 clear hd_
 refine vc_seq ?_
 refine vc_region hm ?_
 refine gM trivial (.inr rfl) rfl rfl rfl ?_
 refine rg_nil nofun ?_
 refine vc_seq ?_
 refine vc_seq ?_
 refine vc_region hm ?_
 refine gM trivial (.inl rfl) rfl rfl rfl ?_
 refine gK trivial rfl rfl rfl rfl rfl rfl rI_nil ?_
 refine gM trivial (.inl rfl) rfl rfl rfl ?_
 refine gK trivial rfl rfl rfl rfl rfl rfl rI_nil ?_
 refine gI trivial rfl rfl rfl rfl rfl rfl ?_
 refine rg_nil nofun ?_
 refine cI rfl (fun c10=>?_) (fun c10=>?_)
 ·skip
  have p10:=bne_iff_ne.1 c10
  refine vc_seq ?_
  refine vc_region hm ?_
  refine gM trivial (.inr rfl) rfl rfl rfl ?_
  refine rg_nil nofun ?_
  refine vc_ret ?_
  exact ⟨idm,ends0 (.inr rfl) rfl (eqB (decide_eq_false (len_ne p10))) rfl rfl rfl⟩
 ·skip
  have p10:=bne_eq_false_iff_eq.1 c10
  refine vc_skip ?_
  refine vc_seq ?_
  refine vc_seq ?_
  refine vc_region hm ?_
  refine gM trivial (.inr rfl) rfl rfl rfl ?_
  refine rg_nil nofun ?_
  refine vc_block ?_
  have hl:a.length=b.length:=by omega
  refine vc_loop' (fun n_ S_=>∃ (j:Nat),j≤a.length∧a.take j=b.take j∧n_=a.length - j∧S_=⟨2,[(0,.slice (some ⟨0,0,none⟩) a.length 0),(1,.slice (some ⟨1,0,none⟩) b.length 0),(5,.int .i64 j)],[(0,false,one ⟨rI a,3,0⟩),(1,false,one ⟨rI b,3,0⟩)]⟩) (m0:=idm) ⟨0,Nat.zero_le _,rfl,rfl,rfl⟩ (le_mk rfl ⟨⟨rfl,rfl⟩,⟨rfl,rfl⟩,⟨rfl,rfl⟩,trivial⟩ ⟨kFlat (rI_flat a) rfl id rfl,kFlat (rI_flat b) rfl id rfl,trivial⟩ rfl (fun _ _=>rfl)) ?_
  rintro n_ S_ ⟨j,hj,hk,rfl,rfl⟩
  refine vc_seq ?_
  refine vc_seq ?_
  refine vc_region hm ?_
  refine gM trivial (.inl rfl) rfl rfl rfl ?_
  refine gM trivial (.inl rfl) rfl rfl rfl ?_
  refine gK trivial rfl rfl rfl rfl rfl rfl rI_nil ?_
  refine gI trivial rfl rfl rfl rfl rfl rfl ?_
  refine rg_nil nofun ?_
  refine cI rfl (fun c14=>?_) (fun c14=>?_)
  ·skip
   have p14:=of_decide_eq_true c14
   refine vc_skip ?_
   refine vc_seq ?_
   refine vc_block ?_
   refine vc_seq ?_
   refine vc_region hm ?_
   refine gM trivial (.inl rfl) rfl rfl rfl ?_
   refine gM trivial (.inl rfl) rfl rfl rfl ?_
   refine gX trivial rfl rfl rfl rfl rfl rfl rfl rfl (by omega) (by omega) rI_ne ?_
   refine gL trivial rfl rfl rfl rfl rfl rfl rfl (lI (by omega) (by omega)) ?_
   refine gM trivial (.inl rfl) rfl rfl rfl ?_
   refine gM trivial (.inl rfl) rfl rfl rfl ?_
   refine gX trivial rfl rfl rfl rfl rfl rfl rfl rfl (by omega) (by omega) rI_ne ?_
   refine gL trivial rfl rfl rfl rfl rfl rfl rfl (lI (by omega) (by omega)) ?_
   refine gI trivial rfl rfl rfl rfl rfl rfl ?_
   refine rg_nil (fun _=>by kernel_rfl) ?_
   refine cI rfl (fun c25=>?_) (fun c25=>?_)
   ·skip
    have p25:=bne_iff_ne.1 c25
    refine vc_seq ?_
    refine vc_region hm ?_
    refine gM trivial (.inr rfl) rfl rfl rfl ?_
    refine rg_nil nofun ?_
    refine vc_ret ?_
    exact ⟨idm,ends0 (.inr rfl) rfl (eqB (decide_eq_false (at_ne p25))) rfl rfl rfl⟩
   ·skip
    have p25:=bne_eq_false_iff_eq.1 c25
    refine vc_skip ?_
    refine vc_region hm ?_
    refine gM trivial (.inl rfl) rfl rfl rfl ?_
    refine gA trivial rfl rfl rfl rfl rfl rfl (by omega) ?_
    refine gM trivial (.inr rfl) rfl rfl rfl ?_
    refine rg_nil nofun ?_
    exact lp_next (m:=idm) ⟨j + 1,(by omega),(take_step hk p14 hl p25),rfl,rfl⟩ (by omega) (le_mk rfl ⟨⟨rfl,rfl⟩,⟨rfl,rfl⟩,⟨rfl,rfl⟩,trivial⟩ ⟨kFlat (rI_flat a) rfl id rfl,kFlat (rI_flat b) rfl id rfl,trivial⟩ rfl (fun _ _=>rfl))
  ·skip
   have p14:=of_decide_eq_false c14
   refine vc_exit ?_
   refine vc_seq ?_
   refine vc_region hm ?_
   refine gM trivial (.inr rfl) rfl rfl rfl ?_
   refine rg_nil nofun ?_
   refine vc_ret ?_
   exact ⟨idm,ends0 (.inr rfl) rfl (eqB (decide_eq_true (take_all hk p14 hl))) rfl rfl rfl⟩
end Go.Proofs.Ytbgehlihpkefmaa.A
namespace Go.Proofs.Ytbgehlihpkefmaa.A
open Go Go.RowKit

theorem lk_all {T:List Ho} (h:lockOk T=true) {i:Nat} (hi:i<3):spansOk (rAt T i)=true∧spansOk (wAt T i)=true∧clearL (rAt T i) (wAt T i)=true∧∀ k,k<3→k ≠ i→clearL (wAt T i) (wAt T k)=true∧clearL (wAt T i) (rAt T k)=true:=by
 have hl:=ok_3 h
 unfold lockOk at h
 rw [Bool.and_eq_true,List.all_eq_true] at h
 have h1:=h.2 i (List.mem_range.2 (by omega))
 unfold stepS holdOk at h1
 simp only [Bool.and_eq_true,List.all_eq_true] at h1
 refine ⟨h1.1.1,h1.1.2.1,h1.1.2.2,fun k hk hne=>?_⟩
 have h2:=h1.2 k (List.mem_range.2 (by omega))
 unfold pairOk at h2
 rw [decide_eq_false hne,Bool.false_or,Bool.and_eq_true] at h2
 exact h2
theorem lk_mk {T:List Ho} (hl:T.length=3) (h:∀ i,i<3→spansOk (rAt T i)=true∧spansOk (wAt T i)=true∧clearL (rAt T i) (wAt T i)=true∧∀ k,k<3→k ≠ i→clearL (wAt T i) (wAt T k)=true∧clearL (wAt T i) (rAt T k)=true):lockOk T=true:=by
 unfold lockOk
 rw [Bool.and_eq_true,List.all_eq_true]
 refine ⟨decide_eq_true hl,fun i hi=>?_⟩
 have hi:=List.mem_range.1 hi
 obtain ⟨a,b,c,d⟩:=h i (by omega)
 unfold stepS holdOk
 simp only [Bool.and_eq_true,List.all_eq_true]
 refine ⟨⟨a,b,c⟩,fun k hk=>?_⟩
 have hk:=List.mem_range.1 hk
 unfold pairOk
 by_cases e:k=i
 ·rw [decide_eq_true e];rfl
 ·rw [decide_eq_false e,Bool.false_or,Bool.and_eq_true]
  exact d k (by omega) e
theorem rAt_set {T:List Ho} {w:Nat} {h:Ho} {i:Nat} (hw:w<T.length):rAt (setH T (w:Int) h) i=if i=w then h.r else rAt T i:=by
 unfold rAt
 split
 ·rename_i e;subst e;rw [at_setH (by omega) (by omega)]
 ·rw [at_setH' (by omega) (by omega) (by omega)]
theorem wAt_set {T:List Ho} {w:Nat} {h:Ho} {i:Nat} (hw:w<T.length):wAt (setH T (w:Int) h) i=if i=w then h.w else wAt T i:=by
 unfold wAt
 split
 ·rename_i e;subst e;rw [at_setH (by omega) (by omega)]
 ·rw [at_setH' (by omega) (by omega) (by omega)]
theorem set_ok {T:List Ho} {w:Nat} {h:Ho} (hk:lockOk T=true) (hw:w<3) (h1:spansOk h.r=true) (h2:spansOk h.w=true) (h3:clearL h.r h.w=true) (h4:∀ k,k<3→k ≠ w→clearL h.w (wAt T k)=true∧clearL h.w (rAt T k)=true∧clearL (wAt T k) h.w=true∧clearL (wAt T k) h.r=true):lockOk (setH T (w:Int) h)=true:=by
 have hl:=ok_3 hk
 have hw':w<T.length:=by omega
 refine lk_mk (by rw [setH_len,hl]) fun i hi=>?_
 obtain ⟨a,b,c,d⟩:=lk_all hk hi
 rw [rAt_set hw',wAt_set hw']
 by_cases e:i=w
 ·subst e
  rw [if_pos rfl,if_pos rfl]
  refine ⟨h1,h2,h3,fun k hk' hne=>?_⟩
  rw [rAt_set hw',wAt_set hw',if_neg hne,if_neg hne]
  exact ⟨(h4 k hk' hne).1,(h4 k hk' hne).2.1⟩
 ·rw [if_neg e,if_neg e]
  refine ⟨a,b,c,fun k hk' hne=>?_⟩
  rw [rAt_set hw',wAt_set hw']
  by_cases e2:k=w
  ·subst e2
   rw [if_pos rfl,if_pos rfl]
   exact ⟨(h4 i hi e).2.2.1,(h4 i hi e).2.2.2⟩
  ·rw [if_neg e2,if_neg e2]
   exact d k hk' hne
theorem clr_r (a:List Sp):clearL a []=true:=by unfold clearL;simp
theorem spansOk_0:spansOk []=true:=by decide
theorem off_ok {T:List Ho} {w:Nat} (hk:lockOk T=true) (hw:w<3):lockOk (setH T (w:Int) offH)=true :=
 set_ok hk hw spansOk_0 spansOk_0 rfl fun k _ _=>⟨rfl,rfl,clr_r _,clr_r _⟩
theorem off_res {T:List Ho} {w:Nat} (hk:lockOk T=true) (hw:w<3):resT T (goK (w:Int) ⟨0,48⟩ true) (w:Int) offH=setH T (w:Int) offH:=by
 have hw':whoOk (w:Int)=true:=by unfold whoOk;exact decide_eq_true (by omega)
 rw [(res_go hk (goK_4 hw' spanOk_all rfl)).1,repT_T (off_ok hk hw)]
theorem spOk1 {s:Sp} (h:spanOk s=true):spansOk [s]=true:=by
 have hs:=spanOk_in h
 have e:at_ [s] ((0:Nat):Int)=s:=rfl
 unfold spansOk
 rw [Bool.and_eq_true,List.all_eq_true]
 refine ⟨fun i hi=>?_,decide_eq_true (by show ((1:Nat):Int)≤12;decide)⟩
 have hi:i<1:=List.mem_range.1 hi
 obtain rfl:i=0:=by omega
 unfold spansAt
 rw [e,h,Bool.true_and]
 exact decide_eq_true (.inl (Int.le_refl _))
theorem lbars_len {T:List Ho} {who:Int} {write:Bool} {s:Sp} (hT:T.length≤1048576):(lockBars T who write s).length≤1048576:=by
 unfold lockBars
 split
 ·exact Nat.le_trans (bars_len _) hT
 ·exact Nat.zero_le _

def bp (M:List Ho) (who:Int) (write:Bool) (n:Nat) (i:Int):Bool:=!decide ((n:Int)=who) && (lockMay M (n:Int) true (spAt i) || (write && lockMay M (n:Int) false (spAt i)))
def ab (M:List Ho) (who:Int) (write:Bool) (n:Nat) (sp:Sp) (i:Int):Bool:=(List.range i.toNat).any fun x=>decide (sp.lo≤(x:Int)) && bp M who write n (x:Int)
section
variable {M:List Ho} {who:Int} {write:Bool} {n:Nat} {sp:Sp} {i:Int}
theorem ab_0:ab M who write n sp sp.lo=false:=by
 unfold ab
 rw [List.any_eq_false]
 intro x hx
 have:=List.mem_range.1 hx
 rw [decide_eq_false (by omega)]
 simp
theorem ab_next (h0:0≤i) (h1:sp.lo≤i):ab M who write n sp (i + 1)=(ab M who write n sp i || bp M who write n i):=by
 unfold ab
 rw [show (i + 1).toNat=i.toNat + 1 by omega,List.range_succ,List.any_append]
 simp [show max i 0=i by omega,h1]
theorem ab_T (h0:0≤i) (h1:sp.lo≤i) (h:ab M who write n sp i=true):ab M who write n sp (i + 1)=true:=by rw [ab_next h0 h1,h];rfl
theorem ab_F1 (h0:0≤i) (h1:sp.lo≤i) (h:ab M who write n sp i=false) (e:(n:Int)=who):ab M who write n sp (i + 1)=false:=by rw [ab_next h0 h1,h];unfold bp;rw [decide_eq_true e];rfl
theorem ab_T2 (h0:0≤i) (h1:sp.lo≤i) (h:ab M who write n sp i=false) (e:(n:Int) ≠ who) (q:lockMay M (n:Int) true (spAt i)=true):ab M who write n sp (i + 1)=true:=by rw [ab_next h0 h1,h];unfold bp;rw [decide_eq_false e,q];rfl
theorem ab_M (h0:0≤i) (h1:sp.lo≤i) (h:ab M who write n sp i=false) (e:(n:Int) ≠ who) (q:lockMay M (n:Int) true (spAt i)=false) (w:write=true):ab M who write n sp (i + 1)=lockMay M (n:Int) false (spAt i):=by rw [ab_next h0 h1,h];unfold bp;rw [decide_eq_false e,q,w];simp
theorem ab_F2 (h0:0≤i) (h1:sp.lo≤i) (h:ab M who write n sp i=false) (e:(n:Int) ≠ who) (q:lockMay M (n:Int) true (spAt i)=false) (w:write=false):ab M who write n sp (i + 1)=false:=by rw [ab_next h0 h1,h];unfold bp;rw [decide_eq_false e,q,w];simp
theorem clear_no {a:List Sp} {s:Sp} (ha:spansOk a=true) (hs:spanOk s=true):clearL a [s]=false↔∃ x,x<48∧ofP a x=true∧inSp s x=true:=by
 have h:=clear_iff ha (spOk1 hs)
 constructor
 ·intro q
  by_cases e:∃ x,x<48∧ofP a x=true∧inSp s x=true
  ·exact e
  ·have:clearL a [s]=true:=h.2 fun x hx p q=>e ⟨x,hx,p,by rw [← one_in];exact q⟩
   rw [this] at q;cases q
 ·rintro ⟨x,hx,p,q⟩
  cases e:clearL a [s] with
  | false=>rfl
  | true=>exact (h.1 e x hx p (by rw [one_in];exact q)).elim
theorem ab_bar (hk:lockOk M=true) (hn:n<3) (hs:spanOk sp=true):ab M who write n sp sp.hi=barB M who write sp n:=by
 have s0:=spanOk_in hs
 have o:=lk_all hk hn
 rw [Bool.eq_iff_iff]
 have e1:ab M who write n sp sp.hi=true↔(n:Int) ≠ who∧∃ x:Nat,x<48∧inSp sp x=true∧(ofP (wAt M n) x=true∨(write=true∧ofP (rAt M n) x=true)):=by
  unfold ab
  rw [List.any_eq_true]
  have pt:∀ x:Nat,x<48→∀ b,lockMay M (n:Int) b (spAt (x:Int))=(ofP (wAt M n) x || (!b && ofP (rAt M n) x)):=fun x hx b=>by
   rw [may_pt hk (by omega) (by omega) (by omega) (by omega),mayAt_of];rfl
  constructor
  ·rintro ⟨x,hx,h⟩
   have hx:=List.mem_range.1 hx
   unfold bp at h
   rw [pt x (by omega),pt x (by omega)] at h
   simp only [Bool.and_eq_true,Bool.or_eq_true,decide_eq_true_eq,Bool.not_eq_true',decide_eq_false_iff_not] at h
   refine ⟨h.2.1,x,by omega,inSp_iff.2 ⟨h.1,by omega⟩,?_⟩
   rcases h.2.2 with q|q
   ·rcases q with q|q
    ·exact .inl q
    ·simp at q
   ·rcases q.2 with q2|q2
    ·exact .inl q2
    ·exact .inr ⟨q.1,q2.2⟩
  ·rintro ⟨hne,x,hx,hin,h⟩
   have hin:=inSp_iff.1 hin
   refine ⟨x,List.mem_range.2 (by omega),?_⟩
   unfold bp
   rw [pt x hx,pt x hx,decide_eq_true hin.1,decide_eq_false hne]
   rcases h with h|⟨h1,h2⟩
   ·rw [h];rfl
   ·rw [h1,h2];simp
 rw [e1]
 unfold barB
 by_cases e:(n:Int)=who
 ·rw [decide_eq_true e]
  simp [e]
 ·rw [decide_eq_false e]
  have c1:=clear_no o.2.1 hs
  have c2:=clear_no o.1 hs
  simp only [Bool.not_false,Bool.true_and,Bool.or_eq_true,Bool.and_eq_true,Bool.not_eq_true']
  rw [c1,c2]
  constructor
  ·rintro ⟨_,x,hx,hin,h|⟨h1,h2⟩⟩
   ·exact .inl ⟨x,hx,h,hin⟩
   ·exact .inr ⟨h1,x,hx,h2,hin⟩
  ·rintro (⟨x,hx,h,hin⟩|⟨h1,x,hx,h2,hin⟩)
   ·exact ⟨e,x,hx,hin,.inl h⟩
   ·exact ⟨e,x,hx,hin,.inr ⟨h1,h2⟩⟩
theorem bl_T (h:barB M who write sp n=true):barsL M who write sp (n + 1)=barsL M who write sp n ++ [(n:Int)]:=by unfold barsL;rw [List.range_succ,List.filter_append,List.map_append];simp [h]
theorem bl_F (h:barB M who write sp n=false):barsL M who write sp (n + 1)=barsL M who write sp n:=by unfold barsL;rw [List.range_succ,List.filter_append,List.map_append];simp [h]
theorem bl_T1 (h:barB M who write sp n=true):((barsL M who write sp (n + 1)).length:Int)=((barsL M who write sp n).length:Int) + 1:=by rw [bl_T h,List.length_append];rfl
theorem bl_F1 (h:barB M who write sp n=false):((barsL M who write sp (n + 1)).length:Int)=((barsL M who write sp n).length:Int):=by rw [bl_F h]
theorem whoOk_mk {w:Int} (h0:¬ w<0) (h1:¬ w ≥ 3):whoOk w=true:=by unfold whoOk;exact decide_eq_true (by omega)
theorem bl_pre:∀ (m:Nat),n≤m→∃ r,barsL M who write sp m=barsL M who write sp n ++ r
 | 0,h=>⟨[],by rw [show n=0 by omega];simp⟩
 | m + 1,h=>by
  by_cases e:n=m + 1
  ·exact ⟨[],by rw [e];simp⟩
  ·obtain ⟨r,hr⟩:=bl_pre m (by omega)
   cases q:barB M who write sp m with
   | true=>exact ⟨r ++ [(m:Int)],by rw [bl_T q,hr,List.append_assoc]⟩
   | false=>exact ⟨r,by rw [bl_F q,hr]⟩
theorem bar_in (hk:lockOk M=true) (hw:whoOk who=true) (hs:spanOk sp=true) (hn:n<3) (h:barB M who write sp n=true):((barsL M who write sp n).length:Int)<(lockBars M who write sp).length∧at_ (lockBars M who write sp) ((barsL M who write sp n).length:Int)=(n:Int):=by
 rw [lockBars_ok hk hw hs,ok_3 hk]
 obtain ⟨r,hr⟩:=bl_pre (M:=M) (who:=who) (write:=write) (sp:=sp) (n:=n + 1) 3 (by omega)
 rw [hr,bl_T h]
 constructor
 ·simp only [List.length_append,List.length_cons,List.length_nil];omega
 ·unfold at_
  simp
theorem bl_len:(barsL M who write sp n).length≤n:=bars_len n
theorem bar_end (hk:lockOk M=true) (hw:whoOk who=true) (hs:spanOk sp=true):(((barsL M who write sp 3).length:Int) == ((lockBars M who write sp).length:Int))=true:=by rw [lockBars_ok hk hw hs,ok_3 hk];exact beq_self_eq_true _
theorem bars_no (h:lockOk M=false∨¬ (0≤who∧who<3)∨spanOk sp=false):(((lockBars M who write sp).length:Int) == 0)=true:=by
 have:lockBars M who write sp = []:=by
  unfold lockBars
  rw [if_neg]
  rcases h with h|h|h
  ·rw [h];simp
  ·rw [show whoOk who=false by unfold whoOk;exact decide_eq_false h];simp
  ·rw [h];simp
 rw [this];rfl
end
def BO (M:List Ho) (who:Int) (write:Bool) (sp:Sp) (T:List Ho) (n:Nat):Prop:=lockOk T=true∧∀ m:Nat,m<3→at_ T (m:Int)=if m<n∧barB M who write sp m=true then offH else at_ M (m:Int)
theorem bo_nb {M:List Ho} {who:Int} {write:Bool} {sp:Sp} {n:Nat} (hk:lockOk M=true) (h:∀ m,m<n→barB M who write sp m=false):BO M who write sp M n:=⟨hk,fun m hm=>by
 rw [if_neg]
 rintro ⟨a,b⟩
 rw [h m a] at b
 cases b⟩
theorem bo_F {M:List Ho} {who:Int} {write:Bool} {sp:Sp} {T:List Ho} {n:Nat} (h:BO M who write sp T n) (q:barB M who write sp n=false):BO M who write sp T (n + 1):=⟨h.1,fun m hm=>by
 rw [h.2 m hm]
 by_cases e:m=n
 ·subst e;rw [if_neg (by omega),if_neg (by rw [q];simp)]
 ·by_cases e2:m<n
  ·simp [e2,show m<n + 1 by omega]
  ·rw [if_neg (by omega),if_neg (by omega)]⟩
theorem bo_T {M:List Ho} {who:Int} {write:Bool} {sp:Sp} {T:List Ho} {n:Nat} (h:BO M who write sp T n) (hn:n<3) (q:barB M who write sp n=true):BO M who write sp (resT T (goK (n:Int) ⟨0,48⟩ true) (n:Int) offH) (n + 1):=by
 have hl:=ok_3 h.1
 rw [off_res h.1 hn]
 refine ⟨off_ok h.1 hn,fun m hm=>?_⟩
 by_cases e:m=n
 ·subst e;rw [at_setH (by omega) (by omega),if_pos ⟨by omega,q⟩]
 ·rw [at_setH' (by omega) (by omega) (by omega),h.2 m hm]
  by_cases e2:m<n
  ·simp [e2,show m<n + 1 by omega]
  ·rw [if_neg (by omega),if_neg (by omega)]
theorem nb_next {M:List Ho} {who:Int} {write:Bool} {sp:Sp} {n:Nat} (h:∀ m,m<n→barB M who write sp m=false) (q:barB M who write sp n=false):∀ m,m<n + 1→barB M who write sp m=false:=fun m hm=>by
 by_cases e:m=n
 ·rw [e];exact q
 ·exact h m (by omega)
theorem bo_end {M:List Ho} {who:Int} {write:Bool} {sp:Sp} {T:List Ho} (h:BO M who write sp T 3):(((lockBars T who write sp).length:Int) == 0)=true:=by
 have:lockBars T who write sp = []:=by
  unfold lockBars
  split
  ·unfold barsL
   rw [List.map_eq_nil_iff,List.filter_eq_nil_iff]
   intro i hi q
   have hi:=List.mem_range.1 hi
   have hi3:i<3:=by rw [ok_3 h.1] at hi;exact hi
   have:=h.2 i hi3
   unfold barB wAt rAt at q
   rw [this] at q
   split at q
   ·have e1:clearL offH.w [sp]=true:=rfl
    have e2:clearL offH.r [sp]=true:=rfl
    rw [e1,e2] at q
    revert q
    cases decide ((i:Int)=who) <;> cases write <;> simp
   ·rename_i hn
    exact hn ⟨hi3,q⟩
  ·rfl
 rw [this];rfl
end Go.Proofs.Ytbgehlihpkefmaa.A
namespace Go.Proofs.Ytbgehlihpkefmaa.A
open Go Go.RowKit
set_option maxHeartbeats 4000000
theorem drop1_c (f g z:Nat→Bool):FDoes Try.prog 64 [vPl f,vPl g,vPl z] (hp []) { v:=.tuple #[vPl (putP f z false),vPl (putP g z false)] }:=by
 have hm:Try.prog.follows .mixedOrders=true:=by kernel_rfl
 have hd_:∀ x ∈ ([]:List (Nat × Bool × Fam)),∀ k y,x.2.2 k=some y→DetB (lt 0) y:=fun x_ hx=>(by cases hx)
 refine fn_exact (u0:=0) Try.func64 rfl rfl (gets rfl rfl rfl hd_ rfl) ?_
 clear hd_
 refine vc_seq ?_
 refine vc_region hm ?_
 refine gB (u':=1) trivial rfl rfl rfl rfl rfl rfl rfl (show cellsL _=plL f from rfl) ?_
 refine gB (u':=2) trivial rfl rfl rfl rfl rfl rfl rfl (show cellsL _=plL g from rfl) ?_
 refine gB (u':=3) trivial rfl rfl rfl rfl rfl rfl rfl (show cellsL _=plL z from rfl) ?_
 refine gZ (u':=4) trivial rfl rfl rfl rfl rfl rfl rfl (show cellsL _=plL noP from rfl) ?_
 refine gZ (u':=5) trivial rfl rfl rfl rfl rfl rfl rfl (show cellsL _=plL noP from rfl) ?_
 refine rg_nil nofun ?_
 refine vc_seq ?_
 refine vc_region hm ?_
 refine gL trivial rfl rfl rfl rfl rfl rfl rfl wPl ?_
 refine gL trivial rfl rfl rfl rfl rfl rfl rfl wPl ?_
 refine gC0 [] (put_c f z false) trivial rfl rfl rfl rfl (by trivial) rfl rfl (vPl_flat _) rfl rfl ?_
 refine gL trivial rfl rfl rfl rfl rfl rfl rfl wPl ?_
 refine gL trivial rfl rfl rfl rfl rfl rfl rfl wPl ?_
 refine gC0 [] (put_c g z false) trivial rfl rfl rfl rfl (by trivial) rfl rfl (vPl_flat _) rfl rfl ?_
 refine gT trivial rfl rfl rfl rfl rfl rfl rfl rfl rfl rfl zPl pPl ?_
 refine gT trivial rfl rfl rfl rfl rfl rfl rfl rfl rfl rfl zPl pPl ?_
 refine rg_nil (fun _=>by kernel_rfl) ?_
 refine vc_ret ?_
 exact ⟨idm,endsF (.inr rfl) (.cell rfl rfl rfl rfl wPl (.cell rfl rfl rfl rfl wPl .nil)) rfl (pp_flat _ _) rfl⟩
theorem turned_drop {T:List Ho} {who:Int} {s:Sp} {may:Bool} {kk cc:Nat} (hT:T.length≤1048576) (hB:∀ h ∈ T,h.r.length≤1048576∧h.w.length≤1048576):FDoes Try.prog 63 [.slice (some ⟨0,kk,none⟩) T.length cc,.int .i64 who,vSp s,.bool may,.func (.func 64) #[] #[]] (hp [(0,false,one ⟨hls kk (rHv (tabV 1 zo T)),46,0⟩),(1,false,inF zo 28 77 T)]) (mkF (.tuple #[.slice (some ⟨2,0,none⟩) (resT T (goK who s may) who (dropI (at_ T who) s)).length 0,.bool (resB T (goK who s may) who (dropI (at_ T who) s))]) [0,1] [] [(2,one ⟨rHv (tabV 3 zo (resT T (goK who s may) who (dropI (at_ T who) s))),46,2⟩),(3,inF zo 28 77 (resT T (goK who s may) who (dropI (at_ T who) s)))]):=by
 have hm:Try.prog.follows .mixedOrders=true:=by kernel_rfl
 have hd_:∀ x_ ∈ ([(0,false,one ⟨hls kk (rHv (tabV 1 zo T)),46,0⟩),(1,false,inF zo 28 77 T)]:List (Nat × Bool × Fam)),∀ k_ y_,x_.2.2 k_=some y_→DetB (lt 2) y_:=by
  intro x_ hx k_ y_ e
  simp only [List.mem_cons,List.not_mem_nil,or_false] at hx
  rcases hx with rfl|rfl
  ·exact det_tab (k0:=kk) rfl e
  ·exact det_in e
 refine fn_exact (u0:=2) Try.func63 rfl rfl (gets rfl rfl rfl hd_ rfl) ?_
 clear hd_
 refine vc_seq ?_
 refine vc_region hm ?_
 refine gB (u':=3) trivial rfl rfl rfl rfl rfl rfl rfl rfl ?_
 refine gM trivial (.inr rfl) rfl rfl rfl ?_
 refine gM trivial (.inr rfl) rfl rfl rfl ?_
 refine rg_nil nofun ?_
 refine vc_seq ?_
 refine vc_seq ?_
 refine vc_region hm ?_
 refine gM trivial (.inl rfl) rfl rfl rfl ?_
 refine gCT0 [nA (nm 0 (0)),nF 1] [0,1] (impl_LockOk_c (T:=T) hT hB) trivial rfl rfl rfl rfl rfl ⟨aTab (k:=kk) rfl rfl rfl rfl (.inl rfl) (.inl rfl) rfl rfl,aIn rfl rfl (.inl rfl) (.inl rfl) rfl,trivial⟩ rfl rfl rfl rfl ?_
 refine gN trivial rfl rfl rfl rfl ?_
 refine rg_nil nofun ?_
 refine cI rfl (fun c17=>?_) (fun c17=>?_)
 ·skip
  have n17:=unT c17
  refine vc_seq ?_
  refine vc_region hm ?_
  refine gM trivial (.inr rfl) rfl rfl rfl ?_
  refine gM trivial (.inr rfl) rfl rfl rfl ?_
  refine rg_nil nofun ?_
  refine vc_re (S2:=⟨4,[(10,.slice (some ⟨3,0,none⟩) 0 0),(11,.bool false)],[(0,false,one ⟨hls kk (rHv (tabV 1 zo T)),46,0⟩),(1,false,inF zo 28 77 T),(3,true,one ⟨[],46,2⟩)]⟩) (re_nil (ms:=[0,1,2,3]) (C:=3) rfl ⟨⟨⟨rfl,rfl⟩,rfl⟩,⟨⟨rfl,rfl⟩,rfl⟩,trivial⟩ ⟨ktTab (k:=kk) rfl rfl (.inr (.inl rfl)) id rfl rfl,ktIn rfl id rfl,ktC1 rfl (by decide) rfl,trivial⟩ rfl rfl (rig_of rfl) rfl) ?_
  refine vc_re (S2:=⟨5,[(10,.slice (some ⟨3,0,none⟩) 0 0),(11,.bool false)],[(0,false,one ⟨hls kk (rHv (tabV 1 zo T)),46,0⟩),(1,false,inF zo 28 77 T),(3,true,one ⟨rHv (tabV 4 zo []),46,2⟩),(4,true,inF zo 28 77 [])]⟩) (re_nil (ms:=[0,1,2,3,4]) (C:=4) rfl ⟨⟨⟨rfl,rfl⟩,rfl⟩,⟨⟨rfl,rfl⟩,rfl⟩,trivial⟩ ⟨ktTab (k:=kk) rfl rfl (.inr (.inl rfl)) id rfl rfl,ktIn rfl id rfl,ktFlat rfl rfl (.inr (.inl rfl)) id rfl,ktInN (n:=0) rfl (by decide) rfl,trivial⟩ rfl rfl (rig_of rfl) rfl) ?_
  refine vc_ret ?_
  rw [(res_no (by assumption)).1,(res_no (by assumption)).2]
  exact ⟨_,endsT [(2,3,one ⟨rHv (tabV 3 zo []),46,2⟩),(3,4,inF zo 28 77 [])] (.inr rfl) (.tmp rfl rfl (.tmp rfl rfl .nil)) rfl rfl trivial ⟨asTab rfl rfl rfl,asIn rfl,trivial⟩ rfl⟩
 ·skip
  have n17:=unF c17
  refine vc_skip ?_
  refine vc_seq ?_
  refine vc_region hm ?_
  refine gM trivial (.inl rfl) rfl rfl rfl ?_
  refine gCT (as':=[(3,one ⟨rHv (tabV 4 zo T),46,2⟩),(4,inF zo 28 77 T)]) (v':=.slice (some ⟨3,0,none⟩) T.length 0) 5 [nA (nm 0 (0)),nF 1,nF 3,nF 4] [0,1] (copied_c (T:=T) hT hB) trivial rfl rfl rfl rfl rfl ⟨aTab (k:=kk) rfl rfl rfl rfl (.inl rfl) (.inl rfl) rfl rfl,aIn rfl rfl (.inr rfl) (.inr (.inl rfl)) rfl,trivial⟩ ⟨rTab rfl rfl rfl,rIn rfl,trivial⟩ ⟨rfl,rfl⟩ rfl rfl rfl ?_
  refine gM trivial (.inr rfl) rfl rfl rfl ?_
  refine rg_nil nofun ?_
  refine vc_seq ?_
  refine vc_seq ?_
  refine vc_region hm ?_
  refine gM trivial (.inl rfl) rfl rfl rfl ?_
  refine gC0 [] (client_c who) trivial rfl rfl rfl rfl (by trivial) rfl rfl rfl rfl rfl ?_
  refine gN trivial rfl rfl rfl rfl ?_
  refine gM trivial (.inl rfl) rfl rfl rfl ?_
  refine gI2 (d:=23) rfl (fun c23=>?_) (fun c23=>?_)
  ·skip
   have n23:=unT c23
   refine gO ⟨_,_,rfl,rfl,c23⟩ rfl rfl ?_
   refine gO ⟨_,_,rfl,rfl,c23⟩ rfl rfl ?_
   refine gO ⟨_,_,rfl,rfl,c23⟩ rfl rfl ?_
   refine gPT trivial rfl rfl c23 rfl rfl rfl ?_
   refine gM trivial (.inl rfl) rfl rfl rfl ?_
   refine gO ⟨_,_,rfl,rfl,rfl⟩ rfl rfl ?_
   refine gO ⟨_,_,rfl,rfl,rfl⟩ rfl rfl ?_
   refine gPT trivial rfl rfl rfl rfl rfl rfl ?_
   refine rg_nil nofun ?_
   refine cT rfl rfl ?_
   refine vc_seq ?_
   refine vc_region hm ?_
   refine gM trivial (.inl rfl) rfl rfl rfl ?_
   refine gM trivial (.inr rfl) rfl rfl rfl ?_
   refine gM trivial (.inr rfl) rfl rfl rfl ?_
   refine rg_nil nofun ?_
   refine vc_ret ?_
   rw [(res_stay (by assumption) (by first|exact goK_1 (by assumption)|exact goK_2 (by assumption)|exact goK_3 (by assumption))).1,(res_stay (by assumption) (by first|exact goK_1 (by assumption)|exact goK_2 (by assumption)|exact goK_3 (by assumption))).2]
   exact ⟨_,endsT [(2,3,one ⟨rHv (tabV 3 zo T),46,2⟩),(3,4,inF zo 28 77 T)] (.inr rfl) (.tmp rfl rfl (.tmp rfl rfl .nil)) rfl rfl trivial ⟨asTab rfl rfl rfl,asIn rfl,trivial⟩ rfl⟩
  ·skip
   have n23:=unF c23
   refine gL ⟨_,_,rfl,rfl,c23⟩ rfl rfl rfl rfl rfl rfl rfl rfl ?_
   refine gC0 [] (impl_SpanOk_c s) ⟨_,_,rfl,rfl,c23⟩ rfl rfl rfl rfl (by trivial) rfl rfl rfl rfl rfl ?_
   refine gN ⟨_,_,rfl,rfl,c23⟩ rfl rfl rfl rfl ?_
   refine gPF trivial rfl rfl c23 rfl rfl rfl ?_
   refine gM trivial (.inl rfl) rfl rfl rfl ?_
   refine gI2 (d:=28) rfl (fun c28=>?_) (fun c28=>?_)
   ·skip
    have n28:=unT c28
    refine gO ⟨_,_,rfl,rfl,c28⟩ rfl rfl ?_
    refine gO ⟨_,_,rfl,rfl,c28⟩ rfl rfl ?_
    refine gPT trivial rfl rfl c28 rfl rfl rfl ?_
    refine rg_nil nofun ?_
    refine cT rfl rfl ?_
    refine vc_seq ?_
    refine vc_region hm ?_
    refine gM trivial (.inl rfl) rfl rfl rfl ?_
    refine gM trivial (.inr rfl) rfl rfl rfl ?_
    refine gM trivial (.inr rfl) rfl rfl rfl ?_
    refine rg_nil nofun ?_
    refine vc_ret ?_
    rw [(res_stay (by assumption) (by first|exact goK_1 (by assumption)|exact goK_2 (by assumption)|exact goK_3 (by assumption))).1,(res_stay (by assumption) (by first|exact goK_1 (by assumption)|exact goK_2 (by assumption)|exact goK_3 (by assumption))).2]
    exact ⟨_,endsT [(2,3,one ⟨rHv (tabV 3 zo T),46,2⟩),(3,4,inF zo 28 77 T)] (.inr rfl) (.tmp rfl rfl (.tmp rfl rfl .nil)) rfl rfl trivial ⟨asTab rfl rfl rfl,asIn rfl,trivial⟩ rfl⟩
   ·skip
    have n28:=unF c28
    refine gM ⟨_,_,rfl,rfl,c28⟩ (.inl rfl) rfl rfl rfl ?_
    refine gN ⟨_,_,rfl,rfl,c28⟩ rfl rfl rfl rfl ?_
    refine gPF trivial rfl rfl c28 rfl rfl rfl ?_
    refine rg_nil nofun ?_
    refine cI rfl (fun c31=>?_) (fun c31=>?_)
    ·skip
     have n31:=unT c31
     refine vc_seq ?_
     refine vc_region hm ?_
     refine gM trivial (.inl rfl) rfl rfl rfl ?_
     refine gM trivial (.inr rfl) rfl rfl rfl ?_
     refine gM trivial (.inr rfl) rfl rfl rfl ?_
     refine rg_nil nofun ?_
     refine vc_ret ?_
     rw [(res_stay (by assumption) (by first|exact goK_1 (by assumption)|exact goK_2 (by assumption)|exact goK_3 (by assumption))).1,(res_stay (by assumption) (by first|exact goK_1 (by assumption)|exact goK_2 (by assumption)|exact goK_3 (by assumption))).2]
     exact ⟨_,endsT [(2,3,one ⟨rHv (tabV 3 zo T),46,2⟩),(3,4,inF zo 28 77 T)] (.inr rfl) (.tmp rfl rfl (.tmp rfl rfl .nil)) rfl rfl trivial ⟨asTab rfl rfl rfl,asIn rfl,trivial⟩ rfl⟩
    ·skip
     have n31:=unF c31
     refine vc_skip ?_
     refine vc_seq ?_
     refine vc_region hm ?_
     refine gM trivial (.inl rfl) rfl rfl rfl ?_
     refine gM trivial (.inl rfl) rfl rfl rfl ?_
     refine gM trivial (.inl rfl) rfl rfl rfl ?_
     refine gX trivial rfl rfl rfl rfl rfl rfl rfl rfl (by have:=whoOk_in (who:=who) (by assumption);have:=ok_3 (T:=T) (by assumption);omega) (by have:=whoOk_in (who:=who) (by assumption);have:=ok_3 (T:=T) (by assumption);omega) (fun h=>hls_ne (tabV_ne h)) ?_
     refine gF trivial rfl rfl rfl rfl rfl ?_
     refine gL trivial rfl rfl rfl rfl rfl rfl rfl (lH0k (by have:=whoOk_in (who:=who) (by assumption);have:=ok_3 (T:=T) (by assumption);omega) (by have:=whoOk_in (who:=who) (by assumption);have:=ok_3 (T:=T) (by assumption);omega)) ?_
     refine gCT0 [nA (nm 1 (2 * (who).toNat))] [1] (of_c (l:=(at_ T who).r) (inB_of (okW (by assumption) (by assumption)).1) (by have:=spansOk_len (l:=(at_ T who).r) (okW (by assumption) (by assumption)).1;omega)) trivial rfl rfl rfl rfl rfl ⟨aRow rfl (rSp_flat _) rfl (inF_0 (by have:=whoOk_in (who:=who) (by assumption);have:=ok_3 (T:=T) (by assumption);omega) (by have:=whoOk_in (who:=who) (by assumption);have:=ok_3 (T:=T) (by assumption);omega)) (.inl rfl) (.inl rfl) rfl,trivial⟩ (vPl_flat _) rfl rfl rfl ?_
     refine gM trivial (.inl rfl) rfl rfl rfl ?_
     refine gM trivial (.inl rfl) rfl rfl rfl ?_
     refine gX trivial rfl rfl rfl rfl rfl rfl rfl rfl (by have:=whoOk_in (who:=who) (by assumption);have:=ok_3 (T:=T) (by assumption);omega) (by have:=whoOk_in (who:=who) (by assumption);have:=ok_3 (T:=T) (by assumption);omega) (fun h=>hls_ne (tabV_ne h)) ?_
     refine gF trivial rfl rfl rfl rfl rfl ?_
     refine gL trivial rfl rfl rfl rfl rfl rfl rfl (lH1k (by have:=whoOk_in (who:=who) (by assumption);have:=ok_3 (T:=T) (by assumption);omega) (by have:=whoOk_in (who:=who) (by assumption);have:=ok_3 (T:=T) (by assumption);omega)) ?_
     refine gCT0 [nA (nm 1 (2 * (who).toNat + 1))] [1] (of_c (l:=(at_ T who).w) (inB_of (okW (by assumption) (by assumption)).2) (by have:=spansOk_len (l:=(at_ T who).w) (okW (by assumption) (by assumption)).2;omega)) trivial rfl rfl rfl rfl rfl ⟨aRow rfl (rSp_flat _) rfl (inF_1 (by have:=whoOk_in (who:=who) (by assumption);have:=ok_3 (T:=T) (by assumption);omega) (by have:=whoOk_in (who:=who) (by assumption);have:=ok_3 (T:=T) (by assumption);omega)) (.inl rfl) (.inl rfl) rfl,trivial⟩ (vPl_flat _) rfl rfl rfl ?_
     refine gL trivial rfl rfl rfl rfl rfl rfl rfl rfl ?_
     refine gR (u':=6) (out:=rSp [s]) trivial rfl rfl rfl rfl rfl rfl rfl rfl rfl rfl rfl rfl rfl rfl ?_
     refine gC0 [5] (of_c (l:=[s]) (inB_one' (by assumption)) (show 1≤1000000 by decide)) trivial rfl rfl rfl rfl ⟨rFlat (rSp_flat [s]) rfl (.inl rfl) rfl,trivial⟩ rfl rfl (vPl_flat _) rfl rfl ?_
     refine gCcT (as_:=[]) (as':=[]) (v':=.tuple #[vPl (putP (ofP (at_ T who).r) (ofP [s]) false),vPl (putP (ofP (at_ T who).w) (ofP [s]) false)]) 6 [] [] (drop1_c (ofP (at_ T who).r) (ofP (at_ T who).w) (ofP [s])) trivial rfl rfl rfl rfl rfl rfl rfl trivial trivial ⟨(po3_flatT (pp_flat _ _)).2.symm,(po3_flatT (pp_flat _ _)).1⟩ rfl rfl rfl ?_
     refine gM trivial (.inl rfl) rfl rfl rfl ?_
     refine gE trivial rfl rfl rfl rfl rfl rfl ?_
     refine gE trivial rfl rfl rfl rfl rfl rfl ?_
     refine gZ (u':=7) trivial rfl rfl rfl rfl rfl rfl rfl (show cellsL _=plL noP from rfl) ?_
     refine gZ (u':=8) trivial rfl rfl rfl rfl rfl rfl rfl (show cellsL _=plL noP from rfl) ?_
     refine gT trivial rfl rfl rfl rfl rfl rfl rfl rfl rfl rfl zPl pPl ?_
     refine gT trivial rfl rfl rfl rfl rfl rfl rfl rfl rfl rfl zPl pPl ?_
     refine rg_nil (fun _=>by kernel_rfl) ?_
     refine vc_seq ?_
     refine vc_region hm ?_
     refine gM trivial (.inl rfl) rfl rfl rfl ?_
     refine gM trivial (.inl rfl) rfl rfl rfl ?_
     refine gL trivial rfl rfl rfl rfl rfl rfl rfl wPl ?_
     refine gCn 9 [8] (spans_c (putP (ofP (at_ T who).r) (ofP [s]) false)) trivial rfl rfl rfl rfl (by trivial) ⟨rSp_flat _,trivial⟩ rfl rfl rfl rfl ?_
     refine gL trivial rfl rfl rfl rfl rfl rfl rfl wPl ?_
     refine gCn 10 [9] (spans_c (putP (ofP (at_ T who).w) (ofP [s]) false)) trivial rfl rfl rfl rfl (by trivial) ⟨rSp_flat _,trivial⟩ rfl rfl rfl rfl ?_
     refine gU trivial rfl rfl rfl rfl rfl rfl rfl rfl ?_
     refine gX trivial rfl rfl rfl rfl rfl rfl rfl rfl (by have:=whoOk_in (who:=who) (by assumption);have:=ok_3 (T:=T) (by assumption);omega) (by have:=whoOk_in (who:=who) (by assumption);have:=ok_3 (T:=T) (by assumption);omega) tabV_ne ?_
     refine gT trivial rfl rfl rfl rfl rfl rfl rfl rfl rfl rfl (show 0 + who.toNat * 2 + 2≤_ from by have:=whoOk_in (who:=who) (by assumption);have:=ok_3 (T:=T) (by assumption);rw [rowL_len (n:=2) (fun _=>rfl),tabV_len];omega) (tab_put (i:=who.toNat) (show 0 + who.toNat * 2=who.toNat * 2 by omega) (by rw [tabV_len];have:=whoOk_in (who:=who) (by assumption);have:=ok_3 (T:=T) (by assumption);omega)) ?_
     refine rg_nil (fun _=>by kernel_rfl) ?_
     refine vc_seq ?_
     refine vc_seq ?_
     refine vc_region hm ?_
     refine gM trivial (.inl rfl) rfl rfl rfl ?_
     refine gCT0 [nA (nm 3 (0)),nX 4 (2 * who.toNat) 8 9] [3,4,8,9] (impl_LockOk_c (T:=(setH T who (dropI (at_ T who) s))) (by rw [setH_len];exact hT) (setH_B hB ⟨l48,l48⟩)) trivial rfl rfl rfl (by rw [setH_len];rfl) rfl ⟨aTabX rfl rfl rfl rfl set_xl (fun q=>set_i (whoOk_in (by assumption)).1 q) (fun j q q'=>set_j q q') (.inl rfl) (.inl rfl) rfl rfl,aInX rfl rfl rfl rfl (fun j q _=>set_g q) (set_at (by have:=whoOk_in (who:=who) (by assumption);have:=ok_3 (T:=T) (by assumption);omega)) rfl,trivial⟩ rfl rfl rfl rfl ?_
     refine gN trivial rfl rfl rfl rfl ?_
     refine rg_nil nofun ?_
     refine cI rfl (fun c63=>?_) (fun c63=>?_)
     ·skip
      have n63:=unT c63
      refine vc_seq ?_
      refine vc_region hm ?_
      refine gM trivial (.inl rfl) rfl rfl rfl ?_
      refine gCT (as':=[(10,one ⟨rHv (tabV 11 zo T),46,2⟩),(11,inF zo 28 77 T)]) (v':=.slice (some ⟨10,0,none⟩) T.length 0) 12 [nA (nm 0 (0)),nF 1,nF 10,nF 11] [0,1] (copied_c (T:=T) hT hB) trivial rfl rfl rfl rfl rfl ⟨aTab (k:=kk) rfl rfl rfl rfl (.inl rfl) (.inl rfl) rfl rfl,aIn rfl rfl (.inr rfl) (.inr (.inl rfl)) rfl,trivial⟩ ⟨rTab rfl rfl rfl,rIn rfl,trivial⟩ ⟨rfl,rfl⟩ rfl rfl rfl ?_
      refine gM trivial (.inr rfl) rfl rfl rfl ?_
      refine gM trivial (.inr rfl) rfl rfl rfl ?_
      refine rg_nil nofun ?_
      refine vc_ret ?_
      rw [(res_go (by assumption) (goK_4 (by assumption) (by assumption) (by assumption))).1,(res_go (by assumption) (goK_4 (by assumption) (by assumption) (by assumption))).2,repT_F n63,n63]
      exact ⟨_,endsT [(2,10,one ⟨rHv (tabV 3 zo T),46,2⟩),(3,11,inF zo 28 77 T)] (.inr rfl) (.tmp rfl rfl (.tmp rfl rfl .nil)) rfl rfl trivial ⟨asTab rfl rfl rfl,asIn rfl,trivial⟩ rfl⟩
     ·skip
      have n63:=unF c63
      refine vc_skip ?_
      refine vc_seq ?_
      refine vc_region hm ?_
      refine gM trivial (.inl rfl) rfl rfl rfl ?_
      refine gM trivial (.inr rfl) rfl rfl rfl ?_
      refine gM trivial (.inr rfl) rfl rfl rfl ?_
      refine rg_nil nofun ?_
      refine vc_re (S2:=⟨5,[(10,.slice (some ⟨3,0,none⟩) T.length 0),(11,.bool true)],[(0,false,one ⟨hls kk (rHv (tabV 1 zo T)),46,0⟩),(1,false,inF zo 28 77 T),(3,true,one ⟨rHv (tabV 4 zo (setH T who (dropI (at_ T who) s))),46,2⟩),(4,true,inF zo 28 77 (setH T who (dropI (at_ T who) s)))]⟩) (re_fold (ms:=[0,1,2,3,4]) (C:=4) (C':=4) (i:=2 * who.toNat) (a:=8) (b:=9) rfl ⟨⟨⟨rfl,rfl⟩,rfl⟩,⟨⟨rfl,rfl⟩,rfl⟩,trivial⟩ ⟨ktTab (k:=kk) rfl rfl (.inr (.inl rfl)) id rfl rfl,ktIn rfl id rfl,ktTabC rfl set_xl (fun q=>set_i (whoOk_in (by assumption)).1 q) (fun j q q'=>set_j q q') (.inr (.inl rfl)) id rfl rfl,kPutC (T1:=T) (e:=77) (e1:=77) (ea:=2) (eb:=2) (fun j q _=>set_g (T:=T) q) (set_at (T:=T) (who:=who) (by have:=whoOk_in (who:=who) (by assumption);have:=ok_3 (T:=T) (by assumption);omega)) rfl rfl rfl (.inr ⟨.inl rfl,.inr ⟨by decide,by decide,by decide⟩,.inr ⟨by decide,by decide,by decide⟩⟩) (fun _=>⟨rfl,rfl,rfl⟩) rfl,trivial⟩ rfl rfl (rig_of rfl) rfl rfl) ?_
      refine vc_ret ?_
      rw [(res_go (by assumption) (goK_4 (by assumption) (by assumption) (by assumption))).1,(res_go (by assumption) (goK_4 (by assumption) (by assumption) (by assumption))).2,repT_T n63,n63]
      exact ⟨_,endsT [(2,3,one ⟨rHv (tabV 3 zo (setH T who (dropI (at_ T who) s))),46,2⟩),(3,4,inF zo 28 77 (setH T who (dropI (at_ T who) s)))] (.inr rfl) (.tmp rfl rfl (.tmp rfl rfl .nil)) (by rw [setH_len];rfl) rfl trivial ⟨asTab rfl rfl rfl,asIn rfl,trivial⟩ rfl⟩
theorem impl_LockDrop_c {T:List Ho} {who:Int} {s:Sp} {kk cc:Nat} (hT:T.length≤1048576) (hB:∀ h ∈ T,h.r.length≤1048576∧h.w.length≤1048576):FDoes Try.prog 25 [.slice (some ⟨0,kk,none⟩) T.length cc,.int .i64 who,vSp s] (hp [(0,false,one ⟨hls kk (rHv (tabV 1 zo T)),46,0⟩),(1,false,inF zo 28 77 T)]) (mkF (.tuple #[.slice (some ⟨2,0,none⟩) (resT T (goK who s true) who (dropH (at_ T who) s)).length 0,.bool (resB T (goK who s true) who (dropH (at_ T who) s))]) [0,1] [] [(2,one ⟨rHv (tabV 3 zo (resT T (goK who s true) who (dropH (at_ T who) s))),46,2⟩),(3,inF zo 28 77 (resT T (goK who s true) who (dropH (at_ T who) s)))]):=by
 have hm:Try.prog.follows .mixedOrders=true:=by kernel_rfl
 have hd_:∀ x_ ∈ ([(0,false,one ⟨hls kk (rHv (tabV 1 zo T)),46,0⟩),(1,false,inF zo 28 77 T)]:List (Nat × Bool × Fam)),∀ k_ y_,x_.2.2 k_=some y_→DetB (lt 2) y_:=by
  intro x_ hx k_ y_ e
  simp only [List.mem_cons,List.not_mem_nil,or_false] at hx
  rcases hx with rfl|rfl
  ·exact det_tab (k0:=kk) rfl e
  ·exact det_in e
 refine fn_exact (u0:=2) Try.func25 rfl rfl (gets rfl rfl rfl hd_ rfl) ?_
 clear hd_
 refine vc_seq ?_
 refine vc_region hm ?_
 refine gB (u':=3) trivial rfl rfl rfl rfl rfl rfl rfl rfl ?_
 refine gM trivial (.inr rfl) rfl rfl rfl ?_
 refine gM trivial (.inr rfl) rfl rfl rfl ?_
 refine rg_nil nofun ?_
 refine vc_seq ?_
 refine vc_region hm ?_
 refine gM trivial (.inl rfl) rfl rfl rfl ?_
 refine gM trivial (.inl rfl) rfl rfl rfl ?_
 refine gL trivial rfl rfl rfl rfl rfl rfl rfl rfl ?_
 refine gCT (as':=[(3,one ⟨rHv (tabV 4 zo (resT T (goK who s true) who (dropI (at_ T who) s))),46,2⟩),(4,inF zo 28 77 (resT T (goK who s true) who (dropI (at_ T who) s)))]) (v':=.tuple #[.slice (some ⟨3,0,none⟩) (resT T (goK who s true) who (dropI (at_ T who) s)).length 0,.bool (resB T (goK who s true) who (dropI (at_ T who) s))]) 5 [nA (nm 0 (0)),nF 1,nF 3,nF 4] [0,1] (turned_drop (T:=T) (who:=who) (s:=s) (may:=true) hT hB) trivial rfl rfl rfl rfl rfl ⟨aTab (k:=kk) rfl rfl rfl rfl (.inl rfl) (.inl rfl) rfl rfl,aIn rfl rfl (.inr rfl) (.inr (.inl rfl)) rfl,trivial⟩ ⟨rTab rfl rfl rfl,rIn rfl,trivial⟩ ⟨rfl,rfl⟩ rfl rfl rfl ?_
 refine gE trivial rfl rfl rfl rfl rfl rfl ?_
 refine gE trivial rfl rfl rfl rfl rfl rfl ?_
 refine gM trivial (.inr rfl) rfl rfl rfl ?_
 refine gM trivial (.inr rfl) rfl rfl rfl ?_
 refine rg_nil nofun ?_
 refine vc_ret ?_
 rw [show (dropH (at_ T who) s)=(dropI (at_ T who) s) from rfl]
 exact ⟨_,endsT [(2,3,one ⟨rHv (tabV 3 zo (resT T (goK who s true) who (dropI (at_ T who) s))),46,2⟩),(3,4,inF zo 28 77 (resT T (goK who s true) who (dropI (at_ T who) s)))] (.inr rfl) (.tmp rfl rfl (.tmp rfl rfl .nil)) rfl rfl trivial ⟨asTab rfl rfl rfl,asIn rfl,trivial⟩ rfl⟩
theorem impl_LockOff_c {T:List Ho} {who:Int} {kk cc:Nat} (hT:T.length≤1048576) (hB:∀ h ∈ T,h.r.length≤1048576∧h.w.length≤1048576):FDoes Try.prog 28 [.slice (some ⟨0,kk,none⟩) T.length cc,.int .i64 who] (hp [(0,false,one ⟨hls kk (rHv (tabV 1 zo T)),46,0⟩),(1,false,inF zo 28 77 T)]) (mkF (.tuple #[.slice (some ⟨2,0,none⟩) (resT T (goK who ⟨0,48⟩ true) who offH).length 0,.bool (resB T (goK who ⟨0,48⟩ true) who offH)]) [0,1] [] [(2,one ⟨rHv (tabV 3 zo (resT T (goK who ⟨0,48⟩ true) who offH)),46,2⟩),(3,inF zo 28 77 (resT T (goK who ⟨0,48⟩ true) who offH))]):=by
 have hm:Try.prog.follows .mixedOrders=true:=by kernel_rfl
 have hd_:∀ x_ ∈ ([(0,false,one ⟨hls kk (rHv (tabV 1 zo T)),46,0⟩),(1,false,inF zo 28 77 T)]:List (Nat × Bool × Fam)),∀ k_ y_,x_.2.2 k_=some y_→DetB (lt 2) y_:=by
  intro x_ hx k_ y_ e
  simp only [List.mem_cons,List.not_mem_nil,or_false] at hx
  rcases hx with rfl|rfl
  ·exact det_tab (k0:=kk) rfl e
  ·exact det_in e
 refine fn_exact (u0:=2) Try.func28 rfl rfl (gets rfl rfl rfl hd_ rfl) ?_
 clear hd_
 refine vc_seq ?_
 refine vc_region hm ?_
 refine gM trivial (.inr rfl) rfl rfl rfl ?_
 refine gM trivial (.inr rfl) rfl rfl rfl ?_
 refine rg_nil nofun ?_
 refine vc_seq ?_
 refine vc_region hm ?_
 refine gM trivial (.inl rfl) rfl rfl rfl ?_
 refine gM trivial (.inl rfl) rfl rfl rfl ?_
 refine gU (out:=eSp ⟨0,48⟩) trivial rfl rfl rfl rfl rfl rfl rfl rfl ?_
 refine gCT (as':=[(2,one ⟨rHv (tabV 3 zo (resT T (goK who ⟨0,48⟩ true) who (dropH (at_ T who) ⟨0,48⟩))),46,2⟩),(3,inF zo 28 77 (resT T (goK who ⟨0,48⟩ true) who (dropH (at_ T who) ⟨0,48⟩)))]) (v':=.tuple #[.slice (some ⟨2,0,none⟩) (resT T (goK who ⟨0,48⟩ true) who (dropH (at_ T who) ⟨0,48⟩)).length 0,.bool (resB T (goK who ⟨0,48⟩ true) who (dropH (at_ T who) ⟨0,48⟩))]) 4 [nA (nm 0 (0)),nF 1,nF 2,nF 3] [0,1] (impl_LockDrop_c (T:=T) (who:=who) (s:=⟨0,48⟩) hT hB) trivial rfl rfl rfl rfl rfl ⟨aTab (k:=kk) rfl rfl rfl rfl (.inl rfl) (.inl rfl) rfl rfl,aIn rfl rfl (.inr rfl) (.inr (.inl rfl)) rfl,trivial⟩ ⟨rTab rfl rfl rfl,rIn rfl,trivial⟩ ⟨rfl,rfl⟩ rfl rfl rfl ?_
 refine gE trivial rfl rfl rfl rfl rfl rfl ?_
 refine gE trivial rfl rfl rfl rfl rfl rfl ?_
 refine gM trivial (.inr rfl) rfl rfl rfl ?_
 refine gM trivial (.inr rfl) rfl rfl rfl ?_
 refine rg_nil nofun ?_
 refine vc_ret ?_
 rw [show offH=(dropH (at_ T who) ⟨0,48⟩) from (dropI_off _).symm]
 exact ⟨_,endsT [(2,2,one ⟨rHv (tabV 3 zo (resT T (goK who ⟨0,48⟩ true) who (dropH (at_ T who) ⟨0,48⟩))),46,2⟩),(3,3,inF zo 28 77 (resT T (goK who ⟨0,48⟩ true) who (dropH (at_ T who) ⟨0,48⟩)))] (.inr rfl) (.tmp rfl rfl (.tmp rfl rfl .nil)) rfl rfl trivial ⟨asTab rfl rfl rfl,asIn rfl,trivial⟩ rfl⟩

theorem impl_LockMay_c {T:List Ho} {who:Int} {write:Bool} {s:Sp} {kk cc:Nat} (hT:T.length≤1048576) (hB:∀ h ∈ T,h.r.length≤1048576∧h.w.length≤1048576):FDoes Try.prog 17 [.slice (some ⟨0,kk,none⟩) T.length cc,.int .i64 who,.bool write,vSp s] (hp [(0,false,one ⟨hls kk (rHv (tabV 1 zo T)),46,0⟩),(1,false,inF zo 28 0 T)]) { v:=.bool (lockMay T who write s),rd:=[0,1] }:=by
 have hm:Try.prog.follows .mixedOrders=true:=by kernel_rfl
 have hd_:∀ x_ ∈ ([(0,false,one ⟨hls kk (rHv (tabV 1 zo T)),46,0⟩),(1,false,inF zo 28 0 T)]:List (Nat × Bool × Fam)),∀ k_ y_,x_.2.2 k_=some y_→DetB (lt 2) y_:=by
  intro x_ hx k_ y_ e
  simp only [List.mem_cons,List.not_mem_nil,or_false] at hx
  rcases hx with rfl|rfl
  ·exact det_tab (k0:=kk) rfl e
  ·exact det_in e
 refine fn_exact (u0:=2) Try.func17 rfl rfl (gets rfl rfl rfl hd_ rfl) ?_
 clear hd_
 refine vc_seq ?_
 refine vc_region hm ?_
 refine gB (u':=3) trivial rfl rfl rfl rfl rfl rfl rfl rfl ?_
 refine gM trivial (.inr rfl) rfl rfl rfl ?_
 refine rg_nil nofun ?_
 refine vc_seq ?_
 refine vc_seq ?_
 refine vc_region hm ?_
 refine gM trivial (.inl rfl) rfl rfl rfl ?_
 refine gCT0 [nA (nm 0 (0)),nF 1] [0,1] (impl_LockOk_c (T:=T) hT hB) trivial rfl rfl rfl rfl rfl ⟨aTab (k:=kk) rfl rfl rfl rfl (.inl rfl) (.inl rfl) rfl rfl,aIn rfl rfl (.inl rfl) (.inl rfl) rfl,trivial⟩ rfl rfl rfl rfl ?_
 refine gN trivial rfl rfl rfl rfl ?_
 refine gM trivial (.inl rfl) rfl rfl rfl ?_
 refine gI2 (d:=13) rfl (fun c13=>?_) (fun c13=>?_)
 ·skip
  have n13:=unT c13
  refine gO ⟨_,_,rfl,rfl,c13⟩ rfl rfl ?_
  refine gO ⟨_,_,rfl,rfl,c13⟩ rfl rfl ?_
  refine gO ⟨_,_,rfl,rfl,c13⟩ rfl rfl ?_
  refine gPT trivial rfl rfl c13 rfl rfl rfl ?_
  refine gM trivial (.inl rfl) rfl rfl rfl ?_
  refine gO ⟨_,_,rfl,rfl,rfl⟩ rfl rfl ?_
  refine gO ⟨_,_,rfl,rfl,rfl⟩ rfl rfl ?_
  refine gO ⟨_,_,rfl,rfl,rfl⟩ rfl rfl ?_
  refine gPT trivial rfl rfl rfl rfl rfl rfl ?_
  refine rg_nil nofun ?_
  refine cT rfl rfl ?_
  refine vc_seq ?_
  refine vc_region hm ?_
  refine gM trivial (.inr rfl) rfl rfl rfl ?_
  refine rg_nil nofun ?_
  refine vc_ret ?_
  exact ⟨idm,ends0 (.inr rfl) rfl (eqB (by first|exact lm_1 (by assumption)|exact lm_2 (by assumption)|exact lm_3 (by assumption))) rfl rfl rfl⟩
 ·skip
  have n13:=unF c13
  refine gM ⟨_,_,rfl,rfl,c13⟩ (.inl rfl) rfl rfl rfl ?_
  refine gC0 [] (client_c who) ⟨_,_,rfl,rfl,c13⟩ rfl rfl rfl rfl (by trivial) rfl rfl rfl rfl rfl ?_
  refine gN ⟨_,_,rfl,rfl,c13⟩ rfl rfl rfl rfl ?_
  refine gPF trivial rfl rfl c13 rfl rfl rfl ?_
  refine gM trivial (.inl rfl) rfl rfl rfl ?_
  refine gI2 (d:=18) rfl (fun c18=>?_) (fun c18=>?_)
  ·skip
   have n18:=unT c18
   refine gO ⟨_,_,rfl,rfl,c18⟩ rfl rfl ?_
   refine gO ⟨_,_,rfl,rfl,c18⟩ rfl rfl ?_
   refine gO ⟨_,_,rfl,rfl,c18⟩ rfl rfl ?_
   refine gPT trivial rfl rfl c18 rfl rfl rfl ?_
   refine rg_nil nofun ?_
   refine cT rfl rfl ?_
   refine vc_seq ?_
   refine vc_region hm ?_
   refine gM trivial (.inr rfl) rfl rfl rfl ?_
   refine rg_nil nofun ?_
   refine vc_ret ?_
   exact ⟨idm,ends0 (.inr rfl) rfl (eqB (by first|exact lm_1 (by assumption)|exact lm_2 (by assumption)|exact lm_3 (by assumption))) rfl rfl rfl⟩
  ·skip
   have n18:=unF c18
   refine gL ⟨_,_,rfl,rfl,c18⟩ rfl rfl rfl rfl rfl rfl rfl rfl ?_
   refine gC0 [] (impl_SpanOk_c s) ⟨_,_,rfl,rfl,c18⟩ rfl rfl rfl rfl (by trivial) rfl rfl rfl rfl rfl ?_
   refine gN ⟨_,_,rfl,rfl,c18⟩ rfl rfl rfl rfl ?_
   refine gPF trivial rfl rfl c18 rfl rfl rfl ?_
   refine rg_nil nofun ?_
   refine cI rfl (fun c22=>?_) (fun c22=>?_)
   ·skip
    have n22:=unT c22
    refine vc_seq ?_
    refine vc_region hm ?_
    refine gM trivial (.inr rfl) rfl rfl rfl ?_
    refine rg_nil nofun ?_
    refine vc_ret ?_
    exact ⟨idm,ends0 (.inr rfl) rfl (eqB (by first|exact lm_1 (by assumption)|exact lm_2 (by assumption)|exact lm_3 (by assumption))) rfl rfl rfl⟩
   ·skip
    have n22:=unF c22
    refine vc_skip ?_
    refine vc_seq ?_
    refine vc_region hm ?_
    refine gM trivial (.inl rfl) rfl rfl rfl ?_
    refine gM trivial (.inl rfl) rfl rfl rfl ?_
    refine gX trivial rfl rfl rfl rfl rfl rfl rfl rfl (by have:=whoOk_in (who:=who) (by assumption);have:=ok_3 (T:=T) (by assumption);omega) (by have:=whoOk_in (who:=who) (by assumption);have:=ok_3 (T:=T) (by assumption);omega) (fun h=>hls_ne (tabV_ne h)) ?_
    refine gF trivial rfl rfl rfl rfl rfl ?_
    refine gL trivial rfl rfl rfl rfl rfl rfl rfl (lH1k (by have:=whoOk_in (who:=who) (by assumption);have:=ok_3 (T:=T) (by assumption);omega) (by have:=whoOk_in (who:=who) (by assumption);have:=ok_3 (T:=T) (by assumption);omega)) ?_
    refine gCT0 [nA (nm 1 (2 * (who).toNat + 1))] [1] (of_c (l:=(at_ T who).w) (inB_of (okW (by assumption) (by assumption)).2) (by have:=spansOk_len (l:=(at_ T who).w) (okW (by assumption) (by assumption)).2;omega)) trivial rfl rfl rfl rfl rfl ⟨aRow rfl (rSp_flat _) rfl (inF_1 (by have:=whoOk_in (who:=who) (by assumption);have:=ok_3 (T:=T) (by assumption);omega) (by have:=whoOk_in (who:=who) (by assumption);have:=ok_3 (T:=T) (by assumption);omega)) (.inl rfl) (.inl rfl) rfl,trivial⟩ (vPl_flat _) rfl rfl rfl ?_
    refine gZ (u':=4) trivial rfl rfl rfl rfl rfl rfl rfl (show cellsL _=plL noP from rfl) ?_
    refine gT trivial rfl rfl rfl rfl rfl rfl rfl rfl rfl rfl zPl pPl ?_
    refine rg_nil nofun ?_
    refine vc_seq ?_
    refine vc_seq ?_
    refine vc_region hm ?_
    refine gM trivial (.inl rfl) rfl rfl rfl ?_
    refine gN trivial rfl rfl rfl rfl ?_
    refine rg_nil nofun ?_
    refine cI rfl (fun c30=>?_) (fun c30=>?_)
    ·skip
     have n30:=unT c30
     refine vc_region hm ?_
     refine gL trivial rfl rfl rfl rfl rfl rfl rfl wPl ?_
     refine gM trivial (.inl rfl) rfl rfl rfl ?_
     refine gM trivial (.inl rfl) rfl rfl rfl ?_
     refine gX trivial rfl rfl rfl rfl rfl rfl rfl rfl (by have:=whoOk_in (who:=who) (by assumption);have:=ok_3 (T:=T) (by assumption);omega) (by have:=whoOk_in (who:=who) (by assumption);have:=ok_3 (T:=T) (by assumption);omega) (fun h=>hls_ne (tabV_ne h)) ?_
     refine gF trivial rfl rfl rfl rfl rfl ?_
     refine gL trivial rfl rfl rfl rfl rfl rfl rfl (lH0k (by have:=whoOk_in (who:=who) (by assumption);have:=ok_3 (T:=T) (by assumption);omega) (by have:=whoOk_in (who:=who) (by assumption);have:=ok_3 (T:=T) (by assumption);omega)) ?_
     refine gCT0 [nA (nm 1 (2 * (who).toNat))] [1] (of_c (l:=(at_ T who).r) (inB_of (okW (by assumption) (by assumption)).1) (by have:=spansOk_len (l:=(at_ T who).r) (okW (by assumption) (by assumption)).1;omega)) trivial rfl rfl rfl rfl rfl ⟨aRow rfl (rSp_flat _) rfl (inF_0 (by have:=whoOk_in (who:=who) (by assumption);have:=ok_3 (T:=T) (by assumption);omega) (by have:=whoOk_in (who:=who) (by assumption);have:=ok_3 (T:=T) (by assumption);omega)) (.inl rfl) (.inl rfl) rfl,trivial⟩ (vPl_flat _) rfl rfl rfl ?_
     refine gC0 [] (put_c (ofP (at_ T who).w) (ofP (at_ T who).r) true) trivial rfl rfl rfl rfl (by trivial) rfl rfl (vPl_flat _) rfl rfl ?_
     refine gT trivial rfl rfl rfl rfl rfl rfl rfl rfl rfl rfl zPl pPl ?_
     refine rg_nil (fun _=>by kernel_rfl) ?_
     refine vc_seq ?_
     refine vc_region hm ?_
     refine gL trivial rfl rfl rfl rfl rfl rfl rfl wPl ?_
     refine gL trivial rfl rfl rfl rfl rfl rfl rfl rfl ?_
     refine gR (u':=5) (out:=rSp [s]) trivial rfl rfl rfl rfl rfl rfl rfl rfl rfl rfl rfl rfl rfl rfl ?_
     refine gC0 [4] (of_c (l:=[s]) (inB_one' (by assumption)) (show 1≤1000000 by decide)) trivial rfl rfl rfl rfl ⟨rFlat (rSp_flat [s]) rfl (.inl rfl) rfl,trivial⟩ rfl rfl (vPl_flat _) rfl rfl ?_
     refine gC0 [] (meet_c (putP (ofP (at_ T who).w) (ofP (at_ T who).r) true) (ofP [s])) trivial rfl rfl rfl rfl (by trivial) rfl rfl (vPl_flat _) rfl rfl ?_
     refine gL trivial rfl rfl rfl rfl rfl rfl rfl rfl ?_
     refine gR (u':=6) (out:=rSp [s]) trivial rfl rfl rfl rfl rfl rfl rfl rfl rfl rfl rfl rfl rfl rfl ?_
     refine gC0 [5] (of_c (l:=[s]) (inB_one' (by assumption)) (show 1≤1000000 by decide)) trivial rfl rfl rfl rfl ⟨rFlat (rSp_flat [s]) rfl (.inl rfl) rfl,trivial⟩ rfl rfl (vPl_flat _) rfl rfl ?_
     refine gEqP trivial rfl rfl rfl rfl rfl (by kernel_rfl) rfl rfl rfl rfl ?_
     refine gM trivial (.inr rfl) rfl rfl rfl ?_
     refine rg_nil (fun _=>by kernel_rfl) ?_
     refine vc_ret ?_
     exact ⟨idm,ends0 (.inr rfl) rfl (eqB ((lm_4 (by assumption) (by assumption) (by assumption)).trans (may_eqF (by assumption)).symm)) rfl rfl rfl⟩
    ·skip
     have n30:=unF c30
     refine vc_skip ?_
     refine vc_seq ?_
     refine vc_region hm ?_
     refine gL trivial rfl rfl rfl rfl rfl rfl rfl wPl ?_
     refine gL trivial rfl rfl rfl rfl rfl rfl rfl rfl ?_
     refine gR (u':=5) (out:=rSp [s]) trivial rfl rfl rfl rfl rfl rfl rfl rfl rfl rfl rfl rfl rfl rfl ?_
     refine gC0 [4] (of_c (l:=[s]) (inB_one' (by assumption)) (show 1≤1000000 by decide)) trivial rfl rfl rfl rfl ⟨rFlat (rSp_flat [s]) rfl (.inl rfl) rfl,trivial⟩ rfl rfl (vPl_flat _) rfl rfl ?_
     refine gC0 [] (meet_c (ofP (at_ T who).w) (ofP [s])) trivial rfl rfl rfl rfl (by trivial) rfl rfl (vPl_flat _) rfl rfl ?_
     refine gL trivial rfl rfl rfl rfl rfl rfl rfl rfl ?_
     refine gR (u':=6) (out:=rSp [s]) trivial rfl rfl rfl rfl rfl rfl rfl rfl rfl rfl rfl rfl rfl rfl ?_
     refine gC0 [5] (of_c (l:=[s]) (inB_one' (by assumption)) (show 1≤1000000 by decide)) trivial rfl rfl rfl rfl ⟨rFlat (rSp_flat [s]) rfl (.inl rfl) rfl,trivial⟩ rfl rfl (vPl_flat _) rfl rfl ?_
     refine gEqP trivial rfl rfl rfl rfl rfl (by kernel_rfl) rfl rfl rfl rfl ?_
     refine gM trivial (.inr rfl) rfl rfl rfl ?_
     refine rg_nil (fun _=>by kernel_rfl) ?_
     refine vc_ret ?_
     exact ⟨idm,ends0 (.inr rfl) rfl (eqB ((lm_4 (by assumption) (by assumption) (by assumption)).trans (may_eqT (by assumption)).symm)) rfl rfl rfl⟩
end Go.Proofs.Ytbgehlihpkefmaa.A
namespace Go.Proofs.Ytbgehlihpkefmaa.A
open Go Go.RowKit
open Go.Joins Go.ChangeShapes Go.WideShapes Go.Deep
def RawN (w:World) (v:Value) (N:Nam) (k n:Nat) (cs:List Value):Prop :=
 v=(if N.nil=true then zv N.z else .slice (some ⟨N.blk,k,none⟩) n (N.cap - 0))∧(if N.nil=true then hls k cs = [] else ∃ (c:Array Value) (t:TypeId) (z:Nat × Nat),w.heap[N.blk]?=some (.cells c t z)∧∀ (i:Nat) (x:Value),(hls k cs)[i]?=some x→x ≠ hole→c[i]?=some x)
theorem raw_none {w:World}:RawN w (.slice none 0 0) ⟨0,0,true,none⟩ 0 0 []:=⟨rfl,rfl⟩
theorem raw_of' {α:Type} {enc:α→List Value} {m:Nat} (he:∀ x,(enc x).length=m) (hm:0<m) {w:World} {a:Addr} {cap:Nat} {l:List α} (h:∀ i x,(rowL enc l)[i]?=some x→w.cell? (a.add i)=some x):∃ N k,RawN w (.slice (some a) l.length cap) N k l.length (rowL enc l)∧(N.nil=false→N.cap=cap):=by
 rcases l with _|⟨x,xs⟩
 ·exact ⟨⟨0,0,true,some (a,cap)⟩,0,⟨rfl,rfl⟩,fun q=>(by cases q)⟩
 ·have hp0:0<(rowL enc (x :: xs)).length:=by rw [rowL_len he,List.length_cons];exact Nat.mul_pos (Nat.succ_pos _) hm
  have h0:=h 0 _ (List.getElem?_eq_getElem hp0)
  have h1:∃ c t z,w.heap[a.block]?=some (.cells c t z)∧a.spot=none:=by
   have e:a.add 0=a:=by simp [Addr.add]
   unfold World.cell? at h0
   rw [e] at h0
   split at h0
   ·rename_i c t z hh
    refine ⟨c,t,z,hh,?_⟩
    split at h0
    ·cases h0
    ·rename_i hs;simpa using hs
   ·cases h0
  obtain ⟨c,t,z,hh,hs⟩:=h1
  obtain ⟨b,off,sp⟩:=a
  simp only at hs hh
  subst hs
  refine ⟨⟨b,cap,false,none⟩,off,⟨rfl,(if_neg Bool.false_ne_true).mpr ⟨c,t,z,hh,fun i v hv hne=>?_⟩⟩,fun _=>rfl⟩
  unfold hls at hv
  by_cases hi:i<off
  ·rw [List.getElem?_append_left (by simpa using hi)] at hv
   have:=List.mem_of_getElem? hv
   exact absurd (List.eq_of_mem_replicate this) hne
  ·rw [List.getElem?_append_right (by simpa using hi),List.length_replicate] at hv
   have:=h (i - off) v hv
   rw [add_eq,cell_eq hh] at this
   rw [← this]
   congr 1
   omega
def envL (l:List Nam):Env:=fun n=>(l[n % 1000]?).getD ⟨0,0,true,none⟩
theorem raw_atR {w:World} {v:Value} {N:Nam} {k n:Nat} {cs:List Value} {t:TypeId} {l:List Nam} {b:Nat} (h:RawN w v N k n cs) (hf:cs.all flat1=true) (hb:l[b]?=some N) (hb':b<1000) (ht:N.nil=false→t - capT≤N.cap):famAt (envL l) w b (one ⟨hls k cs,t,0⟩):=by
 intro k' x e
 obtain ⟨rfl,rfl⟩:=one_some e
 have e1:envL l (nm b 0)=N:=by unfold envL;rw [nm_mod hb',hb];rfl
 unfold blkAt
 rw [e1]
 have h2:=h.2
 cases hn:N.nil with
 | true=>rw [hn,if_pos rfl] at h2;rw [if_pos rfl];exact ⟨h2,fun q=>absurd rfl q,(by decide:0<100)⟩
 | false =>
  rw [hn,if_neg (by decide)] at h2
  rw [if_neg (by decide),if_pos rfl]
  obtain ⟨c,t',z,h3,h4⟩:=h2
  refine ⟨c,t',z,h3,fun i v hv hne=>?_,ht hn⟩
  rw [r1_flat (List.all_eq_true.1 (hls_flat (k:=k) hf) v (List.mem_of_getElem? hv))]
  exact h4 i v hv hne
theorem raw_r1 {w:World} {v:Value} {N:Nam} {k n:Nat} {cs:List Value} {l:List Nam} {b:Nat} (h:RawN w v N k n cs) (hb:l[b]?=some N) (hb':b<1000):r1 (envL l) (.slice (some ⟨b,k,none⟩) n 0)=v:=by
 show (if (envL l b).nil=true then zv (envL l b).z else .slice (some ⟨(envL l b).blk,k,none⟩) n ((envL l b).cap - 0))=v
 have e1:envL l b=N:=by unfold envL;rw [Nat.mod_eq_of_lt hb',hb];rfl
 rw [e1,h.1]
def AtL (ρ:Env) (w:World):List (Nat × Bool × Fam)→Prop
 | []=>True
 | x :: l=>famAt ρ w x.1 x.2.2∧AtL ρ w l
theorem atL_mem {ρ:Env} {w:World}:∀ {l:List (Nat × Bool × Fam)},AtL ρ w l→∀ b o F,l.lookup b=some (o,F)→famAt ρ w b F
 | x :: l,h,b,o,F,e=>by
  obtain ⟨c,y⟩:=x
  rw [List.lookup_cons] at e
  by_cases hb:b=c
  ·subst hb
   simp at e
   subst e
   exact h.1
  ·have:(b == c)=false:=by simpa using hb
   rw [this] at e
   exact atL_mem h.2 b o F e
theorem law_done {P:Program} {f:FuncId} {args:List Value} {hl:List (Nat × Bool × Fam)} {rd:List Nat} {ρ:Env} {w:World} {vs:Array Value} (h:FDoes P f args (hp hl) { v:=.bool true,rd:=rd }) (ha:(args.map (r3 ρ)).toArray=vs) (hr:AtL ρ w hl) :
  Calls P f vs w fun e w'=>e = .returned (.bool true)∧Below w.heap.size w w':=by
 subst ha
 refine (h.run ρ w ⟨fun b _ o F e=>atL_mem hr b o F e,fun b hb=>(by cases hb)⟩).mono fun e w' ⟨ρ',hB,he⟩=>⟨he,?_⟩
 have hf:=hB.frm
 exact Frm.below ⟨hf.os,hf.tape,hf.output,hf.size,fun k hk hn=>hf.block k hk fun ⟨b,hb,_⟩=>(by cases hb)⟩
section
variable {H:Type} {enc:TypeId × Value→H} {P:Program} {w:World} {base:Nat} {spare:Nat→Bool} {held:Bool}
end
section
variable {H:Type} {enc:TypeId × Value→H} {w:World} {base:Nat} {spare:Nat→Bool} {held:Bool}
end
theorem u8_in {n:Int} (h:(Lit.int .u8 n).wf=true):0≤n∧n≤255:=by
 have e1:IntKind.u8.min=0:=by decide
 have e2:IntKind.u8.max=255:=by decide
 simp only [Lit.wf,e1,e2,Bool.and_eq_true,decide_eq_true_eq] at h
 exact h
def CodeArg (w:World) (v:Value) (l:List Int) (N:Nam) (k:Nat):Prop:=RawN w v N k l.length (rY l)∧(N.nil=false→l.length≤N.cap)∧ByL l∧l.length≤9223372036854775807
theorem code_at {w:World} {v:Value} {l:List Int} {N:Nam} {k:Nat} {ns:List Nam} {b:Nat} (h:CodeArg w v l N k) (hb:ns[b]?=some N) (hb':b<1000):famAt (envL ns) w b (one ⟨hls k (rY l),capT + l.length,0⟩) :=
 raw_atR h.1 (rY_flat l) hb hb' fun hn=>by rw [Nat.add_sub_cancel_left];exact h.2.1 hn
theorem code_r3 {w:World} {v:Value} {l:List Int} {N:Nam} {k:Nat} {ns:List Nam} {b:Nat} (h:CodeArg w v l N k) (hb:ns[b]?=some N) (hb':b<1000):r3 (envL ns) (.slice (some ⟨b,k,none⟩) l.length 0)=v:=raw_r1 h.1 hb hb'
theorem open_bytesA {H:Type} {enc:TypeId × Value→H} {w:World} {base:Nat} {spare:Nat→Bool} {held:Bool} {r:Reach} {b0:Nat} {v:Value} {d:DataW H} {p:List MemPlace} (hv:Value.okWide Try.prog w r b0 22 v) (h:DataW.Trod enc Try.prog w base spare held 22 v d p):∃ l N k,CodeArg w v l N k:=by
 obtain ⟨a1,len,cap,rfl⟩:=okWide_slice Try.underlying22 hv
 obtain ⟨fuel,hf⟩:=h
 rcases open_ints Try.underlying22 Try.underlying5 (by kernel_rfl) hf with ⟨h1,_⟩|⟨a,len',cap',zs,h1,_,hl,hm,hz,_,hcell,hw⟩
 ·simp only [Value.cells,List.cons.injEq,_root_.and_true,Value.slice.injEq] at h1
  obtain ⟨rfl,rfl,rfl⟩:=h1
  exact ⟨[],_,_,raw_none,fun q=>(by cases q),(fun _ hx=>(nomatch hx)),by decide⟩
 ·simp only [Value.cells,List.cons.injEq,_root_.and_true,Value.slice.injEq] at h1
  obtain ⟨rfl,rfl,rfl⟩:=h1
  unfold maxLen at hm
  have hlz:len≤zs.length:=by rw [hz];split <;> omega
  have hn:(zs.take len).length=len:=by rw [List.length_take,Nat.min_eq_left hlz]
  have key:∀ i x,(rY (zs.take len))[i]?=some x→w.cell? (a.add i)=some x:=fun i x hx=>by
   have hi:=(List.getElem?_eq_some_iff.1 hx).1
   rw [rowL_len (n:=1) (fun _=>rfl),hn,Nat.mul_one] at hi
   have e1:x = .int .u8 (zs.getD i 0):=by
    have hg:=rowL_get (enc:=eY) (n:=1) (fun _=>rfl) (zs.take len) i 0 (by rw [hn];exact hi) (by decide)
    rw [Nat.mul_one,Nat.add_zero,hx,List.getElem_take] at hg
    rw [List.getD_eq_getElem?_getD,List.getElem?_eq_getElem (by omega)]
    exact Option.some.inj hg
   rw [e1]
   exact hcell i (by omega)
  obtain ⟨N,k,hr,hc⟩:=raw_of' (enc:=eY) (m:=1) (fun _=>rfl) (by decide) (cap:=cap) key
  refine ⟨zs.take len,N,k,by rw [hn] at hr ⊢;exact hr,fun q=>by rw [hc q,hn];omega,fun x hx=>u8_in (hw x (List.mem_of_mem_take hx)),by rw [hn];omega⟩
end Go.Proofs.Ytbgehlihpkefmaa.A

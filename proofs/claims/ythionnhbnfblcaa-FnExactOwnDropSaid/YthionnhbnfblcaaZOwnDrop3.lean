/- Part 3 of the proof of FnExactOwnDrop: words, contracts of callees, plain lemmas. -/
import Derived.Test.YthionnhbnfblcaaZOwnDrop2
set_option maxHeartbeats 8000000
set_option maxRecDepth 100000
set_option linter.unusedVariables false
set_option linter.unusedSimpArgs false
namespace Go.Proofs.Ythionnhbnfblcaa.A
open Go Go.RowKit
set_option maxHeartbeats 4000000
theorem FnExactOwnDrop_T {o:Ow} {k0 k1:Nat} {s:Sp} (ht:o.t.size≤9223372036854775807) (hh:o.h.length≤9223372036854775807) (hd:o.d.length≤9223372036854775807) (h:ownOk o=true):FDoes Try.prog 9 [.agg #[.string o.t,.slice (some ⟨0,k0,none⟩) o.h.length 0,.slice (some ⟨1,k1,none⟩) o.d.length 0],vSp s] (hp [(0,false,one ⟨hls k0 (rSp o.h),35,0⟩),(1,false,one ⟨hls k1 (rSp o.d),35,0⟩)]) { v:=.bool true,rd:=[0,1] }:=by
 have hm:Try.prog.follows .mixedOrders=true:=by kernel_rfl
 have hd_:∀ x_ ∈ ([(0,false,one ⟨hls k0 (rSp o.h),35,0⟩),(1,false,one ⟨hls k1 (rSp o.d),35,0⟩)]:List (Nat × Bool × Fam)),∀ k_ y_,x_.2.2 k_=some y_→DetB (lt 2) y_:=by
  intro x_ hx k_ y_ e
  simp only [List.mem_cons,List.not_mem_nil,or_false] at hx
  rcases hx with rfl|rfl
  ·exact det_row (hls_flat (rSp_flat o.h)) e
  ·exact det_row (hls_flat (rSp_flat o.d)) e
 have hr:=chO_ok (o:=o) (x:=dropX o s) (may:=mayD o s) h
 refine fn_exact (u0:=2) Try.func9 rfl rfl (gets rfl rfl rfl hd_ rfl) ?_
 clear hd_
 refine vc_seq ?_
 refine vc_region hm ?_
 refine gB (u':=3) trivial rfl rfl rfl rfl rfl rfl rfl rfl ?_
 refine gB (u':=4) trivial rfl rfl rfl rfl rfl rfl rfl rfl ?_
 refine gM trivial (.inr rfl) rfl rfl rfl ?_
 refine rg_nil nofun ?_
 refine vc_seq ?_
 refine vc_region hm ?_
 refine gM trivial (.inr rfl) rfl rfl rfl ?_
 refine rg_nil nofun ?_
 refine vc_seq ?_
 refine vc_region hm ?_
 refine gL trivial rfl rfl rfl rfl rfl rfl rfl rfl ?_
 refine gM trivial (.inl rfl) rfl rfl rfl ?_
 refine gC0 [0,1] (laws_szOwn_c (o:=o) (k0:=k0) (k1:=k1) (left:=1048576) (by omega) (by omega) ht hh hd) trivial rfl rfl rfl rfl ⟨rFlat (hls_flat (rSp_flat o.h)) rfl (.inl rfl) rfl,rFlat (hls_flat (rSp_flat o.d)) rfl (.inl rfl) rfl,trivial⟩ rfl rfl rfl rfl rfl ?_
 refine gM trivial (.inr rfl) rfl rfl rfl ?_
 refine rg_nil nofun ?_
 refine vc_seq ?_
 refine vc_seq ?_
 refine vc_region hm ?_
 refine gM trivial (.inl rfl) rfl rfl rfl ?_
 refine gI trivial rfl rfl rfl rfl rfl rfl ?_
 refine rg_nil nofun ?_
 refine cI rfl (fun c20=>?_) (fun c20=>?_)
 ·skip
  have p20:=of_decide_eq_true c20
  refine vc_seq ?_
  refine vc_region hm ?_
  refine gM trivial (.inr rfl) rfl rfl rfl ?_
  refine rg_nil nofun ?_
  refine vc_ret ?_
  exact ⟨idm,ends0 (.inr rfl) rfl (eqB rfl) rfl rfl rfl⟩
 ·skip
  have p20:=of_decide_eq_false c20
  refine vc_skip ?_
  refine vc_seq ?_
  refine vc_region hm ?_
  refine gL trivial rfl rfl rfl rfl rfl rfl rfl rfl ?_
  refine gCn 6 [0,1,4,5] (laws_toOwn_c (o:=o) (k0:=k0) (k1:=k1) (szO_le p20).2.1 (szO_le p20).2.2) trivial rfl rfl rfl rfl ⟨rFlat (hls_flat (rSp_flat o.h)) rfl (.inl rfl) rfl,rFlat (hls_flat (rSp_flat o.d)) rfl (.inl rfl) rfl,trivial⟩ ⟨rSp_flat _,rSp_flat _,trivial⟩ rfl rfl rfl rfl ?_
  refine gL trivial rfl rfl rfl rfl rfl rfl rfl rfl ?_
  refine gC0 [] (laws_toSpan_c s) trivial rfl rfl rfl rfl (by trivial) rfl rfl rfl rfl rfl ?_
  refine gCn 8 [4,5,6,7] (spec_OwnDrop_c (o:=o) (s:=s) h) trivial rfl rfl rfl rfl ⟨rFlat (rSp_flat o.h) rfl (.inr rfl) rfl,rFlat (rSp_flat o.d) rfl (.inr rfl) rfl,trivial⟩ ⟨rSp_flat _,rSp_flat _,trivial⟩ rfl rfl rfl rfl ?_
  refine gM trivial (.inl rfl) rfl rfl rfl ?_
  refine gE trivial rfl rfl rfl rfl rfl rfl ?_
  refine gE trivial rfl rfl rfl rfl rfl rfl ?_
  refine gZ (u':=9) trivial rfl rfl rfl rfl rfl rfl rfl rfl ?_
  refine gT trivial rfl rfl rfl rfl rfl rfl rfl rfl rfl rfl (Nat.le_of_ble_eq_true rfl) rfl ?_
  refine gM trivial (.inr rfl) rfl rfl rfl ?_
  refine rg_nil (fun _=>by kernel_rfl) ?_
  refine vc_seq ?_
  refine vc_region hm ?_
  refine gL trivial rfl rfl rfl rfl rfl rfl rfl rfl ?_
  refine gCn 11 [0,1,9,10] (laws_toOwn_c (o:=o) (k0:=k0) (k1:=k1) (szO_le p20).2.1 (szO_le p20).2.2) trivial rfl rfl rfl rfl ⟨rFlat (hls_flat (rSp_flat o.h)) rfl (.inl rfl) rfl,rFlat (hls_flat (rSp_flat o.d)) rfl (.inl rfl) rfl,trivial⟩ ⟨rSp_flat _,rSp_flat _,trivial⟩ rfl rfl rfl rfl ?_
  refine gZ (u':=12) trivial rfl rfl rfl rfl rfl rfl rfl rfl ?_
  refine gT trivial rfl rfl rfl rfl rfl rfl rfl rfl rfl rfl (Nat.le_of_ble_eq_true rfl) rfl ?_
  refine rg_nil nofun ?_
  refine vc_seq ?_
  refine vc_region hm ?_
  refine gL trivial rfl rfl rfl rfl rfl rfl rfl rfl ?_
  refine gL trivial rfl rfl rfl rfl rfl rfl rfl rfl ?_
  refine gC0 [] (laws_toSpan_c s) trivial rfl rfl rfl rfl (by trivial) rfl rfl rfl rfl rfl ?_
  refine gCn 14 [9,10,12,13] (impl_OwnDrop_c (o:=o) (s:=s) h) trivial rfl rfl rfl rfl ⟨rFlat (rSp_flat o.h) rfl (.inr rfl) rfl,rFlat (rSp_flat o.d) rfl (.inr rfl) rfl,trivial⟩ ⟨rSp_flat _,rSp_flat _,trivial⟩ rfl rfl rfl rfl ?_
  refine gM trivial (.inl rfl) rfl rfl rfl ?_
  refine gE trivial rfl rfl rfl rfl rfl rfl ?_
  refine gE trivial rfl rfl rfl rfl rfl rfl ?_
  refine gZ (u':=15) trivial rfl rfl rfl rfl rfl rfl rfl rfl ?_
  refine gT trivial rfl rfl rfl rfl rfl rfl rfl rfl rfl rfl (Nat.le_of_ble_eq_true rfl) rfl ?_
  refine gM trivial (.inr rfl) rfl rfl rfl ?_
  refine rg_nil (fun _=>by kernel_rfl) ?_
  refine vc_seq ?_
  refine vc_seq ?_
  refine vc_region hm ?_
  refine gL trivial rfl rfl rfl rfl rfl rfl rfl rfl ?_
  refine gL trivial rfl rfl rfl rfl rfl rfl rfl rfl ?_
  refine gC0 [12,13,6,7] (laws_eqOwn_c (x:=(chO (mayD o s) o (dropX o s))) (y:=(chO (mayD o s) o (dropX o s))) hr.2.1 hr.2.2) trivial rfl rfl rfl rfl ⟨rFlat (rSp_flat _) rfl (.inl rfl) rfl,rFlat (rSp_flat _) rfl (.inl rfl) rfl,rFlat (rSp_flat _) rfl (.inl rfl) rfl,rFlat (rSp_flat _) rfl (.inl rfl) rfl,trivial⟩ rfl rfl rfl rfl rfl ?_
  refine gN trivial rfl rfl rfl rfl ?_
  refine gM trivial (.inl rfl) rfl rfl rfl ?_
  refine gM ⟨_,_,rfl,rfl,(notT (eqO_self (chO (mayD o s) o (dropX o s))))⟩ (.inl rfl) rfl rfl rfl ?_
  refine gM ⟨_,_,rfl,rfl,(notT (eqO_self (chO (mayD o s) o (dropX o s))))⟩ (.inl rfl) rfl rfl rfl ?_
  refine gBN ⟨_,_,rfl,rfl,(notT (eqO_self (chO (mayD o s) o (dropX o s))))⟩ rfl rfl rfl rfl rfl rfl ?_
  refine gPF trivial rfl rfl (notT (eqO_self (chO (mayD o s) o (dropX o s)))) rfl rfl rfl ?_
  refine rg_nil nofun ?_
  refine cF rfl (nself _) ?_
  refine vc_skip ?_
  refine vc_seq ?_
  refine vc_seq ?_
  refine vc_region hm ?_
  refine gL trivial rfl rfl rfl rfl rfl rfl rfl rfl ?_
  refine gL trivial rfl rfl rfl rfl rfl rfl rfl rfl ?_
  refine gCn 17 [0,1,15,16] (laws_toOwn_c (o:=o) (k0:=k0) (k1:=k1) (szO_le p20).2.1 (szO_le p20).2.2) trivial rfl rfl rfl rfl ⟨rFlat (hls_flat (rSp_flat o.h)) rfl (.inl rfl) rfl,rFlat (hls_flat (rSp_flat o.d)) rfl (.inl rfl) rfl,trivial⟩ ⟨rSp_flat _,rSp_flat _,trivial⟩ rfl rfl rfl rfl ?_
  refine gC0 [9,10,15,16] (laws_eqOwn_c (x:=o) (y:=o) (szO_le p20).2.1 (szO_le p20).2.2) trivial rfl rfl rfl rfl ⟨rFlat (rSp_flat o.h) rfl (.inl rfl) rfl,rFlat (rSp_flat o.d) rfl (.inl rfl) rfl,rFlat (rSp_flat o.h) rfl (.inl rfl) rfl,rFlat (rSp_flat o.d) rfl (.inl rfl) rfl,trivial⟩ rfl rfl rfl rfl rfl ?_
  refine gN trivial rfl rfl rfl rfl ?_
  refine rg_nil (fun _=>by kernel_rfl) ?_
  refine cF rfl (notT (eqO_self o)) ?_
  refine vc_skip ?_
  refine vc_seq ?_
  refine vc_region hm ?_
  refine gM trivial (.inr rfl) rfl rfl rfl ?_
  refine rg_nil nofun ?_
  refine vc_seq ?_
  refine vc_region hm ?_
  refine gL trivial rfl rfl rfl rfl rfl rfl rfl rfl ?_
  refine gM trivial (.inl rfl) rfl rfl rfl ?_
  refine gCG 17 [9,10] (laws_markOwn_c102 (o:=o) (k:=1) (szO_le p20).2.1 (szO_le p20).2.2 (by decide) (by decide)) trivial rfl rfl rfl rfl ⟨rFlat (rSp_flat o.h) rfl (.inr rfl) rfl,rFlat (rSp_flat o.d) rfl (.inr rfl) rfl,trivial⟩ ⟨rSp_flat _,rSp_flat _,trivial⟩ trivial rfl rfl (by intro x hx;simp only [List.mem_cons,List.not_mem_nil,or_false] at hx;rcases hx with rfl|rfl <;> exact ⟨_,rfl⟩) (by intro x hx;simp only [List.mem_cons,List.not_mem_nil,or_false] at hx;rcases hx with rfl|rfl <;> exact ⟨_,_,rfl⟩) rfl rfl ?_
  refine gM trivial (.inr rfl) rfl rfl rfl ?_
  refine rg_nil nofun ?_
  refine vc_seq ?_
  refine vc_seq ?_
  refine vc_region hm ?_
  refine gM trivial (.inl rfl) rfl rfl rfl ?_
  refine gI trivial rfl rfl rfl rfl rfl rfl ?_
  refine gM trivial (.inl rfl) rfl rfl rfl ?_
  refine gL ⟨_,_,rfl,rfl,(decide_eq_false (by omega))⟩ rfl rfl rfl rfl rfl rfl rfl rfl ?_
  refine gL ⟨_,_,rfl,rfl,(decide_eq_false (by omega))⟩ rfl rfl rfl rfl rfl rfl rfl rfl ?_
  refine gC0 [12,13,6,7] (laws_eqOwn_c (x:=(chO (mayD o s) o (dropX o s))) (y:=(chO (mayD o s) o (dropX o s))) hr.2.1 hr.2.2) ⟨_,_,rfl,rfl,(decide_eq_false (by omega))⟩ rfl rfl rfl rfl ⟨rFlat (rSp_flat _) rfl (.inl rfl) rfl,rFlat (rSp_flat _) rfl (.inl rfl) rfl,rFlat (rSp_flat _) rfl (.inl rfl) rfl,rFlat (rSp_flat _) rfl (.inl rfl) rfl,trivial⟩ rfl rfl rfl rfl rfl ?_
  refine gN ⟨_,_,rfl,rfl,(decide_eq_false (by omega))⟩ rfl rfl rfl rfl ?_
  refine gPF trivial rfl rfl (decide_eq_false (by omega)) rfl rfl rfl ?_
  refine gM trivial (.inl rfl) rfl rfl rfl ?_
  refine gM ⟨_,_,rfl,rfl,(notT (eqO_self (chO (mayD o s) o (dropX o s))))⟩ (.inl rfl) rfl rfl rfl ?_
  refine gM ⟨_,_,rfl,rfl,(notT (eqO_self (chO (mayD o s) o (dropX o s))))⟩ (.inl rfl) rfl rfl rfl ?_
  refine gBN ⟨_,_,rfl,rfl,(notT (eqO_self (chO (mayD o s) o (dropX o s))))⟩ rfl rfl rfl rfl rfl rfl ?_
  refine gPF trivial rfl rfl (notT (eqO_self (chO (mayD o s) o (dropX o s)))) rfl rfl rfl ?_
  refine rg_nil nofun ?_
  refine cF rfl (nself _) ?_
  refine vc_skip ?_
  refine vc_seq ?_
  refine vc_region hm ?_
  refine gM trivial (.inr rfl) rfl rfl rfl ?_
  refine rg_nil nofun ?_
  refine vc_seq ?_
  refine vc_region hm ?_
  refine gL trivial rfl rfl rfl rfl rfl rfl rfl rfl ?_
  refine gM trivial (.inl rfl) rfl rfl rfl ?_
  refine gCG 17 [12,13] (laws_markOwn_c2 (o:=(chO (mayD o s) o (dropX o s))) (k:=1) hr.2.1 hr.2.2 (by decide) (by decide)) trivial rfl rfl rfl rfl ⟨rFlat (rSp_flat _) rfl (.inr rfl) rfl,rFlat (rSp_flat _) rfl (.inr rfl) rfl,trivial⟩ ⟨rSp_flat _,rSp_flat _,trivial⟩ trivial rfl rfl (by intro x hx;simp only [List.mem_cons,List.not_mem_nil,or_false] at hx;rcases hx with rfl|rfl <;> exact ⟨_,rfl⟩) (by intro x hx;simp only [List.mem_cons,List.not_mem_nil,or_false] at hx;rcases hx with rfl|rfl <;> exact ⟨_,_,rfl⟩) rfl rfl ?_
  refine gM trivial (.inr rfl) rfl rfl rfl ?_
  refine rg_nil nofun ?_
  refine vc_seq ?_
  refine vc_region hm ?_
  refine gM trivial (.inr rfl) rfl rfl rfl ?_
  refine rg_nil nofun ?_
  refine vc_seq ?_
  refine vc_region hm ?_
  refine gL trivial rfl rfl rfl rfl rfl rfl rfl rfl ?_
  refine gM trivial (.inl rfl) rfl rfl rfl ?_
  refine gC0 [12,13] (laws_heldOwn_c (o:=(chO (mayD o s) o (dropX o s))) (k:=1) hr.2.1 hr.2.2 (by decide) (by decide)) trivial rfl rfl rfl rfl ⟨rFlat (rSp_flat _) rfl (.inl rfl) rfl,rFlat (rSp_flat _) rfl (.inl rfl) rfl,trivial⟩ rfl rfl rfl rfl rfl ?_
  refine gM trivial (.inr rfl) rfl rfl rfl ?_
  refine rg_nil nofun ?_
  refine vc_seq ?_
  refine vc_seq ?_
  refine vc_region hm ?_
  refine gM trivial (.inl rfl) rfl rfl rfl ?_
  refine gI trivial rfl rfl rfl rfl rfl rfl ?_
  refine rg_nil nofun ?_
  refine cF rfl (decide_eq_false (by omega)) ?_
  refine vc_skip ?_
  refine vc_seq ?_
  refine vc_seq ?_
  refine vc_region hm ?_
  refine gM trivial (.inl rfl) rfl rfl rfl ?_
  refine gM trivial (.inl rfl) rfl rfl rfl ?_
  refine gI trivial rfl rfl rfl rfl rfl rfl ?_
  refine rg_nil nofun ?_
  refine cF rfl (bne_self_eq_false _) ?_
  refine vc_skip ?_
  refine vc_seq ?_
  refine vc_region hm ?_
  refine gL trivial rfl rfl rfl rfl rfl rfl rfl rfl ?_
  refine gCn 19 [0,1,17,18] (laws_toOwn_c (o:=o) (k0:=k0) (k1:=k1) (szO_le p20).2.1 (szO_le p20).2.2) trivial rfl rfl rfl rfl ⟨rFlat (hls_flat (rSp_flat o.h)) rfl (.inl rfl) rfl,rFlat (hls_flat (rSp_flat o.d)) rfl (.inl rfl) rfl,trivial⟩ ⟨rSp_flat _,rSp_flat _,trivial⟩ rfl rfl rfl rfl ?_
  refine gL trivial rfl rfl rfl rfl rfl rfl rfl rfl ?_
  refine gC0 [] (laws_toSpan_c s) trivial rfl rfl rfl rfl (by trivial) rfl rfl rfl rfl rfl ?_
  refine gCn 21 [17,18,19,20] (impl_OwnDrop_c (o:=o) (s:=s) h) trivial rfl rfl rfl rfl ⟨rFlat (rSp_flat o.h) rfl (.inr rfl) rfl,rFlat (rSp_flat o.d) rfl (.inr rfl) rfl,trivial⟩ ⟨rSp_flat _,rSp_flat _,trivial⟩ rfl rfl rfl rfl ?_
  refine gM trivial (.inl rfl) rfl rfl rfl ?_
  refine gE trivial rfl rfl rfl rfl rfl rfl ?_
  refine gE trivial rfl rfl rfl rfl rfl rfl ?_
  refine gZ (u':=22) trivial rfl rfl rfl rfl rfl rfl rfl rfl ?_
  refine gT trivial rfl rfl rfl rfl rfl rfl rfl rfl rfl rfl (Nat.le_of_ble_eq_true rfl) rfl ?_
  refine gM trivial (.inr rfl) rfl rfl rfl ?_
  refine rg_nil (fun _=>by kernel_rfl) ?_
  refine vc_seq ?_
  refine vc_seq ?_
  refine vc_region hm ?_
  refine gL trivial rfl rfl rfl rfl rfl rfl rfl rfl ?_
  refine gL trivial rfl rfl rfl rfl rfl rfl rfl rfl ?_
  refine gC0 [19,20,6,7] (laws_eqOwn_c (x:=(chO (mayD o s) o (dropX o s))) (y:=(chO (mayD o s) o (dropX o s))) hr.2.1 hr.2.2) trivial rfl rfl rfl rfl ⟨rFlat (rSp_flat _) rfl (.inl rfl) rfl,rFlat (rSp_flat _) rfl (.inl rfl) rfl,rFlat (rSp_flat _) rfl (.inl rfl) rfl,rFlat (rSp_flat _) rfl (.inl rfl) rfl,trivial⟩ rfl rfl rfl rfl rfl ?_
  refine gN trivial rfl rfl rfl rfl ?_
  refine gM trivial (.inl rfl) rfl rfl rfl ?_
  refine gM ⟨_,_,rfl,rfl,(notT (eqO_self (chO (mayD o s) o (dropX o s))))⟩ (.inl rfl) rfl rfl rfl ?_
  refine gM ⟨_,_,rfl,rfl,(notT (eqO_self (chO (mayD o s) o (dropX o s))))⟩ (.inl rfl) rfl rfl rfl ?_
  refine gBN ⟨_,_,rfl,rfl,(notT (eqO_self (chO (mayD o s) o (dropX o s))))⟩ rfl rfl rfl rfl rfl rfl ?_
  refine gPF trivial rfl rfl (notT (eqO_self (chO (mayD o s) o (dropX o s)))) rfl rfl rfl ?_
  refine rg_nil nofun ?_
  refine cF rfl (nself _) ?_
  refine vc_skip ?_
  refine vc_seq ?_
  refine vc_region hm ?_
  refine gM trivial (.inr rfl) rfl rfl rfl ?_
  refine rg_nil nofun ?_
  refine vc_seq ?_
  refine vc_region hm ?_
  refine gL trivial rfl rfl rfl rfl rfl rfl rfl rfl ?_
  refine gM trivial (.inl rfl) rfl rfl rfl ?_
  refine gC0 [12,13] (laws_heldOwn_c (o:=(chO (mayD o s) o (dropX o s))) (k:=1) hr.2.1 hr.2.2 (by decide) (by decide)) trivial rfl rfl rfl rfl ⟨rFlat (rSp_flat _) rfl (.inl rfl) rfl,rFlat (rSp_flat _) rfl (.inl rfl) rfl,trivial⟩ rfl rfl rfl rfl rfl ?_
  refine gM trivial (.inr rfl) rfl rfl rfl ?_
  refine rg_nil nofun ?_
  refine vc_seq ?_
  refine vc_seq ?_
  refine vc_region hm ?_
  refine gM trivial (.inl rfl) rfl rfl rfl ?_
  refine gI trivial rfl rfl rfl rfl rfl rfl ?_
  refine rg_nil nofun ?_
  refine cF rfl (decide_eq_false (by omega)) ?_
  refine vc_skip ?_
  refine vc_seq ?_
  refine vc_seq ?_
  refine vc_region hm ?_
  refine gM trivial (.inl rfl) rfl rfl rfl ?_
  refine gM trivial (.inl rfl) rfl rfl rfl ?_
  refine gI trivial rfl rfl rfl rfl rfl rfl ?_
  refine rg_nil nofun ?_
  refine cF rfl (bne_self_eq_false _) ?_
  refine vc_skip ?_
  refine vc_seq ?_
  refine vc_region hm ?_
  refine gM trivial (.inr rfl) rfl rfl rfl ?_
  refine rg_nil nofun ?_
  refine vc_ret ?_
  exact ⟨idm,ends0 (.inr rfl) rfl (eqB rfl) rfl rfl rfl⟩
theorem FnExactOwnDrop_F {o:Ow} {k0 k1:Nat} {s:Sp} (ht:o.t.size≤9223372036854775807) (hh:o.h.length≤9223372036854775807) (hd:o.d.length≤9223372036854775807) (h:ownOk o=false):FDoes Try.prog 9 [.agg #[.string o.t,.slice (some ⟨0,k0,none⟩) o.h.length 0,.slice (some ⟨1,k1,none⟩) o.d.length 0],vSp s] (hp [(0,false,one ⟨hls k0 (rSp o.h),35,0⟩),(1,false,one ⟨hls k1 (rSp o.d),35,0⟩)]) { v:=.bool true,rd:=[0,1] }:=by
 have hm:Try.prog.follows .mixedOrders=true:=by kernel_rfl
 have hd_:∀ x_ ∈ ([(0,false,one ⟨hls k0 (rSp o.h),35,0⟩),(1,false,one ⟨hls k1 (rSp o.d),35,0⟩)]:List (Nat × Bool × Fam)),∀ k_ y_,x_.2.2 k_=some y_→DetB (lt 2) y_:=by
  intro x_ hx k_ y_ e
  simp only [List.mem_cons,List.not_mem_nil,or_false] at hx
  rcases hx with rfl|rfl
  ·exact det_row (hls_flat (rSp_flat o.h)) e
  ·exact det_row (hls_flat (rSp_flat o.d)) e
 refine fn_exact (u0:=2) Try.func9 rfl rfl (gets rfl rfl rfl hd_ rfl) ?_
 clear hd_
 refine vc_seq ?_
 refine vc_region hm ?_
 refine gB (u':=3) trivial rfl rfl rfl rfl rfl rfl rfl rfl ?_
 refine gB (u':=4) trivial rfl rfl rfl rfl rfl rfl rfl rfl ?_
 refine gM trivial (.inr rfl) rfl rfl rfl ?_
 refine rg_nil nofun ?_
 refine vc_seq ?_
 refine vc_region hm ?_
 refine gM trivial (.inr rfl) rfl rfl rfl ?_
 refine rg_nil nofun ?_
 refine vc_seq ?_
 refine vc_region hm ?_
 refine gL trivial rfl rfl rfl rfl rfl rfl rfl rfl ?_
 refine gM trivial (.inl rfl) rfl rfl rfl ?_
 refine gC0 [0,1] (laws_szOwn_c (o:=o) (k0:=k0) (k1:=k1) (left:=1048576) (by omega) (by omega) ht hh hd) trivial rfl rfl rfl rfl ⟨rFlat (hls_flat (rSp_flat o.h)) rfl (.inl rfl) rfl,rFlat (hls_flat (rSp_flat o.d)) rfl (.inl rfl) rfl,trivial⟩ rfl rfl rfl rfl rfl ?_
 refine gM trivial (.inr rfl) rfl rfl rfl ?_
 refine rg_nil nofun ?_
 refine vc_seq ?_
 refine vc_seq ?_
 refine vc_region hm ?_
 refine gM trivial (.inl rfl) rfl rfl rfl ?_
 refine gI trivial rfl rfl rfl rfl rfl rfl ?_
 refine rg_nil nofun ?_
 refine cI rfl (fun c20=>?_) (fun c20=>?_)
 ·skip
  have p20:=of_decide_eq_true c20
  refine vc_seq ?_
  refine vc_region hm ?_
  refine gM trivial (.inr rfl) rfl rfl rfl ?_
  refine rg_nil nofun ?_
  refine vc_ret ?_
  exact ⟨idm,ends0 (.inr rfl) rfl (eqB rfl) rfl rfl rfl⟩
 ·skip
  have p20:=of_decide_eq_false c20
  refine vc_skip ?_
  refine vc_seq ?_
  refine vc_region hm ?_
  refine gL trivial rfl rfl rfl rfl rfl rfl rfl rfl ?_
  refine gCn 6 [0,1,4,5] (laws_toOwn_c (o:=o) (k0:=k0) (k1:=k1) (szO_le p20).2.1 (szO_le p20).2.2) trivial rfl rfl rfl rfl ⟨rFlat (hls_flat (rSp_flat o.h)) rfl (.inl rfl) rfl,rFlat (hls_flat (rSp_flat o.d)) rfl (.inl rfl) rfl,trivial⟩ ⟨rSp_flat _,rSp_flat _,trivial⟩ rfl rfl rfl rfl ?_
  refine gL trivial rfl rfl rfl rfl rfl rfl rfl rfl ?_
  refine gC0 [] (laws_toSpan_c s) trivial rfl rfl rfl rfl (by trivial) rfl rfl rfl rfl rfl ?_
  refine gC0 [4,5] (spec_OwnDrop_n (o:=o) (s:=s) (szO_le p20).1 (szO_le p20).2.1 (szO_le p20).2.2 h) trivial rfl rfl rfl rfl ⟨rFlat (rSp_flat o.h) rfl (.inr rfl) rfl,rFlat (rSp_flat o.d) rfl (.inr rfl) rfl,trivial⟩ rfl rfl rfl rfl rfl ?_
  refine gM trivial (.inl rfl) rfl rfl rfl ?_
  refine gE trivial rfl rfl rfl rfl rfl rfl ?_
  refine gE trivial rfl rfl rfl rfl rfl rfl ?_
  refine gZ (u':=7) trivial rfl rfl rfl rfl rfl rfl rfl rfl ?_
  refine gT trivial rfl rfl rfl rfl rfl rfl rfl rfl rfl rfl (Nat.le_of_ble_eq_true rfl) rfl ?_
  refine gM trivial (.inr rfl) rfl rfl rfl ?_
  refine rg_nil (fun _=>by kernel_rfl) ?_
  refine vc_seq ?_
  refine vc_region hm ?_
  refine gL trivial rfl rfl rfl rfl rfl rfl rfl rfl ?_
  refine gCn 9 [0,1,7,8] (laws_toOwn_c (o:=o) (k0:=k0) (k1:=k1) (szO_le p20).2.1 (szO_le p20).2.2) trivial rfl rfl rfl rfl ⟨rFlat (hls_flat (rSp_flat o.h)) rfl (.inl rfl) rfl,rFlat (hls_flat (rSp_flat o.d)) rfl (.inl rfl) rfl,trivial⟩ ⟨rSp_flat _,rSp_flat _,trivial⟩ rfl rfl rfl rfl ?_
  refine gZ (u':=10) trivial rfl rfl rfl rfl rfl rfl rfl rfl ?_
  refine gT trivial rfl rfl rfl rfl rfl rfl rfl rfl rfl rfl (Nat.le_of_ble_eq_true rfl) rfl ?_
  refine rg_nil nofun ?_
  refine vc_seq ?_
  refine vc_region hm ?_
  refine gL trivial rfl rfl rfl rfl rfl rfl rfl rfl ?_
  refine gL trivial rfl rfl rfl rfl rfl rfl rfl rfl ?_
  refine gC0 [] (laws_toSpan_c s) trivial rfl rfl rfl rfl (by trivial) rfl rfl rfl rfl rfl ?_
  refine gC0 [7,8] (impl_OwnDrop_n (o:=o) (s:=s) (szO_le p20).1 (szO_le p20).2.1 (szO_le p20).2.2 h) trivial rfl rfl rfl rfl ⟨rFlat (rSp_flat o.h) rfl (.inr rfl) rfl,rFlat (rSp_flat o.d) rfl (.inr rfl) rfl,trivial⟩ rfl rfl rfl rfl rfl ?_
  refine gM trivial (.inl rfl) rfl rfl rfl ?_
  refine gE trivial rfl rfl rfl rfl rfl rfl ?_
  refine gE trivial rfl rfl rfl rfl rfl rfl ?_
  refine gZ (u':=11) trivial rfl rfl rfl rfl rfl rfl rfl rfl ?_
  refine gT trivial rfl rfl rfl rfl rfl rfl rfl rfl rfl rfl (Nat.le_of_ble_eq_true rfl) rfl ?_
  refine gM trivial (.inr rfl) rfl rfl rfl ?_
  refine rg_nil (fun _=>by kernel_rfl) ?_
  refine vc_seq ?_
  refine vc_seq ?_
  refine vc_region hm ?_
  refine gL trivial rfl rfl rfl rfl rfl rfl rfl rfl ?_
  refine gL trivial rfl rfl rfl rfl rfl rfl rfl rfl ?_
  refine gC0 [] (laws_eqOwn_n) trivial rfl rfl rfl rfl (by trivial) rfl rfl rfl rfl rfl ?_
  refine gN trivial rfl rfl rfl rfl ?_
  refine gM trivial (.inl rfl) rfl rfl rfl ?_
  refine gM ⟨_,_,rfl,rfl,(notT rfl)⟩ (.inl rfl) rfl rfl rfl ?_
  refine gM ⟨_,_,rfl,rfl,(notT rfl)⟩ (.inl rfl) rfl rfl rfl ?_
  refine gBN ⟨_,_,rfl,rfl,(notT rfl)⟩ rfl rfl rfl rfl rfl rfl ?_
  refine gPF trivial rfl rfl (notT rfl) rfl rfl rfl ?_
  refine rg_nil nofun ?_
  refine cF rfl (nself _) ?_
  refine vc_skip ?_
  refine vc_seq ?_
  refine vc_seq ?_
  refine vc_region hm ?_
  refine gL trivial rfl rfl rfl rfl rfl rfl rfl rfl ?_
  refine gL trivial rfl rfl rfl rfl rfl rfl rfl rfl ?_
  refine gCn 13 [0,1,11,12] (laws_toOwn_c (o:=o) (k0:=k0) (k1:=k1) (szO_le p20).2.1 (szO_le p20).2.2) trivial rfl rfl rfl rfl ⟨rFlat (hls_flat (rSp_flat o.h)) rfl (.inl rfl) rfl,rFlat (hls_flat (rSp_flat o.d)) rfl (.inl rfl) rfl,trivial⟩ ⟨rSp_flat _,rSp_flat _,trivial⟩ rfl rfl rfl rfl ?_
  refine gC0 [7,8,11,12] (laws_eqOwn_c (x:=o) (y:=o) (szO_le p20).2.1 (szO_le p20).2.2) trivial rfl rfl rfl rfl ⟨rFlat (rSp_flat o.h) rfl (.inl rfl) rfl,rFlat (rSp_flat o.d) rfl (.inl rfl) rfl,rFlat (rSp_flat o.h) rfl (.inl rfl) rfl,rFlat (rSp_flat o.d) rfl (.inl rfl) rfl,trivial⟩ rfl rfl rfl rfl rfl ?_
  refine gN trivial rfl rfl rfl rfl ?_
  refine rg_nil (fun _=>by kernel_rfl) ?_
  refine cF rfl (notT (eqO_self o)) ?_
  refine vc_skip ?_
  refine vc_seq ?_
  refine vc_region hm ?_
  refine gM trivial (.inr rfl) rfl rfl rfl ?_
  refine rg_nil nofun ?_
  refine vc_seq ?_
  refine vc_region hm ?_
  refine gL trivial rfl rfl rfl rfl rfl rfl rfl rfl ?_
  refine gM trivial (.inl rfl) rfl rfl rfl ?_
  refine gCG 13 [7,8] (laws_markOwn_c102 (o:=o) (k:=1) (szO_le p20).2.1 (szO_le p20).2.2 (by decide) (by decide)) trivial rfl rfl rfl rfl ⟨rFlat (rSp_flat o.h) rfl (.inr rfl) rfl,rFlat (rSp_flat o.d) rfl (.inr rfl) rfl,trivial⟩ ⟨rSp_flat _,rSp_flat _,trivial⟩ trivial rfl rfl (by intro x hx;simp only [List.mem_cons,List.not_mem_nil,or_false] at hx;rcases hx with rfl|rfl <;> exact ⟨_,rfl⟩) (by intro x hx;simp only [List.mem_cons,List.not_mem_nil,or_false] at hx;rcases hx with rfl|rfl <;> exact ⟨_,_,rfl⟩) rfl rfl ?_
  refine gM trivial (.inr rfl) rfl rfl rfl ?_
  refine rg_nil nofun ?_
  refine vc_seq ?_
  refine vc_seq ?_
  refine vc_region hm ?_
  refine gM trivial (.inl rfl) rfl rfl rfl ?_
  refine gI trivial rfl rfl rfl rfl rfl rfl ?_
  refine gM trivial (.inl rfl) rfl rfl rfl ?_
  refine gL ⟨_,_,rfl,rfl,(decide_eq_false (by omega))⟩ rfl rfl rfl rfl rfl rfl rfl rfl ?_
  refine gL ⟨_,_,rfl,rfl,(decide_eq_false (by omega))⟩ rfl rfl rfl rfl rfl rfl rfl rfl ?_
  refine gC0 [] (laws_eqOwn_n) ⟨_,_,rfl,rfl,(decide_eq_false (by omega))⟩ rfl rfl rfl rfl (by trivial) rfl rfl rfl rfl rfl ?_
  refine gN ⟨_,_,rfl,rfl,(decide_eq_false (by omega))⟩ rfl rfl rfl rfl ?_
  refine gPF trivial rfl rfl (decide_eq_false (by omega)) rfl rfl rfl ?_
  refine gM trivial (.inl rfl) rfl rfl rfl ?_
  refine gM ⟨_,_,rfl,rfl,(notT rfl)⟩ (.inl rfl) rfl rfl rfl ?_
  refine gM ⟨_,_,rfl,rfl,(notT rfl)⟩ (.inl rfl) rfl rfl rfl ?_
  refine gBN ⟨_,_,rfl,rfl,(notT rfl)⟩ rfl rfl rfl rfl rfl rfl ?_
  refine gPF trivial rfl rfl (notT rfl) rfl rfl rfl ?_
  refine rg_nil nofun ?_
  refine cF rfl (nself _) ?_
  refine vc_skip ?_
  refine vc_seq ?_
  refine vc_region hm ?_
  refine gM trivial (.inr rfl) rfl rfl rfl ?_
  refine rg_nil nofun ?_
  refine vc_seq ?_
  refine vc_region hm ?_
  refine gL trivial rfl rfl rfl rfl rfl rfl rfl rfl ?_
  refine gM trivial (.inl rfl) rfl rfl rfl ?_
  refine gC0 [] (laws_markOwn_n) trivial rfl rfl rfl rfl (by trivial) rfl rfl rfl rfl rfl ?_
  refine gM trivial (.inr rfl) rfl rfl rfl ?_
  refine rg_nil nofun ?_
  refine vc_seq ?_
  refine vc_region hm ?_
  refine gM trivial (.inr rfl) rfl rfl rfl ?_
  refine rg_nil nofun ?_
  refine vc_seq ?_
  refine vc_region hm ?_
  refine gL trivial rfl rfl rfl rfl rfl rfl rfl rfl ?_
  refine gM trivial (.inl rfl) rfl rfl rfl ?_
  refine gC0 [] (laws_heldOwn_n) trivial rfl rfl rfl rfl (by trivial) rfl rfl rfl rfl rfl ?_
  refine gM trivial (.inr rfl) rfl rfl rfl ?_
  refine rg_nil nofun ?_
  refine vc_seq ?_
  refine vc_seq ?_
  refine vc_region hm ?_
  refine gM trivial (.inl rfl) rfl rfl rfl ?_
  refine gI trivial rfl rfl rfl rfl rfl rfl ?_
  refine rg_nil nofun ?_
  refine cF rfl (decide_eq_false (by omega)) ?_
  refine vc_skip ?_
  refine vc_seq ?_
  refine vc_seq ?_
  refine vc_region hm ?_
  refine gM trivial (.inl rfl) rfl rfl rfl ?_
  refine gM trivial (.inl rfl) rfl rfl rfl ?_
  refine gI trivial rfl rfl rfl rfl rfl rfl ?_
  refine rg_nil nofun ?_
  refine cF rfl (bne_self_eq_false _) ?_
  refine vc_skip ?_
  refine vc_seq ?_
  refine vc_region hm ?_
  refine gL trivial rfl rfl rfl rfl rfl rfl rfl rfl ?_
  refine gCn 15 [0,1,13,14] (laws_toOwn_c (o:=o) (k0:=k0) (k1:=k1) (szO_le p20).2.1 (szO_le p20).2.2) trivial rfl rfl rfl rfl ⟨rFlat (hls_flat (rSp_flat o.h)) rfl (.inl rfl) rfl,rFlat (hls_flat (rSp_flat o.d)) rfl (.inl rfl) rfl,trivial⟩ ⟨rSp_flat _,rSp_flat _,trivial⟩ rfl rfl rfl rfl ?_
  refine gL trivial rfl rfl rfl rfl rfl rfl rfl rfl ?_
  refine gC0 [] (laws_toSpan_c s) trivial rfl rfl rfl rfl (by trivial) rfl rfl rfl rfl rfl ?_
  refine gC0 [13,14] (impl_OwnDrop_n (o:=o) (s:=s) (szO_le p20).1 (szO_le p20).2.1 (szO_le p20).2.2 h) trivial rfl rfl rfl rfl ⟨rFlat (rSp_flat o.h) rfl (.inr rfl) rfl,rFlat (rSp_flat o.d) rfl (.inr rfl) rfl,trivial⟩ rfl rfl rfl rfl rfl ?_
  refine gM trivial (.inl rfl) rfl rfl rfl ?_
  refine gE trivial rfl rfl rfl rfl rfl rfl ?_
  refine gE trivial rfl rfl rfl rfl rfl rfl ?_
  refine gZ (u':=16) trivial rfl rfl rfl rfl rfl rfl rfl rfl ?_
  refine gT trivial rfl rfl rfl rfl rfl rfl rfl rfl rfl rfl (Nat.le_of_ble_eq_true rfl) rfl ?_
  refine gM trivial (.inr rfl) rfl rfl rfl ?_
  refine rg_nil (fun _=>by kernel_rfl) ?_
  refine vc_seq ?_
  refine vc_seq ?_
  refine vc_region hm ?_
  refine gL trivial rfl rfl rfl rfl rfl rfl rfl rfl ?_
  refine gL trivial rfl rfl rfl rfl rfl rfl rfl rfl ?_
  refine gC0 [] (laws_eqOwn_n) trivial rfl rfl rfl rfl (by trivial) rfl rfl rfl rfl rfl ?_
  refine gN trivial rfl rfl rfl rfl ?_
  refine gM trivial (.inl rfl) rfl rfl rfl ?_
  refine gM ⟨_,_,rfl,rfl,(notT rfl)⟩ (.inl rfl) rfl rfl rfl ?_
  refine gM ⟨_,_,rfl,rfl,(notT rfl)⟩ (.inl rfl) rfl rfl rfl ?_
  refine gBN ⟨_,_,rfl,rfl,(notT rfl)⟩ rfl rfl rfl rfl rfl rfl ?_
  refine gPF trivial rfl rfl (notT rfl) rfl rfl rfl ?_
  refine rg_nil nofun ?_
  refine cF rfl (nself _) ?_
  refine vc_skip ?_
  refine vc_seq ?_
  refine vc_region hm ?_
  refine gM trivial (.inr rfl) rfl rfl rfl ?_
  refine rg_nil nofun ?_
  refine vc_seq ?_
  refine vc_region hm ?_
  refine gL trivial rfl rfl rfl rfl rfl rfl rfl rfl ?_
  refine gM trivial (.inl rfl) rfl rfl rfl ?_
  refine gC0 [] (laws_heldOwn_n) trivial rfl rfl rfl rfl (by trivial) rfl rfl rfl rfl rfl ?_
  refine gM trivial (.inr rfl) rfl rfl rfl ?_
  refine rg_nil nofun ?_
  refine vc_seq ?_
  refine vc_seq ?_
  refine vc_region hm ?_
  refine gM trivial (.inl rfl) rfl rfl rfl ?_
  refine gI trivial rfl rfl rfl rfl rfl rfl ?_
  refine rg_nil nofun ?_
  refine cF rfl (decide_eq_false (by omega)) ?_
  refine vc_skip ?_
  refine vc_seq ?_
  refine vc_seq ?_
  refine vc_region hm ?_
  refine gM trivial (.inl rfl) rfl rfl rfl ?_
  refine gM trivial (.inl rfl) rfl rfl rfl ?_
  refine gI trivial rfl rfl rfl rfl rfl rfl ?_
  refine rg_nil nofun ?_
  refine cF rfl (bne_self_eq_false _) ?_
  refine vc_skip ?_
  refine vc_seq ?_
  refine vc_region hm ?_
  refine gM trivial (.inr rfl) rfl rfl rfl ?_
  refine rg_nil nofun ?_
  refine vc_ret ?_
  exact ⟨idm,ends0 (.inr rfl) rfl (eqB rfl) rfl rfl rfl⟩
theorem FnExactOwnDrop_c {o:Ow} {k0 k1:Nat} (ht:o.t.size≤9223372036854775807) (hh:o.h.length≤9223372036854775807) (hd:o.d.length≤9223372036854775807) {s:Sp} (hs:Fits64 s.lo∧Fits64 s.hi):FDoes Try.prog 9 [.agg #[.string o.t,.slice (some ⟨0,k0,none⟩) o.h.length 0,.slice (some ⟨1,k1,none⟩) o.d.length 0],vSp s] (hp [(0,false,one ⟨hls k0 (rSp o.h),35,0⟩),(1,false,one ⟨hls k1 (rSp o.d),35,0⟩)]) { v:=.bool true,rd:=[0,1] }:=by
 cases h:ownOk o with
 | true=>exact FnExactOwnDrop_T (s:=s) ht hh hd h
 | false=>exact FnExactOwnDrop_F (s:=s) ht hh hd h
theorem FnExactOwnDrop_walk {w:World} {v0:Value} {o0:Ow} {N0 M0:Nam} {k0 m0:Nat} (h0:OwnArg w v0 o0 N0 k0 M0 m0) {s1:Sp} (h1:Fits64 s1.lo∧Fits64 s1.hi):Calls Try.prog 9 #[v0,vSp s1] w fun e w'=>e = .returned (.bool true)∧Below w.heap.size w w' :=
 law_done (FnExactOwnDrop_c h0.2.1 h0.2.2.1 h0.2.2.2 h1) (ρ:=envL [N0,M0]) (by simp only [List.map_cons,List.map_nil,ownArg_r3 (l:=[N0,M0]) (a:=0) (b:=1) h0 rfl rfl (of_blt rfl) (of_blt rfl),r3_flat (v:=vSp s1) rfl]) ⟨ownArg_at0 h0 rfl (of_blt rfl),ownArg_at1 h0 rfl (of_blt rfl),trivial⟩
end Go.Proofs.Ythionnhbnfblcaa.A

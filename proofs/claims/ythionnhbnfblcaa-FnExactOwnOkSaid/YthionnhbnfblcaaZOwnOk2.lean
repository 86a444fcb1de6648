/- Part 2 of the proof of FnExactOwnOk: words, contracts of callees, plain lemmas. -/
import Derived.Test.YthionnhbnfblcaaZOwnOk1
set_option maxHeartbeats 8000000
set_option maxRecDepth 100000
set_option linter.unusedVariables false
set_option linter.unusedSimpArgs false
namespace Go.Proofs.Ythionnhbnfblcaa.A
open Go Go.RowKit
set_option maxHeartbeats 4000000
theorem spec_OwnOk_c {o:Ow} (ht:o.t.size≤1048576) (hh:o.h.length≤1048576) (hd:o.d.length≤1048576):FDoes Try.prog 18 [.agg #[.string o.t,.slice (some ⟨0,0,none⟩) o.h.length 0,.slice (some ⟨1,0,none⟩) o.d.length 0]] (hp [(0,false,one ⟨rSp o.h,38,0⟩),(1,false,one ⟨rSp o.d,38,0⟩)]) { v:=.bool (ownOk o),rd:=[0,1] }:=by
 have hm:Try.prog.follows .mixedOrders=true:=by kernel_rfl
 have hd_:∀ x_ ∈ ([(0,false,one ⟨rSp o.h,38,0⟩),(1,false,one ⟨rSp o.d,38,0⟩)]:List (Nat × Bool × Fam)),∀ k_ y_,x_.2.2 k_=some y_→DetB (lt 2) y_:=by
  intro x_ hx k_ y_ e
  simp only [List.mem_cons,List.not_mem_nil,or_false] at hx
  rcases hx with rfl|rfl
  ·exact det_row (rSp_flat o.h) e
  ·exact det_row (rSp_flat o.d) e
 refine fn_exact (u0:=2) Try.func18 rfl rfl (gets rfl rfl rfl hd_ rfl) ?_
 clear hd_
 refine vc_seq ?_
 refine vc_region hm ?_
 refine gB (u':=3) trivial rfl rfl rfl rfl rfl rfl rfl rfl ?_
 refine gM trivial (.inr rfl) rfl rfl rfl ?_
 refine rg_nil nofun ?_
 refine vc_seq ?_
 refine vc_seq ?_
 refine vc_region hm ?_
 refine gF trivial rfl rfl rfl rfl rfl ?_
 refine gL trivial rfl rfl rfl rfl rfl rfl rfl rfl ?_
 refine gC0 [] (spec_TextOk_c (s:=o.t) (by omega)) trivial rfl rfl rfl rfl (by trivial) rfl rfl rfl rfl rfl ?_
 refine gN trivial rfl rfl rfl rfl ?_
 refine gM trivial (.inl rfl) rfl rfl rfl ?_
 refine gI2 (d:=8) rfl (fun c8=>?_) (fun c8=>?_)
 ·skip
  have n8:=unT c8
  refine gO ⟨_,_,rfl,rfl,c8⟩ rfl rfl ?_
  refine gO ⟨_,_,rfl,rfl,c8⟩ rfl rfl ?_
  refine gO ⟨_,_,rfl,rfl,c8⟩ rfl rfl ?_
  refine gO ⟨_,_,rfl,rfl,c8⟩ rfl rfl ?_
  refine gPT trivial rfl rfl c8 rfl rfl rfl ?_
  refine gM trivial (.inl rfl) rfl rfl rfl ?_
  refine gO ⟨_,_,rfl,rfl,rfl⟩ rfl rfl ?_
  refine gO ⟨_,_,rfl,rfl,rfl⟩ rfl rfl ?_
  refine gO ⟨_,_,rfl,rfl,rfl⟩ rfl rfl ?_
  refine gO ⟨_,_,rfl,rfl,rfl⟩ rfl rfl ?_
  refine gPT trivial rfl rfl rfl rfl rfl rfl ?_
  refine gM trivial (.inl rfl) rfl rfl rfl ?_
  refine gO ⟨_,_,rfl,rfl,rfl⟩ rfl rfl ?_
  refine gO ⟨_,_,rfl,rfl,rfl⟩ rfl rfl ?_
  refine gO ⟨_,_,rfl,rfl,rfl⟩ rfl rfl ?_
  refine gO ⟨_,_,rfl,rfl,rfl⟩ rfl rfl ?_
  refine gPT trivial rfl rfl rfl rfl rfl rfl ?_
  refine rg_nil nofun ?_
  refine cT rfl rfl ?_
  refine vc_seq ?_
  refine vc_region hm ?_
  refine gM trivial (.inr rfl) rfl rfl rfl ?_
  refine rg_nil nofun ?_
  refine vc_ret ?_
  exact ⟨idm,ends0 (.inr rfl) rfl (eqB (by first|exact ownOk_1 (by assumption)|exact ownOk_2 (by assumption)|exact ownOk_3 (by assumption)|exact ownOk_4 (by assumption))) rfl rfl rfl⟩
 ·skip
  have n8:=unF c8
  refine gF ⟨_,_,rfl,rfl,c8⟩ rfl rfl rfl rfl rfl ?_
  refine gL ⟨_,_,rfl,rfl,c8⟩ rfl rfl rfl rfl rfl rfl rfl rfl ?_
  refine gKT ⟨_,_,rfl,rfl,c8⟩ rfl rfl rfl rfl rfl ?_
  refine gI ⟨_,_,rfl,rfl,c8⟩ rfl rfl rfl rfl rfl rfl ?_
  refine gPF trivial rfl rfl c8 rfl rfl rfl ?_
  refine gM trivial (.inl rfl) rfl rfl rfl ?_
  refine gI2 (d:=14) rfl (fun c14=>?_) (fun c14=>?_)
  ·skip
   have p14:=bne_iff_ne.1 c14
   refine gO ⟨_,_,rfl,rfl,c14⟩ rfl rfl ?_
   refine gO ⟨_,_,rfl,rfl,c14⟩ rfl rfl ?_
   refine gO ⟨_,_,rfl,rfl,c14⟩ rfl rfl ?_
   refine gO ⟨_,_,rfl,rfl,c14⟩ rfl rfl ?_
   refine gPT trivial rfl rfl c14 rfl rfl rfl ?_
   refine gM trivial (.inl rfl) rfl rfl rfl ?_
   refine gO ⟨_,_,rfl,rfl,rfl⟩ rfl rfl ?_
   refine gO ⟨_,_,rfl,rfl,rfl⟩ rfl rfl ?_
   refine gO ⟨_,_,rfl,rfl,rfl⟩ rfl rfl ?_
   refine gO ⟨_,_,rfl,rfl,rfl⟩ rfl rfl ?_
   refine gPT trivial rfl rfl rfl rfl rfl rfl ?_
   refine rg_nil nofun ?_
   refine cT rfl rfl ?_
   refine vc_seq ?_
   refine vc_region hm ?_
   refine gM trivial (.inr rfl) rfl rfl rfl ?_
   refine rg_nil nofun ?_
   refine vc_ret ?_
   exact ⟨idm,ends0 (.inr rfl) rfl (eqB (by first|exact ownOk_1 (by assumption)|exact ownOk_2 (by assumption)|exact ownOk_3 (by assumption)|exact ownOk_4 (by assumption))) rfl rfl rfl⟩
  ·skip
   have p14:=bne_eq_false_iff_eq.1 c14
   refine gF ⟨_,_,rfl,rfl,c14⟩ rfl rfl rfl rfl rfl ?_
   refine gL ⟨_,_,rfl,rfl,c14⟩ rfl rfl rfl rfl rfl rfl rfl rfl ?_
   refine gC0 [0] (spec_SpansOk_c (l:=o.h) hh) ⟨_,_,rfl,rfl,c14⟩ rfl rfl rfl rfl ⟨rFlat (rSp_flat o.h) rfl (.inl rfl) rfl,trivial⟩ rfl rfl rfl rfl rfl ?_
   refine gN ⟨_,_,rfl,rfl,c14⟩ rfl rfl rfl rfl ?_
   refine gPF trivial rfl rfl c14 rfl rfl rfl ?_
   refine gM trivial (.inl rfl) rfl rfl rfl ?_
   refine gI2 (d:=20) rfl (fun c20=>?_) (fun c20=>?_)
   ·skip
    have n20:=unT c20
    refine gO ⟨_,_,rfl,rfl,c20⟩ rfl rfl ?_
    refine gO ⟨_,_,rfl,rfl,c20⟩ rfl rfl ?_
    refine gO ⟨_,_,rfl,rfl,c20⟩ rfl rfl ?_
    refine gO ⟨_,_,rfl,rfl,c20⟩ rfl rfl ?_
    refine gPT trivial rfl rfl c20 rfl rfl rfl ?_
    refine rg_nil nofun ?_
    refine cT rfl rfl ?_
    refine vc_seq ?_
    refine vc_region hm ?_
    refine gM trivial (.inr rfl) rfl rfl rfl ?_
    refine rg_nil nofun ?_
    refine vc_ret ?_
    exact ⟨idm,ends0 (.inr rfl) rfl (eqB (by first|exact ownOk_1 (by assumption)|exact ownOk_2 (by assumption)|exact ownOk_3 (by assumption)|exact ownOk_4 (by assumption))) rfl rfl rfl⟩
   ·skip
    have n20:=unF c20
    refine gF ⟨_,_,rfl,rfl,c20⟩ rfl rfl rfl rfl rfl ?_
    refine gL ⟨_,_,rfl,rfl,c20⟩ rfl rfl rfl rfl rfl rfl rfl rfl ?_
    refine gC0 [1] (spec_SpansOk_c (l:=o.d) hd) ⟨_,_,rfl,rfl,c20⟩ rfl rfl rfl rfl ⟨rFlat (rSp_flat o.d) rfl (.inl rfl) rfl,trivial⟩ rfl rfl rfl rfl rfl ?_
    refine gN ⟨_,_,rfl,rfl,c20⟩ rfl rfl rfl rfl ?_
    refine gPF trivial rfl rfl c20 rfl rfl rfl ?_
    refine rg_nil nofun ?_
    refine cI rfl (fun c25=>?_) (fun c25=>?_)
    ·skip
     have n25:=unT c25
     refine vc_seq ?_
     refine vc_region hm ?_
     refine gM trivial (.inr rfl) rfl rfl rfl ?_
     refine rg_nil nofun ?_
     refine vc_ret ?_
     exact ⟨idm,ends0 (.inr rfl) rfl (eqB (by first|exact ownOk_1 (by assumption)|exact ownOk_2 (by assumption)|exact ownOk_3 (by assumption)|exact ownOk_4 (by assumption))) rfl rfl rfl⟩
    ·skip
     have n25:=unF c25
     refine vc_skip ?_
     refine vc_seq ?_
     refine vc_seq ?_
     refine vc_region hm ?_
     refine gM trivial (.inr rfl) rfl rfl rfl ?_
     refine rg_nil nofun ?_
     refine vc_block ?_
     refine vc_loop' (fun n_ S_=>∃ (j:Nat),j≤48∧(List.range j).all (placeOk o)=true∧n_=48 - j∧S_=⟨3,[(1,.pointer (some ⟨2,0,none⟩)),(3,.int .i64 j)],[(0,false,one ⟨rSp o.h,38,0⟩),(1,false,one ⟨rSp o.d,38,0⟩),(2,true,one ⟨[.string o.t,.slice (some ⟨0,0,none⟩) o.h.length 0,.slice (some ⟨1,0,none⟩) o.d.length 0],29,3⟩)]⟩) (m0:=idm) ⟨0,Nat.zero_le _,rfl,rfl,rfl⟩ (le_mk rfl ⟨⟨rfl,rfl⟩,⟨rfl,rfl⟩,trivial⟩ ⟨kFlat (rSp_flat o.h) rfl id rfl,kFlat (rSp_flat o.d) rfl id rfl,kCells rfl rfl id rfl,trivial⟩ rfl (fun _ _=>rfl)) ?_
     rintro n_ S_ ⟨j,hj,ha,rfl,rfl⟩
     refine vc_seq ?_
     refine vc_seq ?_
     refine vc_region hm ?_
     refine gM trivial (.inl rfl) rfl rfl rfl ?_
     refine gF trivial rfl rfl rfl rfl rfl ?_
     refine gL trivial rfl rfl rfl rfl rfl rfl rfl rfl ?_
     refine gKT trivial rfl rfl rfl rfl rfl ?_
     refine gI trivial rfl rfl rfl rfl rfl rfl ?_
     refine rg_nil nofun ?_
     refine cI rfl (fun c30=>?_) (fun c30=>?_)
     ·skip
      have p30:=of_decide_eq_true c30
      refine vc_skip ?_
      refine vc_seq ?_
      refine vc_block ?_
      refine vc_seq ?_
      refine vc_region hm ?_
      refine gF trivial rfl rfl rfl rfl rfl ?_
      refine gL trivial rfl rfl rfl rfl rfl rfl rfl rfl ?_
      refine gM trivial (.inl rfl) rfl rfl rfl ?_
      refine gC0 [0] (spec_l1In_c (l:=o.h) (a:=j) hh) trivial rfl rfl rfl rfl ⟨rFlat (rSp_flat o.h) rfl (.inl rfl) rfl,trivial⟩ rfl rfl rfl rfl rfl ?_
      refine gN trivial rfl rfl rfl rfl ?_
      refine gM trivial (.inl rfl) rfl rfl rfl ?_
      refine gI2 (d:=38) rfl (fun c38=>?_) (fun c38=>?_)
      ·skip
       have n38:=unT c38
       refine gF ⟨_,_,rfl,rfl,c38⟩ rfl rfl rfl rfl rfl ?_
       refine gL ⟨_,_,rfl,rfl,c38⟩ rfl rfl rfl rfl rfl rfl rfl rfl ?_
       refine gM ⟨_,_,rfl,rfl,c38⟩ (.inl rfl) rfl rfl rfl ?_
       refine gY ⟨_,_,rfl,rfl,c38⟩ rfl rfl rfl rfl rfl rfl (by omega) (by omega) ?_
       refine gI ⟨_,_,rfl,rfl,c38⟩ rfl rfl rfl rfl rfl rfl ?_
       refine gM ⟨_,_,rfl,rfl,c38⟩ (.inl rfl) rfl rfl rfl ?_
       refine gI2 (d:=44) rfl (fun c44=>?_) (fun c44=>?_)
       ·skip
        have p44:=bne_iff_ne.1 c44
        refine gO ⟨_,_,rfl,rfl,c44⟩ rfl rfl ?_
        refine gO ⟨_,_,rfl,rfl,c44⟩ rfl rfl ?_
        refine gO ⟨_,_,rfl,rfl,c44⟩ rfl rfl ?_
        refine gO ⟨_,_,rfl,rfl,c44⟩ rfl rfl ?_
        refine gPT ⟨_,_,rfl,rfl,c38⟩ rfl rfl c44 rfl rfl rfl ?_
        refine gPT trivial rfl rfl c38 rfl rfl rfl ?_
        refine rg_nil nofun ?_
        refine cT rfl rfl ?_
        refine vc_seq ?_
        refine vc_region hm ?_
        refine gM trivial (.inr rfl) rfl rfl rfl ?_
        refine rg_nil nofun ?_
        refine vc_ret ?_
        exact ⟨idm,ends0 (.inr rfl) rfl (eqB (ownOk_5 (j:=j) (by omega) (by first|exact placeOk_3 (by assumption) (by assumption)|exact placeOk_4 (by assumption) (by assumption)|exact placeOk_7 (by assumption) (by assumption)|exact placeOk_8 (by assumption) (by assumption)))) rfl rfl rfl⟩
       ·skip
        have p44:=bne_eq_false_iff_eq.1 c44
        refine gF ⟨_,_,rfl,rfl,c44⟩ rfl rfl rfl rfl rfl ?_
        refine gL ⟨_,_,rfl,rfl,c44⟩ rfl rfl rfl rfl rfl rfl rfl rfl ?_
        refine gM ⟨_,_,rfl,rfl,c44⟩ (.inl rfl) rfl rfl rfl ?_
        refine gC0 [1] (spec_l1In_c (l:=o.d) (a:=j) hd) ⟨_,_,rfl,rfl,c44⟩ rfl rfl rfl rfl ⟨rFlat (rSp_flat o.d) rfl (.inl rfl) rfl,trivial⟩ rfl rfl rfl rfl rfl ?_
        refine gPF ⟨_,_,rfl,rfl,c38⟩ rfl rfl c44 rfl rfl rfl ?_
        refine gPT trivial rfl rfl c38 rfl rfl rfl ?_
        refine rg_nil nofun ?_
        refine cI rfl (fun c50=>?_) (fun c50=>?_)
        ·skip
         refine vc_seq ?_
         refine vc_region hm ?_
         refine gM trivial (.inr rfl) rfl rfl rfl ?_
         refine rg_nil nofun ?_
         refine vc_ret ?_
         exact ⟨idm,ends0 (.inr rfl) rfl (eqB (ownOk_5 (j:=j) (by omega) (by first|exact placeOk_3 (by assumption) (by assumption)|exact placeOk_4 (by assumption) (by assumption)|exact placeOk_7 (by assumption) (by assumption)|exact placeOk_8 (by assumption) (by assumption)))) rfl rfl rfl⟩
        ·skip
         refine vc_skip ?_
         refine vc_region hm ?_
         refine gM trivial (.inl rfl) rfl rfl rfl ?_
         refine gA trivial rfl rfl rfl rfl rfl rfl (by omega) ?_
         refine gM trivial (.inr rfl) rfl rfl rfl ?_
         refine rg_nil nofun ?_
         exact lp_next (m:=idm) ⟨j + 1,(by omega),(all_step ha (by first|exact placeOk_1 (by assumption)|exact placeOk_2 (by assumption) (by assumption)|exact placeOk_5 (by assumption)|exact placeOk_6 (by assumption) (by assumption))),rfl,rfl⟩ (by omega) (le_mk rfl ⟨⟨rfl,rfl⟩,⟨rfl,rfl⟩,trivial⟩ ⟨kFlat (rSp_flat o.h) rfl id rfl,kFlat (rSp_flat o.d) rfl id rfl,kCells rfl rfl id rfl,trivial⟩ rfl (fun _ _=>rfl))
      ·skip
       have n38:=unF c38
       refine gO ⟨_,_,rfl,rfl,c38⟩ rfl rfl ?_
       refine gO ⟨_,_,rfl,rfl,c38⟩ rfl rfl ?_
       refine gO ⟨_,_,rfl,rfl,c38⟩ rfl rfl ?_
       refine gO ⟨_,_,rfl,rfl,c38⟩ rfl rfl ?_
       refine gO ⟨_,_,rfl,rfl,c38⟩ rfl rfl ?_
       refine gO ⟨_,_,rfl,rfl,c38⟩ rfl rfl ?_
       refine gO ⟨_,_,rfl,rfl,trivial⟩ rfl rfl ?_
       refine gO ⟨_,_,rfl,rfl,trivial⟩ rfl rfl ?_
       refine gO ⟨_,_,rfl,rfl,trivial⟩ rfl rfl ?_
       refine gO ⟨_,_,rfl,rfl,trivial⟩ rfl rfl ?_
       refine gO ⟨_,_,rfl,rfl,c38⟩ rfl rfl ?_
       refine gPF trivial rfl rfl c38 rfl rfl rfl ?_
       refine rg_nil nofun ?_
       refine cF rfl rfl ?_
       refine vc_skip ?_
       refine vc_region hm ?_
       refine gM trivial (.inl rfl) rfl rfl rfl ?_
       refine gA trivial rfl rfl rfl rfl rfl rfl (by omega) ?_
       refine gM trivial (.inr rfl) rfl rfl rfl ?_
       refine rg_nil nofun ?_
       exact lp_next (m:=idm) ⟨j + 1,(by omega),(all_step ha (by first|exact placeOk_1 (by assumption)|exact placeOk_2 (by assumption) (by assumption)|exact placeOk_5 (by assumption)|exact placeOk_6 (by assumption) (by assumption))),rfl,rfl⟩ (by omega) (le_mk rfl ⟨⟨rfl,rfl⟩,⟨rfl,rfl⟩,trivial⟩ ⟨kFlat (rSp_flat o.h) rfl id rfl,kFlat (rSp_flat o.d) rfl id rfl,kCells rfl rfl id rfl,trivial⟩ rfl (fun _ _=>rfl))
     ·skip
      have p30:=of_decide_eq_false c30
      refine vc_exit ?_
      refine vc_seq ?_
      refine vc_region hm ?_
      refine gM trivial (.inr rfl) rfl rfl rfl ?_
      refine rg_nil nofun ?_
      refine vc_ret ?_
      exact ⟨idm,ends0 (.inr rfl) rfl (eqB (ownOk_6 (j:=j) (by assumption) (by assumption) (by assumption) (by assumption) hj (by omega) ha)) rfl rfl rfl⟩
theorem impl_OwnOk_c {o:Ow} (ht:o.t.size≤1048576) (hh:o.h.length≤1048576) (hd:o.d.length≤1048576):FDoes Try.prog 19 [.agg #[.string o.t,.slice (some ⟨0,0,none⟩) o.h.length 0,.slice (some ⟨1,0,none⟩) o.d.length 0]] (hp [(0,false,one ⟨rSp o.h,38,0⟩),(1,false,one ⟨rSp o.d,38,0⟩)]) { v:=.bool (ownOk o),rd:=[0,1] }:=by
 have hm:Try.prog.follows .mixedOrders=true:=by kernel_rfl
 have hd_:∀ x_ ∈ ([(0,false,one ⟨rSp o.h,38,0⟩),(1,false,one ⟨rSp o.d,38,0⟩)]:List (Nat × Bool × Fam)),∀ k_ y_,x_.2.2 k_=some y_→DetB (lt 2) y_:=by
  intro x_ hx k_ y_ e
  simp only [List.mem_cons,List.not_mem_nil,or_false] at hx
  rcases hx with rfl|rfl
  ·exact det_row (rSp_flat o.h) e
  ·exact det_row (rSp_flat o.d) e
 refine fn_exact (u0:=2) Try.func19 rfl rfl (gets rfl rfl rfl hd_ rfl) ?_
 clear hd_
 refine vc_seq ?_
 refine vc_region hm ?_
 refine gB (u':=3) trivial rfl rfl rfl rfl rfl rfl rfl rfl ?_
 refine gM trivial (.inr rfl) rfl rfl rfl ?_
 refine rg_nil nofun ?_
 refine vc_seq ?_
 refine vc_seq ?_
 refine vc_region hm ?_
 refine gF trivial rfl rfl rfl rfl rfl ?_
 refine gL trivial rfl rfl rfl rfl rfl rfl rfl rfl ?_
 refine gC0 [] (impl_TextOk_c (s:=o.t) (by omega)) trivial rfl rfl rfl rfl (by trivial) rfl rfl rfl rfl rfl ?_
 refine gN trivial rfl rfl rfl rfl ?_
 refine gM trivial (.inl rfl) rfl rfl rfl ?_
 refine gI2 (d:=10) rfl (fun c10=>?_) (fun c10=>?_)
 ·skip
  have n10:=unT c10
  refine gO ⟨_,_,rfl,rfl,c10⟩ rfl rfl ?_
  refine gO ⟨_,_,rfl,rfl,c10⟩ rfl rfl ?_
  refine gO ⟨_,_,rfl,rfl,c10⟩ rfl rfl ?_
  refine gO ⟨_,_,rfl,rfl,c10⟩ rfl rfl ?_
  refine gPT trivial rfl rfl c10 rfl rfl rfl ?_
  refine gM trivial (.inl rfl) rfl rfl rfl ?_
  refine gO ⟨_,_,rfl,rfl,rfl⟩ rfl rfl ?_
  refine gO ⟨_,_,rfl,rfl,rfl⟩ rfl rfl ?_
  refine gO ⟨_,_,rfl,rfl,rfl⟩ rfl rfl ?_
  refine gO ⟨_,_,rfl,rfl,rfl⟩ rfl rfl ?_
  refine gPT trivial rfl rfl rfl rfl rfl rfl ?_
  refine gM trivial (.inl rfl) rfl rfl rfl ?_
  refine gO ⟨_,_,rfl,rfl,rfl⟩ rfl rfl ?_
  refine gO ⟨_,_,rfl,rfl,rfl⟩ rfl rfl ?_
  refine gO ⟨_,_,rfl,rfl,rfl⟩ rfl rfl ?_
  refine gO ⟨_,_,rfl,rfl,rfl⟩ rfl rfl ?_
  refine gPT trivial rfl rfl rfl rfl rfl rfl ?_
  refine rg_nil nofun ?_
  refine cT rfl rfl ?_
  refine vc_seq ?_
  refine vc_region hm ?_
  refine gM trivial (.inr rfl) rfl rfl rfl ?_
  refine rg_nil nofun ?_
  refine vc_ret ?_
  exact ⟨idm,ends0 (.inr rfl) rfl (eqB (by first|exact ownOk_1 (by assumption)|exact ownOk_2 (by assumption)|exact ownOk_3 (by assumption)|exact ownOk_4 (by assumption))) rfl rfl rfl⟩
 ·skip
  have n10:=unF c10
  refine gF ⟨_,_,rfl,rfl,c10⟩ rfl rfl rfl rfl rfl ?_
  refine gL ⟨_,_,rfl,rfl,c10⟩ rfl rfl rfl rfl rfl rfl rfl rfl ?_
  refine gKT ⟨_,_,rfl,rfl,c10⟩ rfl rfl rfl rfl rfl ?_
  refine gI ⟨_,_,rfl,rfl,c10⟩ rfl rfl rfl rfl rfl rfl ?_
  refine gPF trivial rfl rfl c10 rfl rfl rfl ?_
  refine gM trivial (.inl rfl) rfl rfl rfl ?_
  refine gI2 (d:=16) rfl (fun c16=>?_) (fun c16=>?_)
  ·skip
   have p16:=bne_iff_ne.1 c16
   refine gO ⟨_,_,rfl,rfl,c16⟩ rfl rfl ?_
   refine gO ⟨_,_,rfl,rfl,c16⟩ rfl rfl ?_
   refine gO ⟨_,_,rfl,rfl,c16⟩ rfl rfl ?_
   refine gO ⟨_,_,rfl,rfl,c16⟩ rfl rfl ?_
   refine gPT trivial rfl rfl c16 rfl rfl rfl ?_
   refine gM trivial (.inl rfl) rfl rfl rfl ?_
   refine gO ⟨_,_,rfl,rfl,rfl⟩ rfl rfl ?_
   refine gO ⟨_,_,rfl,rfl,rfl⟩ rfl rfl ?_
   refine gO ⟨_,_,rfl,rfl,rfl⟩ rfl rfl ?_
   refine gO ⟨_,_,rfl,rfl,rfl⟩ rfl rfl ?_
   refine gPT trivial rfl rfl rfl rfl rfl rfl ?_
   refine rg_nil nofun ?_
   refine cT rfl rfl ?_
   refine vc_seq ?_
   refine vc_region hm ?_
   refine gM trivial (.inr rfl) rfl rfl rfl ?_
   refine rg_nil nofun ?_
   refine vc_ret ?_
   exact ⟨idm,ends0 (.inr rfl) rfl (eqB (by first|exact ownOk_1 (by assumption)|exact ownOk_2 (by assumption)|exact ownOk_3 (by assumption)|exact ownOk_4 (by assumption))) rfl rfl rfl⟩
  ·skip
   have p16:=bne_eq_false_iff_eq.1 c16
   refine gF ⟨_,_,rfl,rfl,c16⟩ rfl rfl rfl rfl rfl ?_
   refine gL ⟨_,_,rfl,rfl,c16⟩ rfl rfl rfl rfl rfl rfl rfl rfl ?_
   refine gC0 [0] (impl_SpansOk_c (l:=o.h) hh) ⟨_,_,rfl,rfl,c16⟩ rfl rfl rfl rfl ⟨rFlat (rSp_flat o.h) rfl (.inl rfl) rfl,trivial⟩ rfl rfl rfl rfl rfl ?_
   refine gN ⟨_,_,rfl,rfl,c16⟩ rfl rfl rfl rfl ?_
   refine gPF trivial rfl rfl c16 rfl rfl rfl ?_
   refine gM trivial (.inl rfl) rfl rfl rfl ?_
   refine gI2 (d:=22) rfl (fun c22=>?_) (fun c22=>?_)
   ·skip
    have n22:=unT c22
    refine gO ⟨_,_,rfl,rfl,c22⟩ rfl rfl ?_
    refine gO ⟨_,_,rfl,rfl,c22⟩ rfl rfl ?_
    refine gO ⟨_,_,rfl,rfl,c22⟩ rfl rfl ?_
    refine gO ⟨_,_,rfl,rfl,c22⟩ rfl rfl ?_
    refine gPT trivial rfl rfl c22 rfl rfl rfl ?_
    refine rg_nil nofun ?_
    refine cT rfl rfl ?_
    refine vc_seq ?_
    refine vc_region hm ?_
    refine gM trivial (.inr rfl) rfl rfl rfl ?_
    refine rg_nil nofun ?_
    refine vc_ret ?_
    exact ⟨idm,ends0 (.inr rfl) rfl (eqB (by first|exact ownOk_1 (by assumption)|exact ownOk_2 (by assumption)|exact ownOk_3 (by assumption)|exact ownOk_4 (by assumption))) rfl rfl rfl⟩
   ·skip
    have n22:=unF c22
    refine gF ⟨_,_,rfl,rfl,c22⟩ rfl rfl rfl rfl rfl ?_
    refine gL ⟨_,_,rfl,rfl,c22⟩ rfl rfl rfl rfl rfl rfl rfl rfl ?_
    refine gC0 [1] (impl_SpansOk_c (l:=o.d) hd) ⟨_,_,rfl,rfl,c22⟩ rfl rfl rfl rfl ⟨rFlat (rSp_flat o.d) rfl (.inl rfl) rfl,trivial⟩ rfl rfl rfl rfl rfl ?_
    refine gN ⟨_,_,rfl,rfl,c22⟩ rfl rfl rfl rfl ?_
    refine gPF trivial rfl rfl c22 rfl rfl rfl ?_
    refine rg_nil nofun ?_
    refine cI rfl (fun c27=>?_) (fun c27=>?_)
    ·skip
     have n27:=unT c27
     refine vc_seq ?_
     refine vc_region hm ?_
     refine gM trivial (.inr rfl) rfl rfl rfl ?_
     refine rg_nil nofun ?_
     refine vc_ret ?_
     exact ⟨idm,ends0 (.inr rfl) rfl (eqB (by first|exact ownOk_1 (by assumption)|exact ownOk_2 (by assumption)|exact ownOk_3 (by assumption)|exact ownOk_4 (by assumption))) rfl rfl rfl⟩
    ·skip
     have n27:=unF c27
     refine vc_skip ?_
     refine vc_seq ?_
     refine vc_region hm ?_
     refine gF trivial rfl rfl rfl rfl rfl ?_
     refine gL trivial rfl rfl rfl rfl rfl rfl rfl rfl ?_
     refine gC0 [0] (of_c (l:=o.h) (inB_of (by assumption)) (by have:=spansOk_len (l:=o.h) (by assumption);omega)) trivial rfl rfl rfl rfl ⟨rFlat (rSp_flat o.h) rfl (.inl rfl) rfl,trivial⟩ rfl rfl (vPl_flat _) rfl rfl ?_
     refine gF trivial rfl rfl rfl rfl rfl ?_
     refine gL trivial rfl rfl rfl rfl rfl rfl rfl rfl ?_
     refine gC0 [1] (of_c (l:=o.d) (inB_of (by assumption)) (by have:=spansOk_len (l:=o.d) (by assumption);omega)) trivial rfl rfl rfl rfl ⟨rFlat (rSp_flat o.d) rfl (.inl rfl) rfl,trivial⟩ rfl rfl (vPl_flat _) rfl rfl ?_
     refine gZ (u':=4) trivial rfl rfl rfl rfl rfl rfl rfl (show cellsL _=plL (fun _=>false) from rfl) ?_
     refine gZ (u':=5) trivial rfl rfl rfl rfl rfl rfl rfl (show cellsL _=plL (fun _=>false) from rfl) ?_
     refine gT trivial rfl rfl rfl rfl rfl rfl rfl rfl rfl rfl zPl pPl ?_
     refine gT trivial rfl rfl rfl rfl rfl rfl rfl rfl rfl rfl zPl pPl ?_
     refine rg_nil (fun _=>by kernel_rfl) ?_
     refine vc_seq ?_
     refine vc_seq ?_
     refine vc_region hm ?_
     refine gM trivial (.inl rfl) rfl rfl rfl ?_
     refine rg_nil nofun ?_
     refine vc_block ?_
     refine vc_loop' (fun n_ S_=>∃ (j:Nat),j≤48∧(List.range j).all (placeOk o)=true∧n_=48 - j∧S_=⟨5,[(1,.pointer (some ⟨2,0,none⟩)),(3,.pointer (some ⟨3,0,none⟩)),(4,.pointer (some ⟨4,0,none⟩)),(34,.int .i64 j)],[(0,false,one ⟨rSp o.h,38,0⟩),(1,false,one ⟨rSp o.d,38,0⟩),(2,true,one ⟨[.string o.t,.slice (some ⟨0,0,none⟩) o.h.length 0,.slice (some ⟨1,0,none⟩) o.d.length 0],29,3⟩),(3,true,one ⟨plL (ofP o.h),67,48⟩),(4,true,one ⟨plL (ofP o.d),67,48⟩)]⟩) (m0:=idm) ⟨0,Nat.zero_le _,rfl,rfl,rfl⟩ (le_mk rfl ⟨⟨rfl,rfl⟩,⟨rfl,rfl⟩,⟨rfl,rfl⟩,⟨rfl,rfl⟩,trivial⟩ ⟨kFlat (rSp_flat o.h) rfl id rfl,kFlat (rSp_flat o.d) rfl id rfl,kCells rfl rfl id rfl,kFlat (plL_flat _) rfl id rfl,kFlat (plL_flat _) rfl id rfl,trivial⟩ rfl (fun _ _=>rfl)) ?_
     rintro n_ S_ ⟨j,hj,ha,rfl,rfl⟩
     refine vc_seq ?_
     refine vc_region hm ?_
     refine gI trivial rfl rfl rfl rfl rfl rfl ?_
     refine rg_nil nofun ?_
     refine vc_seq ?_
     refine cI rfl (fun c35=>?_) (fun c35=>?_)
     ·skip
      have p35:=of_decide_eq_true c35
      refine vc_skip ?_
      refine vc_seq ?_
      refine vc_block ?_
      refine vc_seq ?_
      refine vc_region hm ?_
      refine gM trivial (.inl rfl) rfl rfl rfl ?_
      refine gM trivial (.inr rfl) rfl rfl rfl ?_
      refine rg_nil nofun ?_
      refine vc_seq ?_
      refine vc_region hm ?_
      refine gM trivial (.inl rfl) rfl rfl rfl ?_
      refine gXA trivial rfl rfl rfl rfl rfl rfl rfl (by omega) (by omega) ?_
      refine gL trivial rfl rfl rfl rfl rfl rfl rfl (lPl (by omega) (by omega)) ?_
      refine gN trivial rfl rfl rfl rfl ?_
      refine gM trivial (.inl rfl) rfl rfl rfl ?_
      refine gI2 (d:=41) rfl (fun c41=>?_) (fun c41=>?_)
      ·skip
       have n41:=unT c41
       refine gF ⟨_,_,rfl,rfl,c41⟩ rfl rfl rfl rfl rfl ?_
       refine gL ⟨_,_,rfl,rfl,c41⟩ rfl rfl rfl rfl rfl rfl rfl rfl ?_
       refine gM ⟨_,_,rfl,rfl,c41⟩ (.inl rfl) rfl rfl rfl ?_
       refine gY ⟨_,_,rfl,rfl,c41⟩ rfl rfl rfl rfl rfl rfl (by omega) (by omega) ?_
       refine gI ⟨_,_,rfl,rfl,c41⟩ rfl rfl rfl rfl rfl rfl ?_
       refine gM ⟨_,_,rfl,rfl,c41⟩ (.inl rfl) rfl rfl rfl ?_
       refine gI2 (d:=47) rfl (fun c47=>?_) (fun c47=>?_)
       ·skip
        have p47:=bne_iff_ne.1 c47
        refine gO ⟨_,_,rfl,rfl,c47⟩ rfl rfl ?_
        refine gO ⟨_,_,rfl,rfl,c47⟩ rfl rfl ?_
        refine gO ⟨_,_,rfl,rfl,c47⟩ rfl rfl ?_
        refine gPT ⟨_,_,rfl,rfl,c41⟩ rfl rfl c47 rfl rfl rfl ?_
        refine gPT trivial rfl rfl c41 rfl rfl rfl ?_
        refine rg_nil nofun ?_
        refine cT rfl rfl ?_
        refine vc_seq ?_
        refine vc_region hm ?_
        refine gM trivial (.inr rfl) rfl rfl rfl ?_
        refine rg_nil nofun ?_
        refine vc_ret ?_
        exact ⟨idm,ends0 (.inr rfl) rfl (eqB (ownOk_5 (j:=j) (by omega) (by first|exact placeOk_3 (by assumption) (by assumption)|exact placeOk_4 (by assumption) (by assumption)|exact placeOk_7 (by assumption) (by assumption)|exact placeOk_8 (by assumption) (by assumption)))) rfl rfl rfl⟩
       ·skip
        have p47:=bne_eq_false_iff_eq.1 c47
        refine gM ⟨_,_,rfl,rfl,c47⟩ (.inl rfl) rfl rfl rfl ?_
        refine gXA ⟨_,_,rfl,rfl,c47⟩ rfl rfl rfl rfl rfl rfl rfl (by omega) (by omega) ?_
        refine gL ⟨_,_,rfl,rfl,c47⟩ rfl rfl rfl rfl rfl rfl rfl (lPl (by omega) (by omega)) ?_
        refine gPF ⟨_,_,rfl,rfl,c41⟩ rfl rfl c47 rfl rfl rfl ?_
        refine gPT trivial rfl rfl c41 rfl rfl rfl ?_
        refine rg_nil nofun ?_
        refine cI rfl (fun c52=>?_) (fun c52=>?_)
        ·skip
         refine vc_seq ?_
         refine vc_region hm ?_
         refine gM trivial (.inr rfl) rfl rfl rfl ?_
         refine rg_nil nofun ?_
         refine vc_ret ?_
         exact ⟨idm,ends0 (.inr rfl) rfl (eqB (ownOk_5 (j:=j) (by omega) (by first|exact placeOk_3 (by assumption) (by assumption)|exact placeOk_4 (by assumption) (by assumption)|exact placeOk_7 (by assumption) (by assumption)|exact placeOk_8 (by assumption) (by assumption)))) rfl rfl rfl⟩
        ·skip
         refine vc_skip ?_
         refine vc_region hm ?_
         refine gA trivial rfl rfl rfl rfl rfl rfl (by omega) ?_
         refine gM trivial (.inl rfl) rfl rfl rfl ?_
         refine rg_nil nofun ?_
         exact lp_next (m:=idm) ⟨j + 1,(by omega),(all_step ha (by first|exact placeOk_1 (by assumption)|exact placeOk_2 (by assumption) (by assumption)|exact placeOk_5 (by assumption)|exact placeOk_6 (by assumption) (by assumption))),rfl,rfl⟩ (by omega) (le_mk rfl ⟨⟨rfl,rfl⟩,⟨rfl,rfl⟩,⟨rfl,rfl⟩,⟨rfl,rfl⟩,trivial⟩ ⟨kFlat (rSp_flat o.h) rfl id rfl,kFlat (rSp_flat o.d) rfl id rfl,kCells rfl rfl id rfl,kFlat (plL_flat _) rfl id rfl,kFlat (plL_flat _) rfl id rfl,trivial⟩ rfl (fun _ _=>rfl))
      ·skip
       have n41:=unF c41
       refine gO ⟨_,_,rfl,rfl,c41⟩ rfl rfl ?_
       refine gO ⟨_,_,rfl,rfl,c41⟩ rfl rfl ?_
       refine gO ⟨_,_,rfl,rfl,c41⟩ rfl rfl ?_
       refine gO ⟨_,_,rfl,rfl,c41⟩ rfl rfl ?_
       refine gO ⟨_,_,rfl,rfl,c41⟩ rfl rfl ?_
       refine gO ⟨_,_,rfl,rfl,c41⟩ rfl rfl ?_
       refine gO ⟨_,_,rfl,rfl,trivial⟩ rfl rfl ?_
       refine gO ⟨_,_,rfl,rfl,trivial⟩ rfl rfl ?_
       refine gO ⟨_,_,rfl,rfl,trivial⟩ rfl rfl ?_
       refine gO ⟨_,_,rfl,rfl,c41⟩ rfl rfl ?_
       refine gPF trivial rfl rfl c41 rfl rfl rfl ?_
       refine rg_nil nofun ?_
       refine cF rfl rfl ?_
       refine vc_skip ?_
       refine vc_region hm ?_
       refine gA trivial rfl rfl rfl rfl rfl rfl (by omega) ?_
       refine gM trivial (.inl rfl) rfl rfl rfl ?_
       refine rg_nil nofun ?_
       exact lp_next (m:=idm) ⟨j + 1,(by omega),(all_step ha (by first|exact placeOk_1 (by assumption)|exact placeOk_2 (by assumption) (by assumption)|exact placeOk_5 (by assumption)|exact placeOk_6 (by assumption) (by assumption))),rfl,rfl⟩ (by omega) (le_mk rfl ⟨⟨rfl,rfl⟩,⟨rfl,rfl⟩,⟨rfl,rfl⟩,⟨rfl,rfl⟩,trivial⟩ ⟨kFlat (rSp_flat o.h) rfl id rfl,kFlat (rSp_flat o.d) rfl id rfl,kCells rfl rfl id rfl,kFlat (plL_flat _) rfl id rfl,kFlat (plL_flat _) rfl id rfl,trivial⟩ rfl (fun _ _=>rfl))
     ·skip
      have p35:=of_decide_eq_false c35
      refine vc_exit ?_
      refine vc_seq ?_
      refine vc_region hm ?_
      refine gM trivial (.inr rfl) rfl rfl rfl ?_
      refine rg_nil nofun ?_
      refine vc_ret ?_
      exact ⟨idm,ends0 (.inr rfl) rfl (eqB (ownOk_6 (j:=j) (by assumption) (by assumption) (by assumption) (by assumption) hj (by omega) ha)) rfl rfl rfl⟩
end Go.Proofs.Ythionnhbnfblcaa.A
namespace Go.Proofs.Ythionnhbnfblcaa.A
open Go Go.RowKit
open Go.Joins Go.ChangeShapes Go.WideShapes Go.Deep
def RawN (w:World) (v:Value) (N:Nam) (k n:Nat) (cs:List Value):Prop :=
 v=(if N.nil=true then zv N.z else .slice (some ⟨N.blk,k,none⟩) n (N.cap - 0))∧(if N.nil=true then hls k cs = [] else ∃ (c:Array Value) (t:TypeId) (z:Nat × Nat),w.heap[N.blk]?=some (.cells c t z)∧∀ (i:Nat) (x:Value),(hls k cs)[i]?=some x→x ≠ hole→c[i]?=some x)
theorem raw_none {w:World}:RawN w (.slice none 0 0) ⟨0,0,true,none⟩ 0 0 []:=⟨rfl,rfl⟩
theorem raw_of {α:Type} {enc:α→List Value} {m:Nat} (he:∀ x,(enc x).length=m) (hm:0<m) {w:World} {a:Addr} {cap:Nat} {l:List α} (h:∀ i x,(rowL enc l)[i]?=some x→w.cell? (a.add i)=some x):∃ N k,RawN w (.slice (some a) l.length cap) N k l.length (rowL enc l):=by
 rcases l with _|⟨x,xs⟩
 ·exact ⟨⟨0,0,true,some (a,cap)⟩,0,rfl,rfl⟩
 ·have hp0:0<(rowL enc (x :: xs)).length:=by rw [rowL_len he,List.length_cons];exact Nat.mul_pos (Nat.succ_pos _) hm
  have h0:=h 0 _ (List.getElem?_eq_getElem hp0)
  have h1:∃ c t z,w.heap[a.block]?=some (.cells c t z)∧a.spot=none:=by
   have e:a.add 0=a:=by simp [Addr.add]
   unfold World.cell? at h0
   rw [e] at h0
   split at h0
   ·rename_i c t z hh
    refine ⟨c,t,z,hh,?_⟩
    split at h0
    ·cases h0
    ·rename_i hs;simpa using hs
   ·cases h0
  obtain ⟨c,t,z,hh,hs⟩:=h1
  obtain ⟨b,off,sp⟩:=a
  simp only at hs hh
  subst hs
  refine ⟨⟨b,cap,false,none⟩,off,rfl,(if_neg Bool.false_ne_true).mpr ⟨c,t,z,hh,fun i v hv hne=>?_⟩⟩
  unfold hls at hv
  by_cases hi:i<off
  ·rw [List.getElem?_append_left (by simpa using hi)] at hv
   have:=List.mem_of_getElem? hv
   exact absurd (List.eq_of_mem_replicate this) hne
  ·rw [List.getElem?_append_right (by simpa using hi),List.length_replicate] at hv
   have:=h (i - off) v hv
   rw [add_eq,cell_eq hh] at this
   rw [← this]
   congr 1
   omega
def envL (l:List Nam):Env:=fun n=>(l[n % 1000]?).getD ⟨0,0,true,none⟩
theorem raw_at {w:World} {v:Value} {N:Nam} {k n:Nat} {cs:List Value} {t:TypeId} {l:List Nam} {b:Nat} (h:RawN w v N k n cs) (hf:cs.all flat1=true) (hb:l[b]?=some N) (hb':b<1000):famAt (envL l) w b (one ⟨hls k cs,t,0⟩):=by
 intro k' x e
 obtain ⟨rfl,rfl⟩:=one_some e
 have e1:envL l (nm b 0)=N:=by unfold envL;rw [nm_mod hb',hb];rfl
 unfold blkAt
 rw [e1]
 have h2:=h.2
 cases hn:N.nil with
 | true=>rw [hn,if_pos rfl] at h2;rw [if_pos rfl];exact ⟨h2,fun q=>absurd rfl q⟩
 | false =>
  rw [hn,if_neg (by decide)] at h2
  rw [if_neg (by decide),if_pos rfl]
  obtain ⟨c,t',z,h3,h4⟩:=h2
  refine ⟨c,t',z,h3,fun i v hv hne=>?_⟩
  rw [r1_flat (List.all_eq_true.1 (hls_flat (k:=k) hf) v (List.mem_of_getElem? hv))]
  exact h4 i v hv hne
theorem raw_r1 {w:World} {v:Value} {N:Nam} {k n:Nat} {cs:List Value} {l:List Nam} {b:Nat} (h:RawN w v N k n cs) (hb:l[b]?=some N) (hb':b<1000):r1 (envL l) (.slice (some ⟨b,k,none⟩) n 0)=v:=by
 show (if (envL l b).nil=true then zv (envL l b).z else .slice (some ⟨(envL l b).blk,k,none⟩) n ((envL l b).cap - 0))=v
 have e1:envL l b=N:=by unfold envL;rw [Nat.mod_eq_of_lt hb',hb];rfl
 rw [e1,h.1]
def OwnArg (w:World) (v:Value) (o:Ow) (N0:Nam) (k0:Nat) (N1:Nam) (k1:Nat):Prop :=
 (∃ v1 v2,v = .agg #[.string o.t,v1,v2]∧RawN w v1 N0 k0 o.h.length (rSp o.h)∧RawN w v2 N1 k1 o.d.length (rSp o.d))∧o.t.size≤9223372036854775807∧o.h.length≤9223372036854775807∧o.d.length≤9223372036854775807
theorem ownArg_r3 {w:World} {v:Value} {o:Ow} {N0 N1:Nam} {k0 k1:Nat} {l:List Nam} {a b:Nat} (h:OwnArg w v o N0 k0 N1 k1) (ha:l[a]?=some N0) (hb:l[b]?=some N1) (ha':a<1000) (hb':b<1000):r3 (envL l) (.agg #[.string o.t,.slice (some ⟨a,k0,none⟩) o.h.length 0,.slice (some ⟨b,k1,none⟩) o.d.length 0])=v:=by
 obtain ⟨⟨v1,v2,rfl,h1,h2⟩,_⟩:=h
 have e1:=raw_r1 h1 ha ha'
 have e2:=raw_r1 h2 hb hb'
 simp only [r3,r2,List.map_toArray,List.map_cons,List.map_nil,e1,e2]
 rfl
theorem ownArg_at0 {w:World} {v:Value} {o:Ow} {N0 N1:Nam} {k0 k1:Nat} {l:List Nam} {a:Nat} {t:TypeId} (h:OwnArg w v o N0 k0 N1 k1) (ha:l[a]?=some N0) (ha':a<1000):famAt (envL l) w a (one ⟨hls k0 (rSp o.h),t,0⟩):=by
 obtain ⟨⟨v1,v2,rfl,h1,h2⟩,_⟩:=h
 exact raw_at h1 (rSp_flat _) ha ha'
theorem ownArg_at1 {w:World} {v:Value} {o:Ow} {N0 N1:Nam} {k0 k1:Nat} {l:List Nam} {a:Nat} {t:TypeId} (h:OwnArg w v o N0 k0 N1 k1) (ha:l[a]?=some N1) (ha':a<1000):famAt (envL l) w a (one ⟨hls k1 (rSp o.d),t,0⟩):=by
 obtain ⟨⟨v1,v2,rfl,h1,h2⟩,_⟩:=h
 exact raw_at h2 (rSp_flat _) ha ha'
def AtL (ρ:Env) (w:World):List (Nat × Bool × Fam)→Prop
 | []=>True
 | x :: l=>famAt ρ w x.1 x.2.2∧AtL ρ w l
theorem atL_mem {ρ:Env} {w:World}:∀ {l:List (Nat × Bool × Fam)},AtL ρ w l→∀ b o F,l.lookup b=some (o,F)→famAt ρ w b F
 | x :: l,h,b,o,F,e=>by
  obtain ⟨c,y⟩:=x
  rw [List.lookup_cons] at e
  by_cases hb:b=c
  ·subst hb
   simp at e
   subst e
   exact h.1
  ·have:(b == c)=false:=by simpa using hb
   rw [this] at e
   exact atL_mem h.2 b o F e
theorem law_done {P:Program} {f:FuncId} {args:List Value} {hl:List (Nat × Bool × Fam)} {rd:List Nat} {ρ:Env} {w:World} {vs:Array Value} (h:FDoes P f args (hp hl) { v:=.bool true,rd:=rd }) (ha:(args.map (r3 ρ)).toArray=vs) (hr:AtL ρ w hl) :
  Calls P f vs w fun e w'=>e = .returned (.bool true)∧Below w.heap.size w w':=by
 subst ha
 refine (h.run ρ w ⟨fun b _ o F e=>atL_mem hr b o F e,fun b hb=>(by cases hb)⟩).mono fun e w' ⟨ρ',hB,he⟩=>⟨he,?_⟩
 have hf:=hB.frm
 exact Frm.below ⟨hf.os,hf.tape,hf.output,hf.size,fun k hk hn=>hf.block k hk fun ⟨b,hb,_⟩=>(by cases hb)⟩
section
variable {H:Type} {enc:TypeId × Value→H} {P:Program} {w:World} {base:Nat} {spare:Nat→Bool} {held:Bool}
theorem open_agg3 {r:Reach} {b0:Nat} {t:TypeId} {f0 f1 f2:Field} {v:Value} {d:DataW H} {p:List MemPlace} (hs:P.underlying t=some (.struct #[f0,f1,f2])) (hone:oneCellFields P #[f0,f1,f2]=true) (hC:P.cellsOf t=3)
  (hv:Value.okWide P w r b0 t v) (h:DataW.Trod enc P w base spare held t v d p) :
  ∃ (v0 v1 v2:Value) (y0 y1 y2:DataW H × List MemPlace) (n:Nat),v = .agg #[v0,v1,v2]∧DataW.trod enc P w base spare held n f0.type [v0]=some y0∧DataW.trod enc P w base spare held n f1.type [v1]=some y1∧DataW.trod enc P w base spare held n f2.type [v2]=some y2:=by
 obtain ⟨cs,rfl,hsz⟩:=okWide_struct hs hv
 obtain ⟨l⟩:=cs
 match l,hsz.trans hC with
 | [c0,c1,c2],_ =>
  obtain ⟨fuel,hf⟩:=h
  obtain ⟨xs,n,_,hx,_,hlen,hg⟩:=DataW.trod_struct hs hf
  obtain ⟨o0,k0⟩:=hone_of hone 0 f0 rfl
  obtain ⟨o1,k1⟩:=hone_of hone 1 f1 rfl
  obtain ⟨o2,k2⟩:=hone_of hone 2 f2 rfl
  match xs,hlen with
  | [y0,y1,y2],_ =>
   exact ⟨c0,c1,c2,y0,y1,y2,n,rfl,by simpa [Value.cells,o0,k0] using hg 0 f0 rfl,by simpa [Value.cells,o1,k1] using hg 1 f1 rfl,by simpa [Value.cells,o2,k2] using hg 2 f2 rfl⟩
end
def vInt:Value→Int
 | .int _ n=>n
 | _=>0
section
variable {H:Type} {enc:TypeId × Value→H} {w:World} {base:Nat} {spare:Nat→Bool} {held:Bool}
theorem rd_spansA {fuel:Nat} {v:Value} {x:DataW H × List MemPlace} (h:DataW.trod enc Try.prog w base spare held fuel 22 [v]=some x) :
  ∃ (l:List Sp) (N:Nam) (k:Nat),RawN w v N k l.length (rSp l)∧l.length≤9223372036854775807:=by
 rcases open_slice_pairs Try.underlying22 Try.underlying35 (by kernel_rfl) rfl rfl (by kernel_rfl) (by kernel_rfl) h with ⟨h1,_⟩|⟨a,len,cap,m,n,V0,V1,D0,D1,P0,P1,h1,_,hl,hm,hz,_,hc⟩
 ·simp only [List.cons.injEq,_root_.and_true] at h1
  subst h1
  exact ⟨[],_,_,raw_none,by decide⟩
 ·simp only [List.cons.injEq,_root_.and_true] at h1
  unfold maxLen at hm
  have hlm:len≤m:=by rw [hz];split <;> omega
  have hn:((List.range len).map fun i=>(⟨vInt (V0 i),vInt (V1 i)⟩:Sp)).length=len:=by rw [List.length_map,List.length_range]
  have key:∀ i x,(rSp ((List.range len).map fun i=>(⟨vInt (V0 i),vInt (V1 i)⟩:Sp)))[i]?=some x→w.cell? (a.add i)=some x:=fun i x hx=>by
   have hi:i<len * 2:=by
    have:=(List.getElem?_eq_some_iff.1 hx).1
    rw [rowL_len (n:=2) (fun _=>rfl),hn] at this
    exact this
   have hj:i / 2<len:=by omega
   obtain ⟨q0,q1,t0,t1⟩:=hc (i / 2) (by omega)
   obtain ⟨n0,e0,_,_⟩:=DataW.trod_int Try.underlying3 t0
   obtain ⟨n1,e1,_,_⟩:=DataW.trod_int Try.underlying3 t1
   simp only [List.cons.injEq,_root_.and_true] at e0 e1
   have hg:=rowL_get (enc:=eSp) (n:=2) (fun _=>rfl) ((List.range len).map fun i=>(⟨vInt (V0 i),vInt (V1 i)⟩:Sp)) (i / 2) (i % 2) (by rw [hn];exact hj) (Nat.mod_lt _ (by decide))
   rw [show i / 2 * 2 + i % 2=i by omega,hx,List.getElem_map,List.getElem_range] at hg
   rcases Nat.mod_two_eq_zero_or_one i with hm2|hm2
   ·rw [hm2] at hg
    rw [show a.add i=a.add (i / 2 * 2) by rw [show i / 2 * 2=i by omega],q0,hg,e0];rfl
   ·rw [hm2] at hg
    rw [show a.add i=a.add (i / 2 * 2 + 1) by rw [show i / 2 * 2 + 1=i by omega],q1,hg,e1];rfl
  obtain ⟨N,k,hr⟩:=raw_of (enc:=eSp) (m:=2) (fun _=>rfl) (by decide) (cap:=cap) key
  exact ⟨_,N,k,by rw [h1];rw [hn] at hr ⊢;exact hr,by rw [hn];omega⟩
theorem open_ownA {r:Reach} {b0:Nat} {v:Value} {d:DataW H} {p:List MemPlace} (hv:Value.okWide Try.prog w r b0 24 v) (h:DataW.Trod enc Try.prog w base spare held 24 v d p):∃ o N0 k0 N1 k1,OwnArg w v o N0 k0 N1 k1:=by
 obtain ⟨v0,v1,v2,y0,y1,y2,n,rfl,h0,h1,h2⟩:=open_agg3 Try.underlying24 (by kernel_rfl) (by kernel_rfl) hv h
 obtain ⟨a0,e0,_,hw⟩:=DataW.trod_string Try.underlying9 h0
 simp only [List.cons.injEq,_root_.and_true] at e0
 unfold maxLen at hw
 obtain ⟨l1,N1,k1,q1,z1⟩:=rd_spansA h1
 obtain ⟨l2,N2,k2,q2,z2⟩:=rd_spansA h2
 exact ⟨⟨a0,l1,l2⟩,N1,k1,N2,k2,⟨v1,v2,by rw [e0],q1,q2⟩,hw,z1,z2⟩
end
end Go.Proofs.Ythionnhbnfblcaa.A
namespace Go.Proofs.Ythionnhbnfblcaa.A
open Go Go.RowKit
set_option maxHeartbeats 4000000
theorem FnExactOwnOk_c {o:Ow} {k0 k1:Nat} (ht:o.t.size≤9223372036854775807) (hh:o.h.length≤9223372036854775807) (hd:o.d.length≤9223372036854775807):FDoes Try.prog 4 [.agg #[.string o.t,.slice (some ⟨0,k0,none⟩) o.h.length 0,.slice (some ⟨1,k1,none⟩) o.d.length 0]] (hp [(0,false,one ⟨hls k0 (rSp o.h),35,0⟩),(1,false,one ⟨hls k1 (rSp o.d),35,0⟩)]) { v:=.bool true,rd:=[0,1] }:=by
 have hm:Try.prog.follows .mixedOrders=true:=by kernel_rfl
 have hd_:∀ x_ ∈ ([(0,false,one ⟨hls k0 (rSp o.h),35,0⟩),(1,false,one ⟨hls k1 (rSp o.d),35,0⟩)]:List (Nat × Bool × Fam)),∀ k_ y_,x_.2.2 k_=some y_→DetB (lt 2) y_:=by
  intro x_ hx k_ y_ e
  simp only [List.mem_cons,List.not_mem_nil,or_false] at hx
  rcases hx with rfl|rfl
  ·exact det_row (hls_flat (rSp_flat o.h)) e
  ·exact det_row (hls_flat (rSp_flat o.d)) e
 refine fn_exact (u0:=2) Try.func4 rfl rfl (gets rfl rfl rfl hd_ rfl) ?_
 clear hd_
 refine vc_seq ?_
 refine vc_region hm ?_
 refine gB (u':=3) trivial rfl rfl rfl rfl rfl rfl rfl rfl ?_
 refine gM trivial (.inr rfl) rfl rfl rfl ?_
 refine rg_nil nofun ?_
 refine vc_seq ?_
 refine vc_region hm ?_
 refine gM trivial (.inr rfl) rfl rfl rfl ?_
 refine rg_nil nofun ?_
 refine vc_seq ?_
 refine vc_region hm ?_
 refine gL trivial rfl rfl rfl rfl rfl rfl rfl rfl ?_
 refine gM trivial (.inl rfl) rfl rfl rfl ?_
 refine gC0 [0,1] (laws_szOwn_c (o:=o) (k0:=k0) (k1:=k1) (left:=1048576) (by omega) (by omega) ht hh hd) trivial rfl rfl rfl rfl ⟨rFlat (hls_flat (rSp_flat o.h)) rfl (.inl rfl) rfl,rFlat (hls_flat (rSp_flat o.d)) rfl (.inl rfl) rfl,trivial⟩ rfl rfl rfl rfl rfl ?_
 refine gM trivial (.inr rfl) rfl rfl rfl ?_
 refine rg_nil nofun ?_
 refine vc_seq ?_
 refine vc_seq ?_
 refine vc_region hm ?_
 refine gM trivial (.inl rfl) rfl rfl rfl ?_
 refine gI trivial rfl rfl rfl rfl rfl rfl ?_
 refine rg_nil nofun ?_
 refine cI rfl (fun c11=>?_) (fun c11=>?_)
 ·skip
  have p11:=of_decide_eq_true c11
  refine vc_seq ?_
  refine vc_region hm ?_
  refine gM trivial (.inr rfl) rfl rfl rfl ?_
  refine rg_nil nofun ?_
  refine vc_ret ?_
  exact ⟨idm,ends0 (.inr rfl) rfl (eqB rfl) rfl rfl rfl⟩
 ·skip
  have p11:=of_decide_eq_false c11
  refine vc_skip ?_
  refine vc_seq ?_
  refine vc_region hm ?_
  refine gL trivial rfl rfl rfl rfl rfl rfl rfl rfl ?_
  refine gCn 5 [0,1,3,4] (laws_toOwn_c (o:=o) (k0:=k0) (k1:=k1) (szO_le p11).2.1 (szO_le p11).2.2) trivial rfl rfl rfl rfl ⟨rFlat (hls_flat (rSp_flat o.h)) rfl (.inl rfl) rfl,rFlat (hls_flat (rSp_flat o.d)) rfl (.inl rfl) rfl,trivial⟩ ⟨rSp_flat _,rSp_flat _,trivial⟩ rfl rfl rfl rfl ?_
  refine gC0 [3,4] (spec_OwnOk_c (o:=o) (szO_le p11).1 (szO_le p11).2.1 (szO_le p11).2.2) trivial rfl rfl rfl rfl ⟨rFlat (rSp_flat o.h) rfl (.inl rfl) rfl,rFlat (rSp_flat o.d) rfl (.inl rfl) rfl,trivial⟩ rfl rfl rfl rfl rfl ?_
  refine gM trivial (.inr rfl) rfl rfl rfl ?_
  refine rg_nil nofun ?_
  refine vc_seq ?_
  refine vc_region hm ?_
  refine gL trivial rfl rfl rfl rfl rfl rfl rfl rfl ?_
  refine gCn 7 [0,1,5,6] (laws_toOwn_c (o:=o) (k0:=k0) (k1:=k1) (szO_le p11).2.1 (szO_le p11).2.2) trivial rfl rfl rfl rfl ⟨rFlat (hls_flat (rSp_flat o.h)) rfl (.inl rfl) rfl,rFlat (hls_flat (rSp_flat o.d)) rfl (.inl rfl) rfl,trivial⟩ ⟨rSp_flat _,rSp_flat _,trivial⟩ rfl rfl rfl rfl ?_
  refine gZ (u':=8) trivial rfl rfl rfl rfl rfl rfl rfl rfl ?_
  refine gT trivial rfl rfl rfl rfl rfl rfl rfl rfl rfl rfl (Nat.le_of_ble_eq_true rfl) rfl ?_
  refine rg_nil nofun ?_
  refine vc_seq ?_
  refine vc_region hm ?_
  refine gL trivial rfl rfl rfl rfl rfl rfl rfl rfl ?_
  refine gC0 [5,6] (impl_OwnOk_c (o:=o) (szO_le p11).1 (szO_le p11).2.1 (szO_le p11).2.2) trivial rfl rfl rfl rfl ⟨rFlat (rSp_flat o.h) rfl (.inl rfl) rfl,rFlat (rSp_flat o.d) rfl (.inl rfl) rfl,trivial⟩ rfl rfl rfl rfl rfl ?_
  refine gM trivial (.inr rfl) rfl rfl rfl ?_
  refine rg_nil nofun ?_
  refine vc_seq ?_
  refine vc_seq ?_
  refine vc_region hm ?_
  refine gM trivial (.inl rfl) rfl rfl rfl ?_
  refine gM trivial (.inl rfl) rfl rfl rfl ?_
  refine gBN trivial rfl rfl rfl rfl rfl rfl ?_
  refine rg_nil nofun ?_
  refine cF rfl (nself _) ?_
  refine vc_skip ?_
  refine vc_seq ?_
  refine vc_seq ?_
  refine vc_region hm ?_
  refine gL trivial rfl rfl rfl rfl rfl rfl rfl rfl ?_
  refine gL trivial rfl rfl rfl rfl rfl rfl rfl rfl ?_
  refine gCn 10 [0,1,8,9] (laws_toOwn_c (o:=o) (k0:=k0) (k1:=k1) (szO_le p11).2.1 (szO_le p11).2.2) trivial rfl rfl rfl rfl ⟨rFlat (hls_flat (rSp_flat o.h)) rfl (.inl rfl) rfl,rFlat (hls_flat (rSp_flat o.d)) rfl (.inl rfl) rfl,trivial⟩ ⟨rSp_flat _,rSp_flat _,trivial⟩ rfl rfl rfl rfl ?_
  refine gC0 [5,6,8,9] (laws_eqOwn_c (x:=o) (y:=o) (szO_le p11).2.1 (szO_le p11).2.2) trivial rfl rfl rfl rfl ⟨rFlat (rSp_flat o.h) rfl (.inl rfl) rfl,rFlat (rSp_flat o.d) rfl (.inl rfl) rfl,rFlat (rSp_flat o.h) rfl (.inl rfl) rfl,rFlat (rSp_flat o.d) rfl (.inl rfl) rfl,trivial⟩ rfl rfl rfl rfl rfl ?_
  refine gN trivial rfl rfl rfl rfl ?_
  refine rg_nil (fun _=>by kernel_rfl) ?_
  refine cF rfl (notT (eqO_self o)) ?_
  refine vc_skip ?_
  refine vc_seq ?_
  refine vc_region hm ?_
  refine gM trivial (.inr rfl) rfl rfl rfl ?_
  refine rg_nil nofun ?_
  refine vc_ret ?_
  exact ⟨idm,ends0 (.inr rfl) rfl (eqB rfl) rfl rfl rfl⟩
theorem FnExactOwnOk_walk {w:World} {v0:Value} {o0:Ow} {N0 M0:Nam} {k0 m0:Nat} (h0:OwnArg w v0 o0 N0 k0 M0 m0):Calls Try.prog 4 #[v0] w fun e w'=>e = .returned (.bool true)∧Below w.heap.size w w' :=
 law_done (FnExactOwnOk_c h0.2.1 h0.2.2.1 h0.2.2.2) (ρ:=envL [N0,M0]) (by simp only [List.map_cons,List.map_nil,ownArg_r3 (l:=[N0,M0]) (a:=0) (b:=1) h0 rfl rfl (of_blt rfl) (of_blt rfl)]) ⟨ownArg_at0 h0 rfl (of_blt rfl),ownArg_at1 h0 rfl (of_blt rfl),trivial⟩
end Go.Proofs.Ythionnhbnfblcaa.A

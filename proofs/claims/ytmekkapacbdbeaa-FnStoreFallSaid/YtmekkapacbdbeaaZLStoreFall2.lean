/- Part 2 of the proof of FnStoreFall: words, contracts of callees, plain lemmas. -/
import Derived.Test.YtmekkapacbdbeaaZLStoreFall1
set_option maxHeartbeats 8000000
set_option maxRecDepth 100000
set_option linter.unusedVariables false
set_option linter.unusedSimpArgs false
namespace Go.Proofs.Ytmekkapacbdbeaa.A
open Go Go.RowKit
set_option maxHeartbeats 4000000
structure StSz (s:Stv):Prop where
 a0:s.now.length≤1048576
 a1:s.sure.length≤1048576
 a2:s.last.length≤1048576
 a3:s.slast.length≤1048576
 a4:s.fl.length≤1048576
 b0:∀ x ∈ s.now,x.size≤1048576
 b1:∀ x ∈ s.sure,x.size≤1048576
theorem tx_sz {l:List ByteArray} (h:txAll l 3=true) (h3:l.length=3):∀ x ∈ l,x.size≤48:=fun x hx=>by
 obtain ⟨i,hi,rfl⟩:=List.mem_iff_getElem.1 hx
 rw [at_get hi]
 exact textOk_len (tx_at h (by omega) (by omega))
theorem sz_ok {s:Stv} (h:stOk s=true):StSz s:=by
 obtain ⟨⟨l0,l1,l2,l3,l4⟩,g0,g1,g2⟩:=stOk_in h
 exact ⟨by omega,by omega,by omega,by omega,by omega,fun x hx=>Nat.le_trans (tx_sz g0 l0 x hx) (by decide),fun x hx=>Nat.le_trans (tx_sz g1 l1 x hx) (by decide)⟩
theorem txOk_1 {l:List ByteArray} {j:Nat} (hj:(j:Int)<l.length) (h:textOk (at_ l (j:Int))=false):txOk l=false:=and_false_l (tx_1 (by omega) h)
theorem txOk_2 {l:List ByteArray} {j:Nat} (hj:j≤l.length) (h:¬ (j:Int)<l.length) (ha:txAll l j=true):txOk l=decide ((l.length:Int)=3):=by
 unfold txOk
 rw [show l.length=j by omega,ha,Bool.true_and]
 exact decide_eq_decide.2 (by omega)
theorem num_T {s:Stv} {j:Nat} (h:0≤at_ s.slast (j:Int)∧at_ s.slast (j:Int)≤at_ s.last (j:Int)∧at_ s.last (j:Int)≤1000∧0≤at_ s.fl (j:Int)∧at_ s.fl (j:Int)≤100):numAt s j=true:=decide_eq_true h
theorem num_F {s:Stv} {j:Nat} (h:¬ (0≤at_ s.slast (j:Int)∧at_ s.slast (j:Int)≤at_ s.last (j:Int)∧at_ s.last (j:Int)≤1000∧0≤at_ s.fl (j:Int)∧at_ s.fl (j:Int)≤100)):numAt s j=false:=decide_eq_false h
theorem stOk_E {s:Stv} (h0:lens3 s) (h1:txAll s.now 3=true) (h2:txAll s.sure 3=true) {j:Nat} (hj:j≤3) (hj2:¬ (j:Int)<3) (h3:numAll s j=true):stOk s=true:=by
 rw [show j=3 by omega] at h3
 exact stOk_of h0 h1 h2 h3
theorem l5Texts_c {l:List ByteArray} {k c:Nat} (hn:l.length≤1048576) (hb:∀ x ∈ l,x.size≤1048576):FDoes Try.prog 52 [.slice (some ⟨0,k,none⟩) l.length c] (hp [(0,false,one ⟨hls k (rS l),9,0⟩)]) { v:=.bool (txOk l),rd:=[0] }:=by
 have hm:Try.prog.follows .mixedOrders=true:=by kernel_rfl
 have hd_:∀ x_ ∈ ([(0,false,one ⟨hls k (rS l),9,0⟩)]:List (Nat × Bool × Fam)),∀ k_ y_,x_.2.2 k_=some y_→DetB (lt 1) y_:=by
  intro x_ hx k_ y_ e
  simp only [List.mem_cons,List.not_mem_nil,or_false] at hx
  subst hx
  exact det_row (hls_flat (rS_flat l)) e
 refine fn_exact (u0:=1) Try.func52 rfl rfl (gets rfl rfl rfl hd_ rfl) ?_
 clear hd_
 refine vc_seq ?_
 refine vc_region hm ?_
 refine gM trivial (.inr rfl) rfl rfl rfl ?_
 refine rg_nil nofun ?_
 refine vc_seq ?_
 refine vc_seq ?_
 refine vc_region hm ?_
 refine gM trivial (.inr rfl) rfl rfl rfl ?_
 refine rg_nil nofun ?_
 refine vc_block ?_
 refine vc_loop' (fun n_ S_=>∃ (j:Nat),j≤l.length∧txAll l j=true∧n_=l.length - j∧S_=⟨1,[(0,.slice (some ⟨0,k,none⟩) l.length c),(3,.int .i64 j)],[(0,false,one ⟨hls k (rS l),9,0⟩)]⟩) (m0:=idm) ⟨0,Nat.zero_le _,rfl,rfl,rfl⟩ (le_mk rfl ⟨⟨rfl,rfl⟩,⟨rfl,rfl⟩,trivial⟩ ⟨kFlat (hls_flat (rS_flat l)) rfl id rfl,trivial⟩ rfl (fun _ _=>rfl)) ?_
 rintro n_ S_ ⟨j,hj,ha,rfl,rfl⟩
 refine vc_seq ?_
 refine vc_seq ?_
 refine vc_region hm ?_
 refine gM trivial (.inl rfl) rfl rfl rfl ?_
 refine gM trivial (.inl rfl) rfl rfl rfl ?_
 refine gK trivial rfl rfl rfl rfl rfl rfl (hls_nil rS_nil) ?_
 refine gI trivial rfl rfl rfl rfl rfl rfl ?_
 refine rg_nil nofun ?_
 refine cI rfl (fun c7=>?_) (fun c7=>?_)
 ·skip
  have p7:=of_decide_eq_true c7
  refine vc_skip ?_
  refine vc_seq ?_
  refine vc_block ?_
  refine vc_seq ?_
  refine vc_region hm ?_
  refine gM trivial (.inl rfl) rfl rfl rfl ?_
  refine gM trivial (.inl rfl) rfl rfl rfl ?_
  refine gX trivial rfl rfl rfl rfl rfl rfl rfl rfl (by omega) p7 (fun h=>hls_ne (rS_ne h)) ?_
  refine gL trivial rfl rfl rfl rfl rfl rfl rfl (wR (lS (by omega) p7) rfl) ?_
  refine gC0 [] (spec_TextOk_c (s:=(at_ l (j:Int))) (by have:=hb _ (at_mem (l:=l) (i:=(j:Int)) (by omega) p7);omega)) trivial rfl rfl rfl rfl (by trivial) rfl rfl rfl rfl rfl ?_
  refine gN trivial rfl rfl rfl rfl ?_
  refine rg_nil nofun ?_
  refine cI rfl (fun c15=>?_) (fun c15=>?_)
  ·skip
   have n15:=unT c15
   refine vc_seq ?_
   refine vc_region hm ?_
   refine gM trivial (.inr rfl) rfl rfl rfl ?_
   refine rg_nil nofun ?_
   refine vc_ret ?_
   exact ⟨idm,ends0 (.inr rfl) rfl (eqB (txOk_1 p7 n15)) rfl rfl rfl⟩
  ·skip
   have n15:=unF c15
   refine vc_skip ?_
   refine vc_region hm ?_
   refine gM trivial (.inl rfl) rfl rfl rfl ?_
   refine gA trivial rfl rfl rfl rfl rfl rfl (by omega) ?_
   refine gM trivial (.inr rfl) rfl rfl rfl ?_
   refine rg_nil nofun ?_
   exact lp_next (m:=idm) ⟨j + 1,(by omega),(tx_s ha n15),rfl,rfl⟩ (by omega) (le_mk rfl ⟨⟨rfl,rfl⟩,⟨rfl,rfl⟩,trivial⟩ ⟨kFlat (hls_flat (rS_flat l)) rfl id rfl,trivial⟩ rfl (fun _ _=>rfl))
 ·skip
  have p7:=of_decide_eq_false c7
  refine vc_exit ?_
  refine vc_seq ?_
  refine vc_region hm ?_
  refine gM trivial (.inl rfl) rfl rfl rfl ?_
  refine gK trivial rfl rfl rfl rfl rfl rfl (hls_nil rS_nil) ?_
  refine gI trivial rfl rfl rfl rfl rfl rfl ?_
  refine gM trivial (.inr rfl) rfl rfl rfl ?_
  refine rg_nil nofun ?_
  refine vc_ret ?_
  exact ⟨idm,ends0 (.inr rfl) rfl (eqB (txOk_2 hj p7 ha)) rfl rfl rfl⟩
theorem spec_StoreOk_c {s:Stv} {kk cc:Nat} (hz:StSz s):FDoes Try.prog 19 [.agg #[.slice (some ⟨0,kk,none⟩) s.now.length cc,.slice (some ⟨1,0,none⟩) s.sure.length 0,.slice (some ⟨2,0,none⟩) s.last.length 0,.slice (some ⟨3,0,none⟩) s.slast.length 0,.slice (some ⟨4,0,none⟩) s.fl.length 0]] (hp [(0,false,one ⟨hls kk (rS s.now),9,0⟩),(1,false,one ⟨rS s.sure,9,0⟩),(2,false,one ⟨rI s.last,3,0⟩),(3,false,one ⟨rI s.slast,3,0⟩),(4,false,one ⟨rI s.fl,3,0⟩)]) { v:=.bool (stOk s),rd:=[0,1,2,3,4] }:=by
 have hm:Try.prog.follows .mixedOrders=true:=by kernel_rfl
 have hd_:∀ x_ ∈ ([(0,false,one ⟨hls kk (rS s.now),9,0⟩),(1,false,one ⟨rS s.sure,9,0⟩),(2,false,one ⟨rI s.last,3,0⟩),(3,false,one ⟨rI s.slast,3,0⟩),(4,false,one ⟨rI s.fl,3,0⟩)]:List (Nat × Bool × Fam)),∀ k_ y_,x_.2.2 k_=some y_→DetB (lt 5) y_:=by
  intro x_ hx k_ y_ e
  simp only [List.mem_cons,List.not_mem_nil,or_false] at hx
  rcases hx with rfl|rfl|rfl|rfl|rfl
  ·exact det_row (hls_flat (rS_flat s.now)) e
  ·exact det_row (rS_flat s.sure) e
  ·exact det_row (rI_flat s.last) e
  ·exact det_row (rI_flat s.slast) e
  ·exact det_row (rI_flat s.fl) e
 have z0:=hz.a0
 have z1:=hz.a1
 have z2:=hz.a2
 have z3:=hz.a3
 have z4:=hz.a4
 refine fn_exact (u0:=5) Try.func19 rfl rfl (gets rfl rfl rfl hd_ rfl) ?_
 clear hd_
 refine vc_seq ?_
 refine vc_region hm ?_
 refine gB (u':=6) trivial rfl rfl rfl rfl rfl rfl rfl rfl ?_
 refine gM trivial (.inr rfl) rfl rfl rfl ?_
 refine rg_nil nofun ?_
 refine vc_seq ?_
 refine vc_seq ?_
 refine vc_region hm ?_
 refine gF trivial rfl rfl rfl rfl rfl ?_
 refine gL trivial rfl rfl rfl rfl rfl rfl rfl rfl ?_
 refine gC0 [0] (l5Texts_c (l:=s.now) (k:=kk) (c:=cc) z0 hz.b0) trivial rfl rfl rfl rfl ⟨rFlat (hls_flat (rS_flat _)) rfl (.inl rfl) rfl,trivial⟩ rfl rfl rfl rfl rfl ?_
 refine gN trivial rfl rfl rfl rfl ?_
 refine gM trivial (.inl rfl) rfl rfl rfl ?_
 refine gI2 (d:=8) rfl (fun c8=>?_) (fun c8=>?_)
 ·skip
  have n8:=unT c8
  refine gO ⟨_,_,rfl,rfl,c8⟩ rfl rfl ?_
  refine gO ⟨_,_,rfl,rfl,c8⟩ rfl rfl ?_
  refine gO ⟨_,_,rfl,rfl,c8⟩ rfl rfl ?_
  refine gO ⟨_,_,rfl,rfl,c8⟩ rfl rfl ?_
  refine gPT trivial rfl rfl c8 rfl rfl rfl ?_
  refine gM trivial (.inl rfl) rfl rfl rfl ?_
  refine gO ⟨_,_,rfl,rfl,rfl⟩ rfl rfl ?_
  refine gO ⟨_,_,rfl,rfl,rfl⟩ rfl rfl ?_
  refine gO ⟨_,_,rfl,rfl,rfl⟩ rfl rfl ?_
  refine gO ⟨_,_,rfl,rfl,rfl⟩ rfl rfl ?_
  refine gPT trivial rfl rfl rfl rfl rfl rfl ?_
  refine gM trivial (.inl rfl) rfl rfl rfl ?_
  refine gO ⟨_,_,rfl,rfl,rfl⟩ rfl rfl ?_
  refine gO ⟨_,_,rfl,rfl,rfl⟩ rfl rfl ?_
  refine gO ⟨_,_,rfl,rfl,rfl⟩ rfl rfl ?_
  refine gO ⟨_,_,rfl,rfl,rfl⟩ rfl rfl ?_
  refine gPT trivial rfl rfl rfl rfl rfl rfl ?_
  refine gM trivial (.inl rfl) rfl rfl rfl ?_
  refine gO ⟨_,_,rfl,rfl,rfl⟩ rfl rfl ?_
  refine gO ⟨_,_,rfl,rfl,rfl⟩ rfl rfl ?_
  refine gO ⟨_,_,rfl,rfl,rfl⟩ rfl rfl ?_
  refine gO ⟨_,_,rfl,rfl,rfl⟩ rfl rfl ?_
  refine gPT trivial rfl rfl rfl rfl rfl rfl ?_
  refine rg_nil nofun ?_
  refine cT rfl rfl ?_
  refine vc_seq ?_
  refine vc_region hm ?_
  refine gM trivial (.inr rfl) rfl rfl rfl ?_
  refine rg_nil nofun ?_
  refine vc_ret ?_
  exact ⟨idm,ends0 (.inr rfl) rfl (eqB (by first|exact stOk_tn (by assumption)|exact stOk_ts (by assumption)|exact stOk_F0 (fun q=>by unfold lens3 at q;omega))) rfl rfl rfl⟩
 ·skip
  have n8:=unF c8
  refine gF ⟨_,_,rfl,rfl,c8⟩ rfl rfl rfl rfl rfl ?_
  refine gL ⟨_,_,rfl,rfl,c8⟩ rfl rfl rfl rfl rfl rfl rfl rfl ?_
  refine gC0 [1] (l5Texts_c (l:=s.sure) (k:=0) (c:=0) z1 hz.b1) ⟨_,_,rfl,rfl,c8⟩ rfl rfl rfl rfl ⟨rFlat (hls_flat (rS_flat _)) rfl (.inl rfl) rfl,trivial⟩ rfl rfl rfl rfl rfl ?_
  refine gN ⟨_,_,rfl,rfl,c8⟩ rfl rfl rfl rfl ?_
  refine gPF trivial rfl rfl c8 rfl rfl rfl ?_
  refine gM trivial (.inl rfl) rfl rfl rfl ?_
  refine gI2 (d:=14) rfl (fun c14=>?_) (fun c14=>?_)
  ·skip
   have n14:=unT c14
   refine gO ⟨_,_,rfl,rfl,c14⟩ rfl rfl ?_
   refine gO ⟨_,_,rfl,rfl,c14⟩ rfl rfl ?_
   refine gO ⟨_,_,rfl,rfl,c14⟩ rfl rfl ?_
   refine gO ⟨_,_,rfl,rfl,c14⟩ rfl rfl ?_
   refine gPT trivial rfl rfl c14 rfl rfl rfl ?_
   refine gM trivial (.inl rfl) rfl rfl rfl ?_
   refine gO ⟨_,_,rfl,rfl,rfl⟩ rfl rfl ?_
   refine gO ⟨_,_,rfl,rfl,rfl⟩ rfl rfl ?_
   refine gO ⟨_,_,rfl,rfl,rfl⟩ rfl rfl ?_
   refine gO ⟨_,_,rfl,rfl,rfl⟩ rfl rfl ?_
   refine gPT trivial rfl rfl rfl rfl rfl rfl ?_
   refine gM trivial (.inl rfl) rfl rfl rfl ?_
   refine gO ⟨_,_,rfl,rfl,rfl⟩ rfl rfl ?_
   refine gO ⟨_,_,rfl,rfl,rfl⟩ rfl rfl ?_
   refine gO ⟨_,_,rfl,rfl,rfl⟩ rfl rfl ?_
   refine gO ⟨_,_,rfl,rfl,rfl⟩ rfl rfl ?_
   refine gPT trivial rfl rfl rfl rfl rfl rfl ?_
   refine rg_nil nofun ?_
   refine cT rfl rfl ?_
   refine vc_seq ?_
   refine vc_region hm ?_
   refine gM trivial (.inr rfl) rfl rfl rfl ?_
   refine rg_nil nofun ?_
   refine vc_ret ?_
   exact ⟨idm,ends0 (.inr rfl) rfl (eqB (by first|exact stOk_tn (by assumption)|exact stOk_ts (by assumption)|exact stOk_F0 (fun q=>by unfold lens3 at q;omega))) rfl rfl rfl⟩
  ·skip
   have n14:=unF c14
   refine gF ⟨_,_,rfl,rfl,c14⟩ rfl rfl rfl rfl rfl ?_
   refine gL ⟨_,_,rfl,rfl,c14⟩ rfl rfl rfl rfl rfl rfl rfl rfl ?_
   refine gK ⟨_,_,rfl,rfl,c14⟩ rfl rfl rfl rfl rfl rfl rI_nil ?_
   refine gI ⟨_,_,rfl,rfl,c14⟩ rfl rfl rfl rfl rfl rfl ?_
   refine gPF trivial rfl rfl c14 rfl rfl rfl ?_
   refine gM trivial (.inl rfl) rfl rfl rfl ?_
   refine gI2 (d:=20) rfl (fun c20=>?_) (fun c20=>?_)
   ·skip
    have p20:=bne_iff_ne.1 c20
    refine gO ⟨_,_,rfl,rfl,c20⟩ rfl rfl ?_
    refine gO ⟨_,_,rfl,rfl,c20⟩ rfl rfl ?_
    refine gO ⟨_,_,rfl,rfl,c20⟩ rfl rfl ?_
    refine gO ⟨_,_,rfl,rfl,c20⟩ rfl rfl ?_
    refine gPT trivial rfl rfl c20 rfl rfl rfl ?_
    refine gM trivial (.inl rfl) rfl rfl rfl ?_
    refine gO ⟨_,_,rfl,rfl,rfl⟩ rfl rfl ?_
    refine gO ⟨_,_,rfl,rfl,rfl⟩ rfl rfl ?_
    refine gO ⟨_,_,rfl,rfl,rfl⟩ rfl rfl ?_
    refine gO ⟨_,_,rfl,rfl,rfl⟩ rfl rfl ?_
    refine gPT trivial rfl rfl rfl rfl rfl rfl ?_
    refine rg_nil nofun ?_
    refine cT rfl rfl ?_
    refine vc_seq ?_
    refine vc_region hm ?_
    refine gM trivial (.inr rfl) rfl rfl rfl ?_
    refine rg_nil nofun ?_
    refine vc_ret ?_
    exact ⟨idm,ends0 (.inr rfl) rfl (eqB (by first|exact stOk_tn (by assumption)|exact stOk_ts (by assumption)|exact stOk_F0 (fun q=>by unfold lens3 at q;omega))) rfl rfl rfl⟩
   ·skip
    have p20:=bne_eq_false_iff_eq.1 c20
    refine gF ⟨_,_,rfl,rfl,c20⟩ rfl rfl rfl rfl rfl ?_
    refine gL ⟨_,_,rfl,rfl,c20⟩ rfl rfl rfl rfl rfl rfl rfl rfl ?_
    refine gK ⟨_,_,rfl,rfl,c20⟩ rfl rfl rfl rfl rfl rfl rI_nil ?_
    refine gI ⟨_,_,rfl,rfl,c20⟩ rfl rfl rfl rfl rfl rfl ?_
    refine gPF trivial rfl rfl c20 rfl rfl rfl ?_
    refine gM trivial (.inl rfl) rfl rfl rfl ?_
    refine gI2 (d:=26) rfl (fun c26=>?_) (fun c26=>?_)
    ·skip
     have p26:=bne_iff_ne.1 c26
     refine gO ⟨_,_,rfl,rfl,c26⟩ rfl rfl ?_
     refine gO ⟨_,_,rfl,rfl,c26⟩ rfl rfl ?_
     refine gO ⟨_,_,rfl,rfl,c26⟩ rfl rfl ?_
     refine gO ⟨_,_,rfl,rfl,c26⟩ rfl rfl ?_
     refine gPT trivial rfl rfl c26 rfl rfl rfl ?_
     refine rg_nil nofun ?_
     refine cT rfl rfl ?_
     refine vc_seq ?_
     refine vc_region hm ?_
     refine gM trivial (.inr rfl) rfl rfl rfl ?_
     refine rg_nil nofun ?_
     refine vc_ret ?_
     exact ⟨idm,ends0 (.inr rfl) rfl (eqB (by first|exact stOk_tn (by assumption)|exact stOk_ts (by assumption)|exact stOk_F0 (fun q=>by unfold lens3 at q;omega))) rfl rfl rfl⟩
    ·skip
     have p26:=bne_eq_false_iff_eq.1 c26
     refine gF ⟨_,_,rfl,rfl,c26⟩ rfl rfl rfl rfl rfl ?_
     refine gL ⟨_,_,rfl,rfl,c26⟩ rfl rfl rfl rfl rfl rfl rfl rfl ?_
     refine gK ⟨_,_,rfl,rfl,c26⟩ rfl rfl rfl rfl rfl rfl rI_nil ?_
     refine gI ⟨_,_,rfl,rfl,c26⟩ rfl rfl rfl rfl rfl rfl ?_
     refine gPF trivial rfl rfl c26 rfl rfl rfl ?_
     refine rg_nil nofun ?_
     refine cI rfl (fun c31=>?_) (fun c31=>?_)
     ·skip
      have p31:=bne_iff_ne.1 c31
      refine vc_seq ?_
      refine vc_region hm ?_
      refine gM trivial (.inr rfl) rfl rfl rfl ?_
      refine rg_nil nofun ?_
      refine vc_ret ?_
      exact ⟨idm,ends0 (.inr rfl) rfl (eqB (by first|exact stOk_tn (by assumption)|exact stOk_ts (by assumption)|exact stOk_F0 (fun q=>by unfold lens3 at q;omega))) rfl rfl rfl⟩
     ·skip
      have p31:=bne_eq_false_iff_eq.1 c31
      refine vc_skip ?_
      refine vc_seq ?_
      refine vc_seq ?_
      refine vc_region hm ?_
      refine gM trivial (.inr rfl) rfl rfl rfl ?_
      refine rg_nil nofun ?_
      refine vc_block ?_
      refine vc_loop' (fun n_ S_=>∃ (j:Nat),j≤3∧numAll s j=true∧n_=3 - j∧S_=⟨6,[(1,.pointer (some ⟨5,0,none⟩)),(3,.int .i64 j)],[(0,false,one ⟨hls kk (rS s.now),9,0⟩),(1,false,one ⟨rS s.sure,9,0⟩),(2,false,one ⟨rI s.last,3,0⟩),(3,false,one ⟨rI s.slast,3,0⟩),(4,false,one ⟨rI s.fl,3,0⟩),(5,true,one ⟨[.slice (some ⟨0,kk,none⟩) s.now.length cc,.slice (some ⟨1,0,none⟩) s.sure.length 0,.slice (some ⟨2,0,none⟩) s.last.length 0,.slice (some ⟨3,0,none⟩) s.slast.length 0,.slice (some ⟨4,0,none⟩) s.fl.length 0],26,5⟩)]⟩) (m0:=idm) ⟨0,Nat.zero_le _,rfl,rfl,rfl⟩ (le_mk rfl ⟨⟨rfl,rfl⟩,⟨rfl,rfl⟩,trivial⟩ ⟨kFlat (hls_flat (rS_flat s.now)) rfl id rfl,kFlat (rS_flat s.sure) rfl id rfl,kFlat (rI_flat s.last) rfl id rfl,kFlat (rI_flat s.slast) rfl id rfl,kFlat (rI_flat s.fl) rfl id rfl,kCells rfl rfl id rfl,trivial⟩ rfl (fun _ _=>rfl)) ?_
      rintro n_ S_ ⟨j,hj,ha,rfl,rfl⟩
      have q0:=(txOk_3 n8).1
      have q1:=(txOk_3 n14).1
      refine vc_seq ?_
      refine vc_seq ?_
      refine vc_region hm ?_
      refine gM trivial (.inl rfl) rfl rfl rfl ?_
      refine gI trivial rfl rfl rfl rfl rfl rfl ?_
      refine rg_nil nofun ?_
      refine cI rfl (fun c33=>?_) (fun c33=>?_)
      ·skip
       have p33:=of_decide_eq_true c33
       refine vc_skip ?_
       refine vc_seq ?_
       refine vc_block ?_
       refine vc_seq ?_
       refine vc_region hm ?_
       refine gF trivial rfl rfl rfl rfl rfl ?_
       refine gL trivial rfl rfl rfl rfl rfl rfl rfl rfl ?_
       refine gM trivial (.inl rfl) rfl rfl rfl ?_
       refine gX trivial rfl rfl rfl rfl rfl rfl rfl rfl (by omega) (by omega) rI_ne ?_
       refine gL trivial rfl rfl rfl rfl rfl rfl rfl (lI (by omega) (by omega)) ?_
       refine gI trivial rfl rfl rfl rfl rfl rfl ?_
       refine gM trivial (.inl rfl) rfl rfl rfl ?_
       refine gI2 (d:=42) rfl (fun c42=>?_) (fun c42=>?_)
       ·skip
        have p42:=of_decide_eq_true c42
        refine gO ⟨_,_,rfl,rfl,c42⟩ rfl rfl ?_
        refine gO ⟨_,_,rfl,rfl,c42⟩ rfl rfl ?_
        refine gO ⟨_,_,rfl,rfl,c42⟩ rfl rfl ?_
        refine gO ⟨_,_,rfl,rfl,c42⟩ rfl rfl ?_
        refine gO ⟨_,_,rfl,rfl,c42⟩ rfl rfl ?_
        refine gO ⟨_,_,rfl,rfl,c42⟩ rfl rfl ?_
        refine gO ⟨_,_,rfl,rfl,c42⟩ rfl rfl ?_
        refine gO ⟨_,_,rfl,rfl,c42⟩ rfl rfl ?_
        refine gO ⟨_,_,rfl,rfl,c42⟩ rfl rfl ?_
        refine gO ⟨_,_,rfl,rfl,c42⟩ rfl rfl ?_
        refine gO ⟨_,_,rfl,rfl,c42⟩ rfl rfl ?_
        refine gPT trivial rfl rfl c42 rfl rfl rfl ?_
        refine gM trivial (.inl rfl) rfl rfl rfl ?_
        refine gO ⟨_,_,rfl,rfl,rfl⟩ rfl rfl ?_
        refine gO ⟨_,_,rfl,rfl,rfl⟩ rfl rfl ?_
        refine gO ⟨_,_,rfl,rfl,rfl⟩ rfl rfl ?_
        refine gO ⟨_,_,rfl,rfl,rfl⟩ rfl rfl ?_
        refine gO ⟨_,_,rfl,rfl,rfl⟩ rfl rfl ?_
        refine gO ⟨_,_,rfl,rfl,rfl⟩ rfl rfl ?_
        refine gPT trivial rfl rfl rfl rfl rfl rfl ?_
        refine gM trivial (.inl rfl) rfl rfl rfl ?_
        refine gO ⟨_,_,rfl,rfl,rfl⟩ rfl rfl ?_
        refine gO ⟨_,_,rfl,rfl,rfl⟩ rfl rfl ?_
        refine gO ⟨_,_,rfl,rfl,rfl⟩ rfl rfl ?_
        refine gO ⟨_,_,rfl,rfl,rfl⟩ rfl rfl ?_
        refine gO ⟨_,_,rfl,rfl,rfl⟩ rfl rfl ?_
        refine gO ⟨_,_,rfl,rfl,rfl⟩ rfl rfl ?_
        refine gPT trivial rfl rfl rfl rfl rfl rfl ?_
        refine gM trivial (.inl rfl) rfl rfl rfl ?_
        refine gO ⟨_,_,rfl,rfl,rfl⟩ rfl rfl ?_
        refine gO ⟨_,_,rfl,rfl,rfl⟩ rfl rfl ?_
        refine gO ⟨_,_,rfl,rfl,rfl⟩ rfl rfl ?_
        refine gO ⟨_,_,rfl,rfl,rfl⟩ rfl rfl ?_
        refine gO ⟨_,_,rfl,rfl,rfl⟩ rfl rfl ?_
        refine gO ⟨_,_,rfl,rfl,rfl⟩ rfl rfl ?_
        refine gPT trivial rfl rfl rfl rfl rfl rfl ?_
        refine rg_nil (fun _=>by kernel_rfl) ?_
        refine cT rfl rfl ?_
        refine vc_seq ?_
        refine vc_region hm ?_
        refine gM trivial (.inr rfl) rfl rfl rfl ?_
        refine rg_nil nofun ?_
        refine vc_ret ?_
        exact ⟨idm,ends0 (.inr rfl) rfl (eqB (stOk_F3 (nu_1 (j:=j) (by omega) (num_F (by omega))))) rfl rfl rfl⟩
       ·skip
        have p42:=of_decide_eq_false c42
        refine gF ⟨_,_,rfl,rfl,c42⟩ rfl rfl rfl rfl rfl ?_
        refine gL ⟨_,_,rfl,rfl,c42⟩ rfl rfl rfl rfl rfl rfl rfl rfl ?_
        refine gM ⟨_,_,rfl,rfl,c42⟩ (.inl rfl) rfl rfl rfl ?_
        refine gX ⟨_,_,rfl,rfl,c42⟩ rfl rfl rfl rfl rfl rfl rfl rfl (by omega) (by omega) rI_ne ?_
        refine gL ⟨_,_,rfl,rfl,c42⟩ rfl rfl rfl rfl rfl rfl rfl (lI (by omega) (by omega)) ?_
        refine gF ⟨_,_,rfl,rfl,c42⟩ rfl rfl rfl rfl rfl ?_
        refine gL ⟨_,_,rfl,rfl,c42⟩ rfl rfl rfl rfl rfl rfl rfl rfl ?_
        refine gM ⟨_,_,rfl,rfl,c42⟩ (.inl rfl) rfl rfl rfl ?_
        refine gX ⟨_,_,rfl,rfl,c42⟩ rfl rfl rfl rfl rfl rfl rfl rfl (by omega) (by omega) rI_ne ?_
        refine gL ⟨_,_,rfl,rfl,c42⟩ rfl rfl rfl rfl rfl rfl rfl (lI (by omega) (by omega)) ?_
        refine gI ⟨_,_,rfl,rfl,c42⟩ rfl rfl rfl rfl rfl rfl ?_
        refine gPF trivial rfl rfl c42 rfl rfl rfl ?_
        refine gM trivial (.inl rfl) rfl rfl rfl ?_
        refine gI2 (d:=55) rfl (fun c55=>?_) (fun c55=>?_)
        ·skip
         have p55:=of_decide_eq_true c55
         refine gO ⟨_,_,rfl,rfl,c55⟩ rfl rfl ?_
         refine gO ⟨_,_,rfl,rfl,c55⟩ rfl rfl ?_
         refine gO ⟨_,_,rfl,rfl,c55⟩ rfl rfl ?_
         refine gO ⟨_,_,rfl,rfl,c55⟩ rfl rfl ?_
         refine gO ⟨_,_,rfl,rfl,c55⟩ rfl rfl ?_
         refine gO ⟨_,_,rfl,rfl,c55⟩ rfl rfl ?_
         refine gPT trivial rfl rfl c55 rfl rfl rfl ?_
         refine gM trivial (.inl rfl) rfl rfl rfl ?_
         refine gO ⟨_,_,rfl,rfl,rfl⟩ rfl rfl ?_
         refine gO ⟨_,_,rfl,rfl,rfl⟩ rfl rfl ?_
         refine gO ⟨_,_,rfl,rfl,rfl⟩ rfl rfl ?_
         refine gO ⟨_,_,rfl,rfl,rfl⟩ rfl rfl ?_
         refine gO ⟨_,_,rfl,rfl,rfl⟩ rfl rfl ?_
         refine gO ⟨_,_,rfl,rfl,rfl⟩ rfl rfl ?_
         refine gPT trivial rfl rfl rfl rfl rfl rfl ?_
         refine gM trivial (.inl rfl) rfl rfl rfl ?_
         refine gO ⟨_,_,rfl,rfl,rfl⟩ rfl rfl ?_
         refine gO ⟨_,_,rfl,rfl,rfl⟩ rfl rfl ?_
         refine gO ⟨_,_,rfl,rfl,rfl⟩ rfl rfl ?_
         refine gO ⟨_,_,rfl,rfl,rfl⟩ rfl rfl ?_
         refine gO ⟨_,_,rfl,rfl,rfl⟩ rfl rfl ?_
         refine gO ⟨_,_,rfl,rfl,rfl⟩ rfl rfl ?_
         refine gPT trivial rfl rfl rfl rfl rfl rfl ?_
         refine rg_nil (fun _=>by kernel_rfl) ?_
         refine cT rfl rfl ?_
         refine vc_seq ?_
         refine vc_region hm ?_
         refine gM trivial (.inr rfl) rfl rfl rfl ?_
         refine rg_nil nofun ?_
         refine vc_ret ?_
         exact ⟨idm,ends0 (.inr rfl) rfl (eqB (stOk_F3 (nu_1 (j:=j) (by omega) (num_F (by omega))))) rfl rfl rfl⟩
        ·skip
         have p55:=of_decide_eq_false c55
         refine gF ⟨_,_,rfl,rfl,c55⟩ rfl rfl rfl rfl rfl ?_
         refine gL ⟨_,_,rfl,rfl,c55⟩ rfl rfl rfl rfl rfl rfl rfl rfl ?_
         refine gM ⟨_,_,rfl,rfl,c55⟩ (.inl rfl) rfl rfl rfl ?_
         refine gX ⟨_,_,rfl,rfl,c55⟩ rfl rfl rfl rfl rfl rfl rfl rfl (by omega) (by omega) rI_ne ?_
         refine gL ⟨_,_,rfl,rfl,c55⟩ rfl rfl rfl rfl rfl rfl rfl (lI (by omega) (by omega)) ?_
         refine gI ⟨_,_,rfl,rfl,c55⟩ rfl rfl rfl rfl rfl rfl ?_
         refine gPF trivial rfl rfl c55 rfl rfl rfl ?_
         refine gM trivial (.inl rfl) rfl rfl rfl ?_
         refine gI2 (d:=63) rfl (fun c63=>?_) (fun c63=>?_)
         ·skip
          have p63:=of_decide_eq_true c63
          refine gO ⟨_,_,rfl,rfl,c63⟩ rfl rfl ?_
          refine gO ⟨_,_,rfl,rfl,c63⟩ rfl rfl ?_
          refine gO ⟨_,_,rfl,rfl,c63⟩ rfl rfl ?_
          refine gO ⟨_,_,rfl,rfl,c63⟩ rfl rfl ?_
          refine gO ⟨_,_,rfl,rfl,c63⟩ rfl rfl ?_
          refine gO ⟨_,_,rfl,rfl,c63⟩ rfl rfl ?_
          refine gPT trivial rfl rfl c63 rfl rfl rfl ?_
          refine gM trivial (.inl rfl) rfl rfl rfl ?_
          refine gO ⟨_,_,rfl,rfl,rfl⟩ rfl rfl ?_
          refine gO ⟨_,_,rfl,rfl,rfl⟩ rfl rfl ?_
          refine gO ⟨_,_,rfl,rfl,rfl⟩ rfl rfl ?_
          refine gO ⟨_,_,rfl,rfl,rfl⟩ rfl rfl ?_
          refine gO ⟨_,_,rfl,rfl,rfl⟩ rfl rfl ?_
          refine gO ⟨_,_,rfl,rfl,rfl⟩ rfl rfl ?_
          refine gPT trivial rfl rfl rfl rfl rfl rfl ?_
          refine rg_nil (fun _=>by kernel_rfl) ?_
          refine cT rfl rfl ?_
          refine vc_seq ?_
          refine vc_region hm ?_
          refine gM trivial (.inr rfl) rfl rfl rfl ?_
          refine rg_nil nofun ?_
          refine vc_ret ?_
          exact ⟨idm,ends0 (.inr rfl) rfl (eqB (stOk_F3 (nu_1 (j:=j) (by omega) (num_F (by omega))))) rfl rfl rfl⟩
         ·skip
          have p63:=of_decide_eq_false c63
          refine gF ⟨_,_,rfl,rfl,c63⟩ rfl rfl rfl rfl rfl ?_
          refine gL ⟨_,_,rfl,rfl,c63⟩ rfl rfl rfl rfl rfl rfl rfl rfl ?_
          refine gM ⟨_,_,rfl,rfl,c63⟩ (.inl rfl) rfl rfl rfl ?_
          refine gX ⟨_,_,rfl,rfl,c63⟩ rfl rfl rfl rfl rfl rfl rfl rfl (by omega) (by omega) rI_ne ?_
          refine gL ⟨_,_,rfl,rfl,c63⟩ rfl rfl rfl rfl rfl rfl rfl (lI (by omega) (by omega)) ?_
          refine gI ⟨_,_,rfl,rfl,c63⟩ rfl rfl rfl rfl rfl rfl ?_
          refine gPF trivial rfl rfl c63 rfl rfl rfl ?_
          refine gM trivial (.inl rfl) rfl rfl rfl ?_
          refine gI2 (d:=71) rfl (fun c71=>?_) (fun c71=>?_)
          ·skip
           have p71:=of_decide_eq_true c71
           refine gO ⟨_,_,rfl,rfl,c71⟩ rfl rfl ?_
           refine gO ⟨_,_,rfl,rfl,c71⟩ rfl rfl ?_
           refine gO ⟨_,_,rfl,rfl,c71⟩ rfl rfl ?_
           refine gO ⟨_,_,rfl,rfl,c71⟩ rfl rfl ?_
           refine gO ⟨_,_,rfl,rfl,c71⟩ rfl rfl ?_
           refine gO ⟨_,_,rfl,rfl,c71⟩ rfl rfl ?_
           refine gPT trivial rfl rfl c71 rfl rfl rfl ?_
           refine rg_nil (fun _=>by kernel_rfl) ?_
           refine cT rfl rfl ?_
           refine vc_seq ?_
           refine vc_region hm ?_
           refine gM trivial (.inr rfl) rfl rfl rfl ?_
           refine rg_nil nofun ?_
           refine vc_ret ?_
           exact ⟨idm,ends0 (.inr rfl) rfl (eqB (stOk_F3 (nu_1 (j:=j) (by omega) (num_F (by omega))))) rfl rfl rfl⟩
          ·skip
           have p71:=of_decide_eq_false c71
           refine gF ⟨_,_,rfl,rfl,c71⟩ rfl rfl rfl rfl rfl ?_
           refine gL ⟨_,_,rfl,rfl,c71⟩ rfl rfl rfl rfl rfl rfl rfl rfl ?_
           refine gM ⟨_,_,rfl,rfl,c71⟩ (.inl rfl) rfl rfl rfl ?_
           refine gX ⟨_,_,rfl,rfl,c71⟩ rfl rfl rfl rfl rfl rfl rfl rfl (by omega) (by omega) rI_ne ?_
           refine gL ⟨_,_,rfl,rfl,c71⟩ rfl rfl rfl rfl rfl rfl rfl (lI (by omega) (by omega)) ?_
           refine gI ⟨_,_,rfl,rfl,c71⟩ rfl rfl rfl rfl rfl rfl ?_
           refine gPF trivial rfl rfl c71 rfl rfl rfl ?_
           refine rg_nil (fun _=>by kernel_rfl) ?_
           refine cI rfl (fun c78=>?_) (fun c78=>?_)
           ·skip
            have p78:=of_decide_eq_true c78
            refine vc_seq ?_
            refine vc_region hm ?_
            refine gM trivial (.inr rfl) rfl rfl rfl ?_
            refine rg_nil nofun ?_
            refine vc_ret ?_
            exact ⟨idm,ends0 (.inr rfl) rfl (eqB (stOk_F3 (nu_1 (j:=j) (by omega) (num_F (by omega))))) rfl rfl rfl⟩
           ·skip
            have p78:=of_decide_eq_false c78
            refine vc_skip ?_
            refine vc_region hm ?_
            refine gM trivial (.inl rfl) rfl rfl rfl ?_
            refine gA trivial rfl rfl rfl rfl rfl rfl (by omega) ?_
            refine gM trivial (.inr rfl) rfl rfl rfl ?_
            refine rg_nil nofun ?_
            exact lp_next (m:=idm) ⟨j + 1,(by omega),(nu_s ha (num_T (by omega))),rfl,rfl⟩ (by omega) (le_mk rfl ⟨⟨rfl,rfl⟩,⟨rfl,rfl⟩,trivial⟩ ⟨kFlat (hls_flat (rS_flat s.now)) rfl id rfl,kFlat (rS_flat s.sure) rfl id rfl,kFlat (rI_flat s.last) rfl id rfl,kFlat (rI_flat s.slast) rfl id rfl,kFlat (rI_flat s.fl) rfl id rfl,kCells rfl rfl id rfl,trivial⟩ rfl (fun _ _=>rfl))
      ·skip
       have p33:=of_decide_eq_false c33
       refine vc_exit ?_
       refine vc_seq ?_
       refine vc_region hm ?_
       refine gM trivial (.inr rfl) rfl rfl rfl ?_
       refine rg_nil nofun ?_
       refine vc_ret ?_
       exact ⟨idm,ends0 (.inr rfl) rfl (eqB (stOk_E (by unfold lens3;omega) (txOk_3 n8).2 (txOk_3 n14).2 hj p33 ha)) rfl rfl rfl⟩
theorem impl_StoreOk_c {s:Stv} {kk cc:Nat} (hz:StSz s):FDoes Try.prog 23 [.agg #[.slice (some ⟨0,kk,none⟩) s.now.length cc,.slice (some ⟨1,0,none⟩) s.sure.length 0,.slice (some ⟨2,0,none⟩) s.last.length 0,.slice (some ⟨3,0,none⟩) s.slast.length 0,.slice (some ⟨4,0,none⟩) s.fl.length 0]] (hp [(0,false,one ⟨hls kk (rS s.now),9,0⟩),(1,false,one ⟨rS s.sure,9,0⟩),(2,false,one ⟨rI s.last,3,0⟩),(3,false,one ⟨rI s.slast,3,0⟩),(4,false,one ⟨rI s.fl,3,0⟩)]) { v:=.bool (stOk s),rd:=[0,1,2,3,4] }:=by
 have hm:Try.prog.follows .mixedOrders=true:=by kernel_rfl
 have hd_:∀ x_ ∈ ([(0,false,one ⟨hls kk (rS s.now),9,0⟩),(1,false,one ⟨rS s.sure,9,0⟩),(2,false,one ⟨rI s.last,3,0⟩),(3,false,one ⟨rI s.slast,3,0⟩),(4,false,one ⟨rI s.fl,3,0⟩)]:List (Nat × Bool × Fam)),∀ k_ y_,x_.2.2 k_=some y_→DetB (lt 5) y_:=by
  intro x_ hx k_ y_ e
  simp only [List.mem_cons,List.not_mem_nil,or_false] at hx
  rcases hx with rfl|rfl|rfl|rfl|rfl
  ·exact det_row (hls_flat (rS_flat s.now)) e
  ·exact det_row (rS_flat s.sure) e
  ·exact det_row (rI_flat s.last) e
  ·exact det_row (rI_flat s.slast) e
  ·exact det_row (rI_flat s.fl) e
 have z0:=hz.a0
 have z1:=hz.a1
 have z2:=hz.a2
 have z3:=hz.a3
 have z4:=hz.a4
 refine fn_exact (u0:=5) Try.func23 rfl rfl (gets rfl rfl rfl hd_ rfl) ?_
 clear hd_
 refine vc_seq ?_
 refine vc_region hm ?_
 refine gB (u':=6) trivial rfl rfl rfl rfl rfl rfl rfl rfl ?_
 refine gM trivial (.inr rfl) rfl rfl rfl ?_
 refine rg_nil nofun ?_
 refine vc_seq ?_
 refine vc_seq ?_
 refine vc_region hm ?_
 refine gF trivial rfl rfl rfl rfl rfl ?_
 refine gL trivial rfl rfl rfl rfl rfl rfl rfl rfl ?_
 refine gK trivial rfl rfl rfl rfl rfl rfl (hls_nil rS_nil) ?_
 refine gI trivial rfl rfl rfl rfl rfl rfl ?_
 refine gM trivial (.inl rfl) rfl rfl rfl ?_
 refine gI2 (d:=9) rfl (fun c9=>?_) (fun c9=>?_)
 ·skip
  have p9:=bne_iff_ne.1 c9
  refine gO ⟨_,_,rfl,rfl,c9⟩ rfl rfl ?_
  refine gO ⟨_,_,rfl,rfl,c9⟩ rfl rfl ?_
  refine gO ⟨_,_,rfl,rfl,c9⟩ rfl rfl ?_
  refine gO ⟨_,_,rfl,rfl,c9⟩ rfl rfl ?_
  refine gPT trivial rfl rfl c9 rfl rfl rfl ?_
  refine gM trivial (.inl rfl) rfl rfl rfl ?_
  refine gO ⟨_,_,rfl,rfl,rfl⟩ rfl rfl ?_
  refine gO ⟨_,_,rfl,rfl,rfl⟩ rfl rfl ?_
  refine gO ⟨_,_,rfl,rfl,rfl⟩ rfl rfl ?_
  refine gO ⟨_,_,rfl,rfl,rfl⟩ rfl rfl ?_
  refine gPT trivial rfl rfl rfl rfl rfl rfl ?_
  refine gM trivial (.inl rfl) rfl rfl rfl ?_
  refine gO ⟨_,_,rfl,rfl,rfl⟩ rfl rfl ?_
  refine gO ⟨_,_,rfl,rfl,rfl⟩ rfl rfl ?_
  refine gO ⟨_,_,rfl,rfl,rfl⟩ rfl rfl ?_
  refine gO ⟨_,_,rfl,rfl,rfl⟩ rfl rfl ?_
  refine gPT trivial rfl rfl rfl rfl rfl rfl ?_
  refine gM trivial (.inl rfl) rfl rfl rfl ?_
  refine gO ⟨_,_,rfl,rfl,rfl⟩ rfl rfl ?_
  refine gO ⟨_,_,rfl,rfl,rfl⟩ rfl rfl ?_
  refine gO ⟨_,_,rfl,rfl,rfl⟩ rfl rfl ?_
  refine gO ⟨_,_,rfl,rfl,rfl⟩ rfl rfl ?_
  refine gPT trivial rfl rfl rfl rfl rfl rfl ?_
  refine rg_nil nofun ?_
  refine cT rfl rfl ?_
  refine vc_seq ?_
  refine vc_region hm ?_
  refine gM trivial (.inr rfl) rfl rfl rfl ?_
  refine rg_nil nofun ?_
  refine vc_ret ?_
  exact ⟨idm,ends0 (.inr rfl) rfl (eqB (by first|exact stOk_tn (by assumption)|exact stOk_ts (by assumption)|exact stOk_F0 (fun q=>by unfold lens3 at q;omega))) rfl rfl rfl⟩
 ·skip
  have p9:=bne_eq_false_iff_eq.1 c9
  refine gF ⟨_,_,rfl,rfl,c9⟩ rfl rfl rfl rfl rfl ?_
  refine gL ⟨_,_,rfl,rfl,c9⟩ rfl rfl rfl rfl rfl rfl rfl rfl ?_
  refine gK ⟨_,_,rfl,rfl,c9⟩ rfl rfl rfl rfl rfl rfl rS_nil ?_
  refine gI ⟨_,_,rfl,rfl,c9⟩ rfl rfl rfl rfl rfl rfl ?_
  refine gPF trivial rfl rfl c9 rfl rfl rfl ?_
  refine gM trivial (.inl rfl) rfl rfl rfl ?_
  refine gI2 (d:=15) rfl (fun c15=>?_) (fun c15=>?_)
  ·skip
   have p15:=bne_iff_ne.1 c15
   refine gO ⟨_,_,rfl,rfl,c15⟩ rfl rfl ?_
   refine gO ⟨_,_,rfl,rfl,c15⟩ rfl rfl ?_
   refine gO ⟨_,_,rfl,rfl,c15⟩ rfl rfl ?_
   refine gO ⟨_,_,rfl,rfl,c15⟩ rfl rfl ?_
   refine gPT trivial rfl rfl c15 rfl rfl rfl ?_
   refine gM trivial (.inl rfl) rfl rfl rfl ?_
   refine gO ⟨_,_,rfl,rfl,rfl⟩ rfl rfl ?_
   refine gO ⟨_,_,rfl,rfl,rfl⟩ rfl rfl ?_
   refine gO ⟨_,_,rfl,rfl,rfl⟩ rfl rfl ?_
   refine gO ⟨_,_,rfl,rfl,rfl⟩ rfl rfl ?_
   refine gPT trivial rfl rfl rfl rfl rfl rfl ?_
   refine gM trivial (.inl rfl) rfl rfl rfl ?_
   refine gO ⟨_,_,rfl,rfl,rfl⟩ rfl rfl ?_
   refine gO ⟨_,_,rfl,rfl,rfl⟩ rfl rfl ?_
   refine gO ⟨_,_,rfl,rfl,rfl⟩ rfl rfl ?_
   refine gO ⟨_,_,rfl,rfl,rfl⟩ rfl rfl ?_
   refine gPT trivial rfl rfl rfl rfl rfl rfl ?_
   refine rg_nil nofun ?_
   refine cT rfl rfl ?_
   refine vc_seq ?_
   refine vc_region hm ?_
   refine gM trivial (.inr rfl) rfl rfl rfl ?_
   refine rg_nil nofun ?_
   refine vc_ret ?_
   exact ⟨idm,ends0 (.inr rfl) rfl (eqB (by first|exact stOk_tn (by assumption)|exact stOk_ts (by assumption)|exact stOk_F0 (fun q=>by unfold lens3 at q;omega))) rfl rfl rfl⟩
  ·skip
   have p15:=bne_eq_false_iff_eq.1 c15
   refine gF ⟨_,_,rfl,rfl,c15⟩ rfl rfl rfl rfl rfl ?_
   refine gL ⟨_,_,rfl,rfl,c15⟩ rfl rfl rfl rfl rfl rfl rfl rfl ?_
   refine gK ⟨_,_,rfl,rfl,c15⟩ rfl rfl rfl rfl rfl rfl rI_nil ?_
   refine gI ⟨_,_,rfl,rfl,c15⟩ rfl rfl rfl rfl rfl rfl ?_
   refine gPF trivial rfl rfl c15 rfl rfl rfl ?_
   refine gM trivial (.inl rfl) rfl rfl rfl ?_
   refine gI2 (d:=21) rfl (fun c21=>?_) (fun c21=>?_)
   ·skip
    have p21:=bne_iff_ne.1 c21
    refine gO ⟨_,_,rfl,rfl,c21⟩ rfl rfl ?_
    refine gO ⟨_,_,rfl,rfl,c21⟩ rfl rfl ?_
    refine gO ⟨_,_,rfl,rfl,c21⟩ rfl rfl ?_
    refine gO ⟨_,_,rfl,rfl,c21⟩ rfl rfl ?_
    refine gPT trivial rfl rfl c21 rfl rfl rfl ?_
    refine gM trivial (.inl rfl) rfl rfl rfl ?_
    refine gO ⟨_,_,rfl,rfl,rfl⟩ rfl rfl ?_
    refine gO ⟨_,_,rfl,rfl,rfl⟩ rfl rfl ?_
    refine gO ⟨_,_,rfl,rfl,rfl⟩ rfl rfl ?_
    refine gO ⟨_,_,rfl,rfl,rfl⟩ rfl rfl ?_
    refine gPT trivial rfl rfl rfl rfl rfl rfl ?_
    refine rg_nil nofun ?_
    refine cT rfl rfl ?_
    refine vc_seq ?_
    refine vc_region hm ?_
    refine gM trivial (.inr rfl) rfl rfl rfl ?_
    refine rg_nil nofun ?_
    refine vc_ret ?_
    exact ⟨idm,ends0 (.inr rfl) rfl (eqB (by first|exact stOk_tn (by assumption)|exact stOk_ts (by assumption)|exact stOk_F0 (fun q=>by unfold lens3 at q;omega))) rfl rfl rfl⟩
   ·skip
    have p21:=bne_eq_false_iff_eq.1 c21
    refine gF ⟨_,_,rfl,rfl,c21⟩ rfl rfl rfl rfl rfl ?_
    refine gL ⟨_,_,rfl,rfl,c21⟩ rfl rfl rfl rfl rfl rfl rfl rfl ?_
    refine gK ⟨_,_,rfl,rfl,c21⟩ rfl rfl rfl rfl rfl rfl rI_nil ?_
    refine gI ⟨_,_,rfl,rfl,c21⟩ rfl rfl rfl rfl rfl rfl ?_
    refine gPF trivial rfl rfl c21 rfl rfl rfl ?_
    refine gM trivial (.inl rfl) rfl rfl rfl ?_
    refine gI2 (d:=27) rfl (fun c27=>?_) (fun c27=>?_)
    ·skip
     have p27:=bne_iff_ne.1 c27
     refine gO ⟨_,_,rfl,rfl,c27⟩ rfl rfl ?_
     refine gO ⟨_,_,rfl,rfl,c27⟩ rfl rfl ?_
     refine gO ⟨_,_,rfl,rfl,c27⟩ rfl rfl ?_
     refine gO ⟨_,_,rfl,rfl,c27⟩ rfl rfl ?_
     refine gPT trivial rfl rfl c27 rfl rfl rfl ?_
     refine rg_nil nofun ?_
     refine cT rfl rfl ?_
     refine vc_seq ?_
     refine vc_region hm ?_
     refine gM trivial (.inr rfl) rfl rfl rfl ?_
     refine rg_nil nofun ?_
     refine vc_ret ?_
     exact ⟨idm,ends0 (.inr rfl) rfl (eqB (by first|exact stOk_tn (by assumption)|exact stOk_ts (by assumption)|exact stOk_F0 (fun q=>by unfold lens3 at q;omega))) rfl rfl rfl⟩
    ·skip
     have p27:=bne_eq_false_iff_eq.1 c27
     refine gF ⟨_,_,rfl,rfl,c27⟩ rfl rfl rfl rfl rfl ?_
     refine gL ⟨_,_,rfl,rfl,c27⟩ rfl rfl rfl rfl rfl rfl rfl rfl ?_
     refine gK ⟨_,_,rfl,rfl,c27⟩ rfl rfl rfl rfl rfl rfl rI_nil ?_
     refine gI ⟨_,_,rfl,rfl,c27⟩ rfl rfl rfl rfl rfl rfl ?_
     refine gPF trivial rfl rfl c27 rfl rfl rfl ?_
     refine rg_nil nofun ?_
     refine cI rfl (fun c32=>?_) (fun c32=>?_)
     ·skip
      have p32:=bne_iff_ne.1 c32
      refine vc_seq ?_
      refine vc_region hm ?_
      refine gM trivial (.inr rfl) rfl rfl rfl ?_
      refine rg_nil nofun ?_
      refine vc_ret ?_
      exact ⟨idm,ends0 (.inr rfl) rfl (eqB (by first|exact stOk_tn (by assumption)|exact stOk_ts (by assumption)|exact stOk_F0 (fun q=>by unfold lens3 at q;omega))) rfl rfl rfl⟩
     ·skip
      have p32:=bne_eq_false_iff_eq.1 c32
      refine vc_skip ?_
      refine vc_seq ?_
      refine vc_seq ?_
      refine vc_region hm ?_
      refine gM trivial (.inl rfl) rfl rfl rfl ?_
      refine rg_nil nofun ?_
      refine vc_block ?_
      refine vc_loop' (fun n_ S_=>∃ (j:Nat),j≤3∧txAll s.now j=true∧txAll s.sure j=true∧n_=3 - j∧S_=⟨6,[(1,.pointer (some ⟨5,0,none⟩)),(33,.int .i64 j)],[(0,false,one ⟨hls kk (rS s.now),9,0⟩),(1,false,one ⟨rS s.sure,9,0⟩),(2,false,one ⟨rI s.last,3,0⟩),(3,false,one ⟨rI s.slast,3,0⟩),(4,false,one ⟨rI s.fl,3,0⟩),(5,true,one ⟨[.slice (some ⟨0,kk,none⟩) s.now.length cc,.slice (some ⟨1,0,none⟩) s.sure.length 0,.slice (some ⟨2,0,none⟩) s.last.length 0,.slice (some ⟨3,0,none⟩) s.slast.length 0,.slice (some ⟨4,0,none⟩) s.fl.length 0],26,5⟩)]⟩) (m0:=idm) ⟨0,Nat.zero_le _,rfl,rfl,rfl,rfl⟩ (le_mk rfl ⟨⟨rfl,rfl⟩,⟨rfl,rfl⟩,trivial⟩ ⟨kFlat (hls_flat (rS_flat s.now)) rfl id rfl,kFlat (rS_flat s.sure) rfl id rfl,kFlat (rI_flat s.last) rfl id rfl,kFlat (rI_flat s.slast) rfl id rfl,kFlat (rI_flat s.fl) rfl id rfl,kCells rfl rfl id rfl,trivial⟩ rfl (fun _ _=>rfl)) ?_
      rintro n_ S_ ⟨j,hj,ha,hb,rfl,rfl⟩
      refine vc_seq ?_
      refine vc_region hm ?_
      refine gI trivial rfl rfl rfl rfl rfl rfl ?_
      refine rg_nil nofun ?_
      refine vc_seq ?_
      refine cI rfl (fun c34=>?_) (fun c34=>?_)
      ·skip
       have p34:=of_decide_eq_true c34
       refine vc_skip ?_
       refine vc_seq ?_
       refine vc_block ?_
       refine vc_seq ?_
       refine vc_region hm ?_
       refine gM trivial (.inl rfl) rfl rfl rfl ?_
       refine gM trivial (.inr rfl) rfl rfl rfl ?_
       refine rg_nil nofun ?_
       refine vc_seq ?_
       refine vc_region hm ?_
       refine gF trivial rfl rfl rfl rfl rfl ?_
       refine gL trivial rfl rfl rfl rfl rfl rfl rfl rfl ?_
       refine gM trivial (.inl rfl) rfl rfl rfl ?_
       refine gX trivial rfl rfl rfl rfl rfl rfl rfl rfl (by omega) (by omega) (fun h=>hls_ne (rS_ne h)) ?_
       refine gL trivial rfl rfl rfl rfl rfl rfl rfl (wR (lS (by omega) (by omega)) rfl) ?_
       refine gC0 [] (impl_TextOk_c (s:=(at_ s.now (j:Int))) (by have:=hz.b0 _ (at_mem (l:=s.now) (i:=(j:Int)) (by omega) (by omega));omega)) trivial rfl rfl rfl rfl (by trivial) rfl rfl rfl rfl rfl ?_
       refine gN trivial rfl rfl rfl rfl ?_
       refine gM trivial (.inl rfl) rfl rfl rfl ?_
       refine gI2 (d:=43) rfl (fun c43=>?_) (fun c43=>?_)
       ·skip
        have n43:=unT c43
        refine gO ⟨_,_,rfl,rfl,c43⟩ rfl rfl ?_
        refine gO ⟨_,_,rfl,rfl,c43⟩ rfl rfl ?_
        refine gO ⟨_,_,rfl,rfl,c43⟩ rfl rfl ?_
        refine gO ⟨_,_,rfl,rfl,c43⟩ rfl rfl ?_
        refine gO ⟨_,_,rfl,rfl,c43⟩ rfl rfl ?_
        refine gO ⟨_,_,rfl,rfl,c43⟩ rfl rfl ?_
        refine gO ⟨_,_,rfl,rfl,c43⟩ rfl rfl ?_
        refine gPT trivial rfl rfl c43 rfl rfl rfl ?_
        refine rg_nil nofun ?_
        refine cT rfl rfl ?_
        refine vc_seq ?_
        refine vc_region hm ?_
        refine gM trivial (.inr rfl) rfl rfl rfl ?_
        refine rg_nil nofun ?_
        refine vc_ret ?_
        exact ⟨idm,ends0 (.inr rfl) rfl (eqB (stOk_F1 (tx_1 (j:=j) (by omega) n43))) rfl rfl rfl⟩
       ·skip
        have n43:=unF c43
        refine gF ⟨_,_,rfl,rfl,c43⟩ rfl rfl rfl rfl rfl ?_
        refine gL ⟨_,_,rfl,rfl,c43⟩ rfl rfl rfl rfl rfl rfl rfl rfl ?_
        refine gM ⟨_,_,rfl,rfl,c43⟩ (.inl rfl) rfl rfl rfl ?_
        refine gX ⟨_,_,rfl,rfl,c43⟩ rfl rfl rfl rfl rfl rfl rfl rfl (by omega) (by omega) rS_ne ?_
        refine gL ⟨_,_,rfl,rfl,c43⟩ rfl rfl rfl rfl rfl rfl rfl (lS (by omega) (by omega)) ?_
        refine gC0 [] (impl_TextOk_c (s:=(at_ s.sure (j:Int))) (by have:=hz.b1 _ (at_mem (l:=s.sure) (i:=(j:Int)) (by omega) (by omega));omega)) ⟨_,_,rfl,rfl,c43⟩ rfl rfl rfl rfl (by trivial) rfl rfl rfl rfl rfl ?_
        refine gN ⟨_,_,rfl,rfl,c43⟩ rfl rfl rfl rfl ?_
        refine gPF trivial rfl rfl c43 rfl rfl rfl ?_
        refine rg_nil nofun ?_
        refine cI rfl (fun c51=>?_) (fun c51=>?_)
        ·skip
         have n51:=unT c51
         refine vc_seq ?_
         refine vc_region hm ?_
         refine gM trivial (.inr rfl) rfl rfl rfl ?_
         refine rg_nil nofun ?_
         refine vc_ret ?_
         exact ⟨idm,ends0 (.inr rfl) rfl (eqB (stOk_F2 (tx_1 (j:=j) (by omega) n51))) rfl rfl rfl⟩
        ·skip
         have n51:=unF c51
         refine vc_skip ?_
         refine vc_region hm ?_
         refine gA trivial rfl rfl rfl rfl rfl rfl (by omega) ?_
         refine gM trivial (.inl rfl) rfl rfl rfl ?_
         refine rg_nil nofun ?_
         exact lp_next (m:=idm) ⟨j + 1,(by omega),(tx_s ha n43),(tx_s hb n51),rfl,rfl⟩ (by omega) (le_mk rfl ⟨⟨rfl,rfl⟩,⟨rfl,rfl⟩,trivial⟩ ⟨kFlat (hls_flat (rS_flat s.now)) rfl id rfl,kFlat (rS_flat s.sure) rfl id rfl,kFlat (rI_flat s.last) rfl id rfl,kFlat (rI_flat s.slast) rfl id rfl,kFlat (rI_flat s.fl) rfl id rfl,kCells rfl rfl id rfl,trivial⟩ rfl (fun _ _=>rfl))
      ·skip
       have p34:=of_decide_eq_false c34
       refine vc_exit ?_
       refine vc_seq ?_
       refine vc_seq ?_
       refine vc_region hm ?_
       refine gM trivial (.inl rfl) rfl rfl rfl ?_
       refine rg_nil nofun ?_
       refine vc_block ?_
       refine vc_loop' (fun n_ S_=>∃ (i:Nat),i≤3∧numAll s i=true∧n_=3 - i∧S_=⟨6,[(1,.pointer (some ⟨5,0,none⟩)),(53,.int .i64 i)],[(0,false,one ⟨hls kk (rS s.now),9,0⟩),(1,false,one ⟨rS s.sure,9,0⟩),(2,false,one ⟨rI s.last,3,0⟩),(3,false,one ⟨rI s.slast,3,0⟩),(4,false,one ⟨rI s.fl,3,0⟩),(5,true,one ⟨[.slice (some ⟨0,kk,none⟩) s.now.length cc,.slice (some ⟨1,0,none⟩) s.sure.length 0,.slice (some ⟨2,0,none⟩) s.last.length 0,.slice (some ⟨3,0,none⟩) s.slast.length 0,.slice (some ⟨4,0,none⟩) s.fl.length 0],26,5⟩)]⟩) (m0:=idm) ⟨0,Nat.zero_le _,rfl,rfl,rfl⟩ (le_mk rfl ⟨⟨rfl,rfl⟩,⟨rfl,rfl⟩,trivial⟩ ⟨kFlat (hls_flat (rS_flat s.now)) rfl id rfl,kFlat (rS_flat s.sure) rfl id rfl,kFlat (rI_flat s.last) rfl id rfl,kFlat (rI_flat s.slast) rfl id rfl,kFlat (rI_flat s.fl) rfl id rfl,kCells rfl rfl id rfl,trivial⟩ rfl (fun _ _=>rfl)) ?_
       rintro n_ S_ ⟨i,hi,hc,rfl,rfl⟩
       refine vc_seq ?_
       refine vc_region hm ?_
       refine gI trivial rfl rfl rfl rfl rfl rfl ?_
       refine rg_nil nofun ?_
       refine vc_seq ?_
       refine cI rfl (fun c54=>?_) (fun c54=>?_)
       ·skip
        have p54:=of_decide_eq_true c54
        refine vc_skip ?_
        refine vc_seq ?_
        refine vc_block ?_
        refine vc_seq ?_
        refine vc_region hm ?_
        refine gM trivial (.inl rfl) rfl rfl rfl ?_
        refine gM trivial (.inr rfl) rfl rfl rfl ?_
        refine rg_nil nofun ?_
        refine vc_seq ?_
        refine vc_region hm ?_
        refine gF trivial rfl rfl rfl rfl rfl ?_
        refine gL trivial rfl rfl rfl rfl rfl rfl rfl rfl ?_
        refine gM trivial (.inl rfl) rfl rfl rfl ?_
        refine gX trivial rfl rfl rfl rfl rfl rfl rfl rfl (by omega) (by omega) rI_ne ?_
        refine gL trivial rfl rfl rfl rfl rfl rfl rfl (lI (by omega) (by omega)) ?_
        refine gI trivial rfl rfl rfl rfl rfl rfl ?_
        refine gM trivial (.inl rfl) rfl rfl rfl ?_
        refine gI2 (d:=62) rfl (fun c62=>?_) (fun c62=>?_)
        ·skip
         have p62:=of_decide_eq_true c62
         refine gO ⟨_,_,rfl,rfl,c62⟩ rfl rfl ?_
         refine gO ⟨_,_,rfl,rfl,c62⟩ rfl rfl ?_
         refine gO ⟨_,_,rfl,rfl,c62⟩ rfl rfl ?_
         refine gO ⟨_,_,rfl,rfl,c62⟩ rfl rfl ?_
         refine gO ⟨_,_,rfl,rfl,c62⟩ rfl rfl ?_
         refine gO ⟨_,_,rfl,rfl,c62⟩ rfl rfl ?_
         refine gO ⟨_,_,rfl,rfl,c62⟩ rfl rfl ?_
         refine gO ⟨_,_,rfl,rfl,c62⟩ rfl rfl ?_
         refine gO ⟨_,_,rfl,rfl,c62⟩ rfl rfl ?_
         refine gO ⟨_,_,rfl,rfl,c62⟩ rfl rfl ?_
         refine gO ⟨_,_,rfl,rfl,c62⟩ rfl rfl ?_
         refine gPT trivial rfl rfl c62 rfl rfl rfl ?_
         refine gM trivial (.inl rfl) rfl rfl rfl ?_
         refine gO ⟨_,_,rfl,rfl,rfl⟩ rfl rfl ?_
         refine gO ⟨_,_,rfl,rfl,rfl⟩ rfl rfl ?_
         refine gO ⟨_,_,rfl,rfl,rfl⟩ rfl rfl ?_
         refine gO ⟨_,_,rfl,rfl,rfl⟩ rfl rfl ?_
         refine gO ⟨_,_,rfl,rfl,rfl⟩ rfl rfl ?_
         refine gO ⟨_,_,rfl,rfl,rfl⟩ rfl rfl ?_
         refine gPT trivial rfl rfl rfl rfl rfl rfl ?_
         refine gM trivial (.inl rfl) rfl rfl rfl ?_
         refine gO ⟨_,_,rfl,rfl,rfl⟩ rfl rfl ?_
         refine gO ⟨_,_,rfl,rfl,rfl⟩ rfl rfl ?_
         refine gO ⟨_,_,rfl,rfl,rfl⟩ rfl rfl ?_
         refine gO ⟨_,_,rfl,rfl,rfl⟩ rfl rfl ?_
         refine gO ⟨_,_,rfl,rfl,rfl⟩ rfl rfl ?_
         refine gO ⟨_,_,rfl,rfl,rfl⟩ rfl rfl ?_
         refine gPT trivial rfl rfl rfl rfl rfl rfl ?_
         refine gM trivial (.inl rfl) rfl rfl rfl ?_
         refine gO ⟨_,_,rfl,rfl,rfl⟩ rfl rfl ?_
         refine gO ⟨_,_,rfl,rfl,rfl⟩ rfl rfl ?_
         refine gO ⟨_,_,rfl,rfl,rfl⟩ rfl rfl ?_
         refine gO ⟨_,_,rfl,rfl,rfl⟩ rfl rfl ?_
         refine gO ⟨_,_,rfl,rfl,rfl⟩ rfl rfl ?_
         refine gO ⟨_,_,rfl,rfl,rfl⟩ rfl rfl ?_
         refine gPT trivial rfl rfl rfl rfl rfl rfl ?_
         refine rg_nil (fun _=>by kernel_rfl) ?_
         refine cT rfl rfl ?_
         refine vc_seq ?_
         refine vc_region hm ?_
         refine gM trivial (.inr rfl) rfl rfl rfl ?_
         refine rg_nil nofun ?_
         refine vc_ret ?_
         exact ⟨idm,ends0 (.inr rfl) rfl (eqB (stOk_F3 (nu_1 (j:=i) (by omega) (num_F (by omega))))) rfl rfl rfl⟩
        ·skip
         have p62:=of_decide_eq_false c62
         refine gF ⟨_,_,rfl,rfl,c62⟩ rfl rfl rfl rfl rfl ?_
         refine gL ⟨_,_,rfl,rfl,c62⟩ rfl rfl rfl rfl rfl rfl rfl rfl ?_
         refine gM ⟨_,_,rfl,rfl,c62⟩ (.inl rfl) rfl rfl rfl ?_
         refine gX ⟨_,_,rfl,rfl,c62⟩ rfl rfl rfl rfl rfl rfl rfl rfl (by omega) (by omega) rI_ne ?_
         refine gL ⟨_,_,rfl,rfl,c62⟩ rfl rfl rfl rfl rfl rfl rfl (lI (by omega) (by omega)) ?_
         refine gF ⟨_,_,rfl,rfl,c62⟩ rfl rfl rfl rfl rfl ?_
         refine gL ⟨_,_,rfl,rfl,c62⟩ rfl rfl rfl rfl rfl rfl rfl rfl ?_
         refine gM ⟨_,_,rfl,rfl,c62⟩ (.inl rfl) rfl rfl rfl ?_
         refine gX ⟨_,_,rfl,rfl,c62⟩ rfl rfl rfl rfl rfl rfl rfl rfl (by omega) (by omega) rI_ne ?_
         refine gL ⟨_,_,rfl,rfl,c62⟩ rfl rfl rfl rfl rfl rfl rfl (lI (by omega) (by omega)) ?_
         refine gI ⟨_,_,rfl,rfl,c62⟩ rfl rfl rfl rfl rfl rfl ?_
         refine gPF trivial rfl rfl c62 rfl rfl rfl ?_
         refine gM trivial (.inl rfl) rfl rfl rfl ?_
         refine gI2 (d:=75) rfl (fun c75=>?_) (fun c75=>?_)
         ·skip
          have p75:=of_decide_eq_true c75
          refine gO ⟨_,_,rfl,rfl,c75⟩ rfl rfl ?_
          refine gO ⟨_,_,rfl,rfl,c75⟩ rfl rfl ?_
          refine gO ⟨_,_,rfl,rfl,c75⟩ rfl rfl ?_
          refine gO ⟨_,_,rfl,rfl,c75⟩ rfl rfl ?_
          refine gO ⟨_,_,rfl,rfl,c75⟩ rfl rfl ?_
          refine gO ⟨_,_,rfl,rfl,c75⟩ rfl rfl ?_
          refine gPT trivial rfl rfl c75 rfl rfl rfl ?_
          refine gM trivial (.inl rfl) rfl rfl rfl ?_
          refine gO ⟨_,_,rfl,rfl,rfl⟩ rfl rfl ?_
          refine gO ⟨_,_,rfl,rfl,rfl⟩ rfl rfl ?_
          refine gO ⟨_,_,rfl,rfl,rfl⟩ rfl rfl ?_
          refine gO ⟨_,_,rfl,rfl,rfl⟩ rfl rfl ?_
          refine gO ⟨_,_,rfl,rfl,rfl⟩ rfl rfl ?_
          refine gO ⟨_,_,rfl,rfl,rfl⟩ rfl rfl ?_
          refine gPT trivial rfl rfl rfl rfl rfl rfl ?_
          refine gM trivial (.inl rfl) rfl rfl rfl ?_
          refine gO ⟨_,_,rfl,rfl,rfl⟩ rfl rfl ?_
          refine gO ⟨_,_,rfl,rfl,rfl⟩ rfl rfl ?_
          refine gO ⟨_,_,rfl,rfl,rfl⟩ rfl rfl ?_
          refine gO ⟨_,_,rfl,rfl,rfl⟩ rfl rfl ?_
          refine gO ⟨_,_,rfl,rfl,rfl⟩ rfl rfl ?_
          refine gO ⟨_,_,rfl,rfl,rfl⟩ rfl rfl ?_
          refine gPT trivial rfl rfl rfl rfl rfl rfl ?_
          refine rg_nil (fun _=>by kernel_rfl) ?_
          refine cT rfl rfl ?_
          refine vc_seq ?_
          refine vc_region hm ?_
          refine gM trivial (.inr rfl) rfl rfl rfl ?_
          refine rg_nil nofun ?_
          refine vc_ret ?_
          exact ⟨idm,ends0 (.inr rfl) rfl (eqB (stOk_F3 (nu_1 (j:=i) (by omega) (num_F (by omega))))) rfl rfl rfl⟩
         ·skip
          have p75:=of_decide_eq_false c75
          refine gF ⟨_,_,rfl,rfl,c75⟩ rfl rfl rfl rfl rfl ?_
          refine gL ⟨_,_,rfl,rfl,c75⟩ rfl rfl rfl rfl rfl rfl rfl rfl ?_
          refine gM ⟨_,_,rfl,rfl,c75⟩ (.inl rfl) rfl rfl rfl ?_
          refine gX ⟨_,_,rfl,rfl,c75⟩ rfl rfl rfl rfl rfl rfl rfl rfl (by omega) (by omega) rI_ne ?_
          refine gL ⟨_,_,rfl,rfl,c75⟩ rfl rfl rfl rfl rfl rfl rfl (lI (by omega) (by omega)) ?_
          refine gI ⟨_,_,rfl,rfl,c75⟩ rfl rfl rfl rfl rfl rfl ?_
          refine gPF trivial rfl rfl c75 rfl rfl rfl ?_
          refine gM trivial (.inl rfl) rfl rfl rfl ?_
          refine gI2 (d:=83) rfl (fun c83=>?_) (fun c83=>?_)
          ·skip
           have p83:=of_decide_eq_true c83
           refine gO ⟨_,_,rfl,rfl,c83⟩ rfl rfl ?_
           refine gO ⟨_,_,rfl,rfl,c83⟩ rfl rfl ?_
           refine gO ⟨_,_,rfl,rfl,c83⟩ rfl rfl ?_
           refine gO ⟨_,_,rfl,rfl,c83⟩ rfl rfl ?_
           refine gO ⟨_,_,rfl,rfl,c83⟩ rfl rfl ?_
           refine gO ⟨_,_,rfl,rfl,c83⟩ rfl rfl ?_
           refine gPT trivial rfl rfl c83 rfl rfl rfl ?_
           refine gM trivial (.inl rfl) rfl rfl rfl ?_
           refine gO ⟨_,_,rfl,rfl,rfl⟩ rfl rfl ?_
           refine gO ⟨_,_,rfl,rfl,rfl⟩ rfl rfl ?_
           refine gO ⟨_,_,rfl,rfl,rfl⟩ rfl rfl ?_
           refine gO ⟨_,_,rfl,rfl,rfl⟩ rfl rfl ?_
           refine gO ⟨_,_,rfl,rfl,rfl⟩ rfl rfl ?_
           refine gO ⟨_,_,rfl,rfl,rfl⟩ rfl rfl ?_
           refine gPT trivial rfl rfl rfl rfl rfl rfl ?_
           refine rg_nil (fun _=>by kernel_rfl) ?_
           refine cT rfl rfl ?_
           refine vc_seq ?_
           refine vc_region hm ?_
           refine gM trivial (.inr rfl) rfl rfl rfl ?_
           refine rg_nil nofun ?_
           refine vc_ret ?_
           exact ⟨idm,ends0 (.inr rfl) rfl (eqB (stOk_F3 (nu_1 (j:=i) (by omega) (num_F (by omega))))) rfl rfl rfl⟩
          ·skip
           have p83:=of_decide_eq_false c83
           refine gF ⟨_,_,rfl,rfl,c83⟩ rfl rfl rfl rfl rfl ?_
           refine gL ⟨_,_,rfl,rfl,c83⟩ rfl rfl rfl rfl rfl rfl rfl rfl ?_
           refine gM ⟨_,_,rfl,rfl,c83⟩ (.inl rfl) rfl rfl rfl ?_
           refine gX ⟨_,_,rfl,rfl,c83⟩ rfl rfl rfl rfl rfl rfl rfl rfl (by omega) (by omega) rI_ne ?_
           refine gL ⟨_,_,rfl,rfl,c83⟩ rfl rfl rfl rfl rfl rfl rfl (lI (by omega) (by omega)) ?_
           refine gI ⟨_,_,rfl,rfl,c83⟩ rfl rfl rfl rfl rfl rfl ?_
           refine gPF trivial rfl rfl c83 rfl rfl rfl ?_
           refine gM trivial (.inl rfl) rfl rfl rfl ?_
           refine gI2 (d:=91) rfl (fun c91=>?_) (fun c91=>?_)
           ·skip
            have p91:=of_decide_eq_true c91
            refine gO ⟨_,_,rfl,rfl,c91⟩ rfl rfl ?_
            refine gO ⟨_,_,rfl,rfl,c91⟩ rfl rfl ?_
            refine gO ⟨_,_,rfl,rfl,c91⟩ rfl rfl ?_
            refine gO ⟨_,_,rfl,rfl,c91⟩ rfl rfl ?_
            refine gO ⟨_,_,rfl,rfl,c91⟩ rfl rfl ?_
            refine gO ⟨_,_,rfl,rfl,c91⟩ rfl rfl ?_
            refine gPT trivial rfl rfl c91 rfl rfl rfl ?_
            refine rg_nil (fun _=>by kernel_rfl) ?_
            refine cT rfl rfl ?_
            refine vc_seq ?_
            refine vc_region hm ?_
            refine gM trivial (.inr rfl) rfl rfl rfl ?_
            refine rg_nil nofun ?_
            refine vc_ret ?_
            exact ⟨idm,ends0 (.inr rfl) rfl (eqB (stOk_F3 (nu_1 (j:=i) (by omega) (num_F (by omega))))) rfl rfl rfl⟩
           ·skip
            have p91:=of_decide_eq_false c91
            refine gF ⟨_,_,rfl,rfl,c91⟩ rfl rfl rfl rfl rfl ?_
            refine gL ⟨_,_,rfl,rfl,c91⟩ rfl rfl rfl rfl rfl rfl rfl rfl ?_
            refine gM ⟨_,_,rfl,rfl,c91⟩ (.inl rfl) rfl rfl rfl ?_
            refine gX ⟨_,_,rfl,rfl,c91⟩ rfl rfl rfl rfl rfl rfl rfl rfl (by omega) (by omega) rI_ne ?_
            refine gL ⟨_,_,rfl,rfl,c91⟩ rfl rfl rfl rfl rfl rfl rfl (lI (by omega) (by omega)) ?_
            refine gI ⟨_,_,rfl,rfl,c91⟩ rfl rfl rfl rfl rfl rfl ?_
            refine gPF trivial rfl rfl c91 rfl rfl rfl ?_
            refine rg_nil (fun _=>by kernel_rfl) ?_
            refine cI rfl (fun c98=>?_) (fun c98=>?_)
            ·skip
             have p98:=of_decide_eq_true c98
             refine vc_seq ?_
             refine vc_region hm ?_
             refine gM trivial (.inr rfl) rfl rfl rfl ?_
             refine rg_nil nofun ?_
             refine vc_ret ?_
             exact ⟨idm,ends0 (.inr rfl) rfl (eqB (stOk_F3 (nu_1 (j:=i) (by omega) (num_F (by omega))))) rfl rfl rfl⟩
            ·skip
             have p98:=of_decide_eq_false c98
             refine vc_skip ?_
             refine vc_region hm ?_
             refine gA trivial rfl rfl rfl rfl rfl rfl (by omega) ?_
             refine gM trivial (.inl rfl) rfl rfl rfl ?_
             refine rg_nil nofun ?_
             exact lp_next (m:=idm) ⟨i + 1,(by omega),(nu_s hc (num_T (by omega))),rfl,rfl⟩ (by omega) (le_mk rfl ⟨⟨rfl,rfl⟩,⟨rfl,rfl⟩,trivial⟩ ⟨kFlat (hls_flat (rS_flat s.now)) rfl id rfl,kFlat (rS_flat s.sure) rfl id rfl,kFlat (rI_flat s.last) rfl id rfl,kFlat (rI_flat s.slast) rfl id rfl,kFlat (rI_flat s.fl) rfl id rfl,kCells rfl rfl id rfl,trivial⟩ rfl (fun _ _=>rfl))
       ·skip
        have p54:=of_decide_eq_false c54
        refine vc_exit ?_
        refine vc_seq ?_
        refine vc_region hm ?_
        refine gM trivial (.inr rfl) rfl rfl rfl ?_
        refine rg_nil nofun ?_
        refine vc_ret ?_
        exact ⟨idm,ends0 (.inr rfl) rfl (eqB (stOk_E (by unfold lens3;omega) (by rw [show j=3 by omega] at ha;exact ha) (by rw [show j=3 by omega] at hb;exact hb) hi p54 hc)) rfl rfl rfl⟩
section
variable {P:Program} {nt:Nat} {ops:Array Oper} {draw:Bool} {rest:List Oper} {u d:Nat} {t:List (Nat × Value)} {h:List (Nat × Bool × Fam)} {acc:List Eff} {K:St→Prop} {o:Oper}
theorem gNilC {ty yt e:TypeId} {x y:Operand} {n i len c:Nat} {b:Blk} (hw:wantT (tl t) ops o) (hop:o.op = .binOp .eql ty x y yt) (hu:P.underlying ty=some (.slice e)) (hx:ev t x=some (.slice (some ⟨n,i,none⟩) len c)) (hy:ev t y=some (.slice none 0 0)) (hb:hat (hp h) n=some b) (hs:o.dst=some d) (hn:Nat.blt d nt=true) (h1:b.cs ≠ [])
  (k:RG P nt ops draw rest ⟨u,(d,.bool false) :: t,h⟩ (acc ++ [{ v:=.bool false,rd:=[n % 1000] }]) K):RG P nt ops draw (o :: rest) ⟨u,t,h⟩ acc K:=by
 refine gV (does_flat hw rfl fun ρ ac w ht hah=>?_) hs hn k
 have hbl:=hat_at hb hah (.inl (.head _))
 have hnil:=(blkAt_cell hbl h1).1
 have e1:ac.eval x=r3 ρ (.slice (some ⟨n,i,none⟩) len c):=ev_sound (ρ:=ρ) (by rw [hop];simp [Op.operands]) ht hx
 have e1:ac.eval x = .slice (some ⟨(ρ n).blk,i,none⟩) len ((ρ n).cap - c):=by rw [e1];show (if (ρ n).nil=true then zv _ else _)=_;rw [if_neg (by rw [hnil];decide)]
 have e2:ac.eval y = .slice none 0 0:=ev_sound (ρ:=ρ) (by rw [hop];simp [Op.operands]) ht hy
 have e3:(Op.equal ty (.slice (some ⟨(ρ n).blk,i,none⟩) len ((ρ n).cap - c)) (.slice none 0 0)).run P w = .ok false w:=by
  show (Op.equalIn (9999 + 1) ty _ _).run P w=_
  unfold Op.equalIn
  simp [run_underlying hu,Sem.run_pure,Sem.run_bind,Result.andThen_ok]
 simp [execOp,hop,e1,e2,eqGuard,binOp,e3,Sem.run_pure,Sem.run_bind,Result.andThen_ok]
end
theorem tl_T {a b:ByteArray} (h:(a.toList == b.toList)=true):a=b:=ba_ext (by rw [beq_iff_eq,toList_data,toList_data] at h;exact h)
theorem tn_T {a b:ByteArray} (h:(a.toList != b.toList)=true):a ≠ b:=fun e=>by rw [e] at h;simp at h
theorem tn_F {a b:ByteArray} (h:(a.toList != b.toList)=false):a=b:=tl_T (by simpa [bne] using h)
theorem at_ne {α:Type} [Inhabited α] {a b:List α} {i:Int} (h:at_ a i ≠ at_ b i):a ≠ b:=fun e=>h (by rw [e])
theorem ln_ne {α:Type} {a b:List α} (h:(a.length:Int) ≠ b.length):a ≠ b:=fun e=>h (by rw [e])
theorem cq_len {α:Type} {enc:α→List Value} {n:Nat} (he:∀ x,(enc x).length=n) (k:Nat) (l:List α):k + l.length * n≤(hls k (rowL enc l)).length:=by
 unfold hls
 rw [List.length_append,List.length_replicate,rowL_len he]
 exact Nat.le_refl _
theorem cq_take {α:Type} {enc:α→List Value} {n:Nat} (he:∀ x,(enc x).length=n) (k:Nat) (l:List α):((hls k (rowL enc l)).drop k).take (l.length * n)=rowL enc l:=by
 unfold hls
 rw [List.drop_left' (List.length_replicate ..),List.take_of_length_le (by rw [rowL_len he];exact Nat.le_refl _)]
theorem rS_leaf (l:List ByteArray):(rS l).all leaf=true:=by
 rw [List.all_eq_true];intro v hv
 obtain ⟨x,_,hx⟩:=List.mem_flatMap.1 hv
 obtain rfl:=List.mem_singleton.1 hx;rfl
theorem rI_leaf (l:List Int):(rI l).all leaf=true:=by
 rw [List.all_eq_true];intro v hv
 obtain ⟨x,_,hx⟩:=List.mem_flatMap.1 hv
 obtain rfl:=List.mem_singleton.1 hx;rfl
theorem cqS_leaf (k:Nat) (l:List ByteArray):(((hls k (rS l)).drop k).take (l.length * 1)).all leaf=true:=by rw [cq_take (n:=1) (fun _=>rfl)];exact rS_leaf l
theorem cqI_leaf (k:Nat) (l:List Int):(((hls k (rI l)).drop k).take (l.length * 1)).all leaf=true:=by rw [cq_take (n:=1) (fun _=>rfl)];exact rI_leaf l
theorem cqS_eq (k:Nat) (l:List ByteArray):[] ++ ((hls k (rS l)).drop k).take (l.length * 1)=rS l:=by rw [cq_take (n:=1) (fun _=>rfl)];rfl
theorem cqI_eq (k:Nat) (l:List Int):[] ++ ((hls k (rI l)).drop k).take (l.length * 1)=rI l:=by rw [cq_take (n:=1) (fun _=>rfl)];rfl
theorem st_eq {a b:Stv} (h0:decide (a.now=b.now)=true) (h1:decide (a.sure=b.sure)=true) (h2:decide (a.last=b.last)=true) (h3:decide (a.slast=b.slast)=true):decide (a=b)=decide (a.fl=b.fl):=by
 rw [decide_eq_true_eq] at h0 h1 h2 h3
 refine decide_eq_decide.2 ⟨fun e=>by rw [e],fun e=>?_⟩
 cases a;cases b
 simp only at h0 h1 h2 h3 e
 subst h0 h1 h2 h3 e;rfl
theorem st_f0 {a b:Stv} (h:decide (a.now=b.now)=false):decide (a=b)=false:=decide_eq_false fun e=>of_decide_eq_false h (by rw [e])
theorem st_f1 {a b:Stv} (h:decide (a.sure=b.sure)=false):decide (a=b)=false:=decide_eq_false fun e=>of_decide_eq_false h (by rw [e])
theorem st_f2 {a b:Stv} (h:decide (a.last=b.last)=false):decide (a=b)=false:=decide_eq_false fun e=>of_decide_eq_false h (by rw [e])
theorem st_f3 {a b:Stv} (h:decide (a.slast=b.slast)=false):decide (a=b)=false:=decide_eq_false fun e=>of_decide_eq_false h (by rw [e])
theorem impl_eqS_c {a b:List ByteArray} {ka ca kb cb:Nat} (hn:a.length≤1048576):FDoes Try.prog 55 [.slice (some ⟨0,ka,none⟩) a.length ca,.slice (some ⟨1,kb,none⟩) b.length cb] (hp [(0,false,one ⟨hls ka (rS a),9,0⟩),(1,false,one ⟨hls kb (rS b),9,0⟩)]) { v:=.bool (decide (a=b)),rd:=[0,1] }:=by
 have hm:Try.prog.follows .mixedOrders=true:=by kernel_rfl
 have hd_:∀ x_ ∈ ([(0,false,one ⟨hls ka (rS a),9,0⟩),(1,false,one ⟨hls kb (rS b),9,0⟩)]:List (Nat × Bool × Fam)),∀ k_ y_,x_.2.2 k_=some y_→DetB (lt 2) y_:=by
  intro x_ hx k_ y_ e
  simp only [List.mem_cons,List.not_mem_nil,or_false] at hx
  rcases hx with rfl|rfl
  ·exact det_row (hls_flat (rS_flat a)) e
  ·exact det_row (hls_flat (rS_flat b)) e
 refine fn_exact (u0:=2) Try.func55 rfl rfl (gets rfl rfl rfl hd_ rfl) ?_
 clear hd_
 refine vc_seq ?_
 refine vc_region hm ?_
 refine gM trivial (.inr rfl) rfl rfl rfl ?_
 refine rg_nil nofun ?_
 refine vc_seq ?_
 refine vc_seq ?_
 refine vc_region hm ?_
 refine gM trivial (.inl rfl) rfl rfl rfl ?_
 refine gK trivial rfl rfl rfl rfl rfl rfl (hls_nil rS_nil) ?_
 refine gM trivial (.inl rfl) rfl rfl rfl ?_
 refine gK trivial rfl rfl rfl rfl rfl rfl (hls_nil rS_nil) ?_
 refine gI trivial rfl rfl rfl rfl rfl rfl ?_
 refine rg_nil nofun ?_
 refine cI rfl (fun c10=>?_) (fun c10=>?_)
 ·skip
  have p10:=bne_iff_ne.1 c10
  refine vc_seq ?_
  refine vc_region hm ?_
  refine gM trivial (.inr rfl) rfl rfl rfl ?_
  refine rg_nil nofun ?_
  refine vc_ret ?_
  exact ⟨idm,ends0 (.inr rfl) rfl (eqB (decide_eq_false (ln_ne p10))) rfl rfl rfl⟩
 ·skip
  have p10:=bne_eq_false_iff_eq.1 c10
  refine vc_skip ?_
  refine vc_seq ?_
  refine vc_seq ?_
  refine vc_region hm ?_
  refine gM trivial (.inl rfl) rfl rfl rfl ?_
  refine gK trivial rfl rfl rfl rfl rfl rfl (hls_nil rS_nil) ?_
  refine gM trivial (.inl rfl) rfl rfl rfl ?_
  refine rg_nil nofun ?_
  refine vc_block ?_
  have hl:a.length=b.length:=by omega
  refine vc_loop' (fun n_ S_=>∃ (j:Nat),j≤a.length∧a.take j=b.take j∧n_=a.length - j∧S_=⟨2,[(0,.slice (some ⟨0,ka,none⟩) a.length ca),(1,.slice (some ⟨1,kb,none⟩) b.length cb),(12,.int .i64 a.length),(13,.int .i64 j)],[(0,false,one ⟨hls ka (rS a),9,0⟩),(1,false,one ⟨hls kb (rS b),9,0⟩)]⟩) (m0:=idm) ⟨0,Nat.zero_le _,rfl,rfl,rfl⟩ (le_mk rfl ⟨⟨rfl,rfl⟩,⟨rfl,rfl⟩,⟨rfl,rfl⟩,⟨rfl,rfl⟩,trivial⟩ ⟨kFlat (hls_flat (rS_flat a)) rfl id rfl,kFlat (hls_flat (rS_flat b)) rfl id rfl,trivial⟩ rfl (fun _ _=>rfl)) ?_
  rintro n_ S_ ⟨j,hj,hk,rfl,rfl⟩
  refine vc_seq ?_
  refine vc_region hm ?_
  refine gI trivial rfl rfl rfl rfl rfl rfl ?_
  refine rg_nil nofun ?_
  refine vc_seq ?_
  refine cI rfl (fun c14=>?_) (fun c14=>?_)
  ·skip
   have p14:=of_decide_eq_true c14
   refine vc_skip ?_
   refine vc_seq ?_
   refine vc_block ?_
   refine vc_seq ?_
   refine vc_region hm ?_
   refine gM trivial (.inl rfl) rfl rfl rfl ?_
   refine gM trivial (.inr rfl) rfl rfl rfl ?_
   refine rg_nil nofun ?_
   refine vc_seq ?_
   refine vc_region hm ?_
   refine gM trivial (.inl rfl) rfl rfl rfl ?_
   refine gM trivial (.inl rfl) rfl rfl rfl ?_
   refine gX trivial rfl rfl rfl rfl rfl rfl rfl rfl (by omega) (by omega) (fun h=>hls_ne (rS_ne h)) ?_
   refine gL trivial rfl rfl rfl rfl rfl rfl rfl (wR (lS (by omega) (by omega)) rfl) ?_
   refine gM trivial (.inl rfl) rfl rfl rfl ?_
   refine gM trivial (.inl rfl) rfl rfl rfl ?_
   refine gX trivial rfl rfl rfl rfl rfl rfl rfl rfl (by omega) (by omega) (fun h=>hls_ne (rS_ne h)) ?_
   refine gL trivial rfl rfl rfl rfl rfl rfl rfl (wR (lS (by omega) (by omega)) rfl) ?_
   refine gS trivial rfl rfl rfl rfl rfl rfl ?_
   refine rg_nil (fun _=>by kernel_rfl) ?_
   refine cI rfl (fun c24=>?_) (fun c24=>?_)
   ·skip
    refine vc_seq ?_
    refine vc_region hm ?_
    refine gM trivial (.inr rfl) rfl rfl rfl ?_
    refine rg_nil nofun ?_
    refine vc_ret ?_
    exact ⟨idm,ends0 (.inr rfl) rfl (eqB (decide_eq_false (at_ne (tn_T c24)))) rfl rfl rfl⟩
   ·skip
    refine vc_skip ?_
    refine vc_region hm ?_
    refine gA trivial rfl rfl rfl rfl rfl rfl (by omega) ?_
    refine gM trivial (.inl rfl) rfl rfl rfl ?_
    refine rg_nil nofun ?_
    exact lp_next (m:=idm) ⟨j + 1,(by omega),(take_step hk p14 hl (tn_F c24)),rfl,rfl⟩ (by omega) (le_mk rfl ⟨⟨rfl,rfl⟩,⟨rfl,rfl⟩,⟨rfl,rfl⟩,⟨rfl,rfl⟩,trivial⟩ ⟨kFlat (hls_flat (rS_flat a)) rfl id rfl,kFlat (hls_flat (rS_flat b)) rfl id rfl,trivial⟩ rfl (fun _ _=>rfl))
  ·skip
   have p14:=of_decide_eq_false c14
   refine vc_exit ?_
   refine vc_seq ?_
   refine vc_region hm ?_
   refine gM trivial (.inr rfl) rfl rfl rfl ?_
   refine rg_nil nofun ?_
   refine vc_ret ?_
   exact ⟨idm,ends0 (.inr rfl) rfl (eqB (decide_eq_true (take_all hk p14 hl))) rfl rfl rfl⟩
theorem impl_eqI_c {a b:List Int} {ka ca kb cb:Nat} (hn:a.length≤1048576):FDoes Try.prog 56 [.slice (some ⟨0,ka,none⟩) a.length ca,.slice (some ⟨1,kb,none⟩) b.length cb] (hp [(0,false,one ⟨hls ka (rI a),3,0⟩),(1,false,one ⟨hls kb (rI b),3,0⟩)]) { v:=.bool (decide (a=b)),rd:=[0,1] }:=by
 have hm:Try.prog.follows .mixedOrders=true:=by kernel_rfl
 have hd_:∀ x_ ∈ ([(0,false,one ⟨hls ka (rI a),3,0⟩),(1,false,one ⟨hls kb (rI b),3,0⟩)]:List (Nat × Bool × Fam)),∀ k_ y_,x_.2.2 k_=some y_→DetB (lt 2) y_:=by
  intro x_ hx k_ y_ e
  simp only [List.mem_cons,List.not_mem_nil,or_false] at hx
  rcases hx with rfl|rfl
  ·exact det_row (hls_flat (rI_flat a)) e
  ·exact det_row (hls_flat (rI_flat b)) e
 refine fn_exact (u0:=2) Try.func56 rfl rfl (gets rfl rfl rfl hd_ rfl) ?_
 clear hd_
 refine vc_seq ?_
 refine vc_region hm ?_
 refine gM trivial (.inr rfl) rfl rfl rfl ?_
 refine rg_nil nofun ?_
 refine vc_seq ?_
 refine vc_seq ?_
 refine vc_region hm ?_
 refine gM trivial (.inl rfl) rfl rfl rfl ?_
 refine gK trivial rfl rfl rfl rfl rfl rfl (hls_nil rI_nil) ?_
 refine gM trivial (.inl rfl) rfl rfl rfl ?_
 refine gK trivial rfl rfl rfl rfl rfl rfl (hls_nil rI_nil) ?_
 refine gI trivial rfl rfl rfl rfl rfl rfl ?_
 refine rg_nil nofun ?_
 refine cI rfl (fun c10=>?_) (fun c10=>?_)
 ·skip
  have p10:=bne_iff_ne.1 c10
  refine vc_seq ?_
  refine vc_region hm ?_
  refine gM trivial (.inr rfl) rfl rfl rfl ?_
  refine rg_nil nofun ?_
  refine vc_ret ?_
  exact ⟨idm,ends0 (.inr rfl) rfl (eqB (decide_eq_false (ln_ne p10))) rfl rfl rfl⟩
 ·skip
  have p10:=bne_eq_false_iff_eq.1 c10
  refine vc_skip ?_
  refine vc_seq ?_
  refine vc_seq ?_
  refine vc_region hm ?_
  refine gM trivial (.inl rfl) rfl rfl rfl ?_
  refine gK trivial rfl rfl rfl rfl rfl rfl (hls_nil rI_nil) ?_
  refine gM trivial (.inl rfl) rfl rfl rfl ?_
  refine rg_nil nofun ?_
  refine vc_block ?_
  have hl:a.length=b.length:=by omega
  refine vc_loop' (fun n_ S_=>∃ (j:Nat),j≤a.length∧a.take j=b.take j∧n_=a.length - j∧S_=⟨2,[(0,.slice (some ⟨0,ka,none⟩) a.length ca),(1,.slice (some ⟨1,kb,none⟩) b.length cb),(12,.int .i64 a.length),(13,.int .i64 j)],[(0,false,one ⟨hls ka (rI a),3,0⟩),(1,false,one ⟨hls kb (rI b),3,0⟩)]⟩) (m0:=idm) ⟨0,Nat.zero_le _,rfl,rfl,rfl⟩ (le_mk rfl ⟨⟨rfl,rfl⟩,⟨rfl,rfl⟩,⟨rfl,rfl⟩,⟨rfl,rfl⟩,trivial⟩ ⟨kFlat (hls_flat (rI_flat a)) rfl id rfl,kFlat (hls_flat (rI_flat b)) rfl id rfl,trivial⟩ rfl (fun _ _=>rfl)) ?_
  rintro n_ S_ ⟨j,hj,hk,rfl,rfl⟩
  refine vc_seq ?_
  refine vc_region hm ?_
  refine gI trivial rfl rfl rfl rfl rfl rfl ?_
  refine rg_nil nofun ?_
  refine vc_seq ?_
  refine cI rfl (fun c14=>?_) (fun c14=>?_)
  ·skip
   have p14:=of_decide_eq_true c14
   refine vc_skip ?_
   refine vc_seq ?_
   refine vc_block ?_
   refine vc_seq ?_
   refine vc_region hm ?_
   refine gM trivial (.inl rfl) rfl rfl rfl ?_
   refine gM trivial (.inr rfl) rfl rfl rfl ?_
   refine rg_nil nofun ?_
   refine vc_seq ?_
   refine vc_region hm ?_
   refine gM trivial (.inl rfl) rfl rfl rfl ?_
   refine gM trivial (.inl rfl) rfl rfl rfl ?_
   refine gX trivial rfl rfl rfl rfl rfl rfl rfl rfl (by omega) (by omega) (fun h=>hls_ne (rI_ne h)) ?_
   refine gL trivial rfl rfl rfl rfl rfl rfl rfl (wR (lI (by omega) (by omega)) rfl) ?_
   refine gM trivial (.inl rfl) rfl rfl rfl ?_
   refine gM trivial (.inl rfl) rfl rfl rfl ?_
   refine gX trivial rfl rfl rfl rfl rfl rfl rfl rfl (by omega) (by omega) (fun h=>hls_ne (rI_ne h)) ?_
   refine gL trivial rfl rfl rfl rfl rfl rfl rfl (wR (lI (by omega) (by omega)) rfl) ?_
   refine gI trivial rfl rfl rfl rfl rfl rfl ?_
   refine rg_nil (fun _=>by kernel_rfl) ?_
   refine cI rfl (fun c24=>?_) (fun c24=>?_)
   ·skip
    have p24:=bne_iff_ne.1 c24
    refine vc_seq ?_
    refine vc_region hm ?_
    refine gM trivial (.inr rfl) rfl rfl rfl ?_
    refine rg_nil nofun ?_
    refine vc_ret ?_
    exact ⟨idm,ends0 (.inr rfl) rfl (eqB (decide_eq_false (at_ne p24))) rfl rfl rfl⟩
   ·skip
    have p24:=bne_eq_false_iff_eq.1 c24
    refine vc_skip ?_
    refine vc_region hm ?_
    refine gA trivial rfl rfl rfl rfl rfl rfl (by omega) ?_
    refine gM trivial (.inl rfl) rfl rfl rfl ?_
    refine rg_nil nofun ?_
    exact lp_next (m:=idm) ⟨j + 1,(by omega),(take_step hk p14 hl p24),rfl,rfl⟩ (by omega) (le_mk rfl ⟨⟨rfl,rfl⟩,⟨rfl,rfl⟩,⟨rfl,rfl⟩,⟨rfl,rfl⟩,trivial⟩ ⟨kFlat (hls_flat (rI_flat a)) rfl id rfl,kFlat (hls_flat (rI_flat b)) rfl id rfl,trivial⟩ rfl (fun _ _=>rfl))
  ·skip
   have p14:=of_decide_eq_false c14
   refine vc_exit ?_
   refine vc_seq ?_
   refine vc_region hm ?_
   refine gM trivial (.inr rfl) rfl rfl rfl ?_
   refine rg_nil nofun ?_
   refine vc_ret ?_
   exact ⟨idm,ends0 (.inr rfl) rfl (eqB (decide_eq_true (take_all hk p14 hl))) rfl rfl rfl⟩
theorem impl_StoreSame_c {a b:Stv} {ka ca kb cb:Nat} (hz:StSz a):FDoes Try.prog 22 [.agg #[.slice (some ⟨0,ka,none⟩) a.now.length ca,.slice (some ⟨1,0,none⟩) a.sure.length 0,.slice (some ⟨2,0,none⟩) a.last.length 0,.slice (some ⟨3,0,none⟩) a.slast.length 0,.slice (some ⟨4,0,none⟩) a.fl.length 0],.agg #[.slice (some ⟨5,kb,none⟩) b.now.length cb,.slice (some ⟨6,0,none⟩) b.sure.length 0,.slice (some ⟨7,0,none⟩) b.last.length 0,.slice (some ⟨8,0,none⟩) b.slast.length 0,.slice (some ⟨9,0,none⟩) b.fl.length 0]] (hp [(0,false,one ⟨hls ka (rS a.now),9,0⟩),(1,false,one ⟨rS a.sure,9,0⟩),(2,false,one ⟨rI a.last,3,0⟩),(3,false,one ⟨rI a.slast,3,0⟩),(4,false,one ⟨rI a.fl,3,0⟩),(5,false,one ⟨hls kb (rS b.now),9,0⟩),(6,false,one ⟨rS b.sure,9,0⟩),(7,false,one ⟨rI b.last,3,0⟩),(8,false,one ⟨rI b.slast,3,0⟩),(9,false,one ⟨rI b.fl,3,0⟩)]) { v:=.bool (decide (a=b)),rd:=[0,1,2,3,4,5,6,7,8,9] }:=by
 have hm:Try.prog.follows .mixedOrders=true:=by kernel_rfl
 have hd_:∀ x_ ∈ ([(0,false,one ⟨hls ka (rS a.now),9,0⟩),(1,false,one ⟨rS a.sure,9,0⟩),(2,false,one ⟨rI a.last,3,0⟩),(3,false,one ⟨rI a.slast,3,0⟩),(4,false,one ⟨rI a.fl,3,0⟩),(5,false,one ⟨hls kb (rS b.now),9,0⟩),(6,false,one ⟨rS b.sure,9,0⟩),(7,false,one ⟨rI b.last,3,0⟩),(8,false,one ⟨rI b.slast,3,0⟩),(9,false,one ⟨rI b.fl,3,0⟩)]:List (Nat × Bool × Fam)),∀ k_ y_,x_.2.2 k_=some y_→DetB (lt 10) y_:=by
  intro x_ hx k_ y_ e
  simp only [List.mem_cons,List.not_mem_nil,or_false] at hx
  rcases hx with rfl|rfl|rfl|rfl|rfl|rfl|rfl|rfl|rfl|rfl
  ·exact det_row (hls_flat (rS_flat a.now)) e
  ·exact det_row (rS_flat a.sure) e
  ·exact det_row (rI_flat a.last) e
  ·exact det_row (rI_flat a.slast) e
  ·exact det_row (rI_flat a.fl) e
  ·exact det_row (hls_flat (rS_flat b.now)) e
  ·exact det_row (rS_flat b.sure) e
  ·exact det_row (rI_flat b.last) e
  ·exact det_row (rI_flat b.slast) e
  ·exact det_row (rI_flat b.fl) e
 have z0:=hz.a0
 have z1:=hz.a1
 have z2:=hz.a2
 have z3:=hz.a3
 have z4:=hz.a4
 refine fn_exact (u0:=10) Try.func22 rfl rfl (gets rfl rfl rfl hd_ rfl) ?_
 clear hd_
 refine vc_seq ?_
 refine vc_region hm ?_
 refine gB (u':=11) trivial rfl rfl rfl rfl rfl rfl rfl rfl ?_
 refine gB (u':=12) trivial rfl rfl rfl rfl rfl rfl rfl rfl ?_
 refine gM trivial (.inr rfl) rfl rfl rfl ?_
 refine rg_nil nofun ?_
 refine vc_seq ?_
 refine vc_region hm ?_
 refine gF trivial rfl rfl rfl rfl rfl ?_
 refine gL trivial rfl rfl rfl rfl rfl rfl rfl rfl ?_
 refine gF trivial rfl rfl rfl rfl rfl ?_
 refine gL trivial rfl rfl rfl rfl rfl rfl rfl rfl ?_
 refine gC0 [0,5] (impl_eqS_c (a:=a.now) (b:=b.now) (ka:=ka) (ca:=ca) (kb:=kb) (cb:=cb) z0) trivial rfl rfl rfl rfl ⟨rFlat (hls_flat (rS_flat _)) rfl (.inl rfl) rfl,rFlat (hls_flat (rS_flat _)) rfl (.inl rfl) rfl,trivial⟩ rfl rfl rfl rfl rfl ?_
 refine gM trivial (.inl rfl) rfl rfl rfl ?_
 refine gI2 (d:=10) rfl (fun c10=>?_) (fun c10=>?_)
 ·skip
  refine gF ⟨_,_,rfl,rfl,c10⟩ rfl rfl rfl rfl rfl ?_
  refine gL ⟨_,_,rfl,rfl,c10⟩ rfl rfl rfl rfl rfl rfl rfl rfl ?_
  refine gF ⟨_,_,rfl,rfl,c10⟩ rfl rfl rfl rfl rfl ?_
  refine gL ⟨_,_,rfl,rfl,c10⟩ rfl rfl rfl rfl rfl rfl rfl rfl ?_
  refine gC0 [1,6] (impl_eqS_c (a:=a.sure) (b:=b.sure) (ka:=0) (ca:=0) (kb:=0) (cb:=0) z1) ⟨_,_,rfl,rfl,c10⟩ rfl rfl rfl rfl ⟨rFlat (hls_flat (rS_flat _)) rfl (.inl rfl) rfl,rFlat (hls_flat (rS_flat _)) rfl (.inl rfl) rfl,trivial⟩ rfl rfl rfl rfl rfl ?_
  refine gPT trivial rfl rfl c10 rfl rfl rfl ?_
  refine gM trivial (.inl rfl) rfl rfl rfl ?_
  refine gI2 (d:=17) rfl (fun c17=>?_) (fun c17=>?_)
  ·skip
   refine gF ⟨_,_,rfl,rfl,c17⟩ rfl rfl rfl rfl rfl ?_
   refine gL ⟨_,_,rfl,rfl,c17⟩ rfl rfl rfl rfl rfl rfl rfl rfl ?_
   refine gF ⟨_,_,rfl,rfl,c17⟩ rfl rfl rfl rfl rfl ?_
   refine gL ⟨_,_,rfl,rfl,c17⟩ rfl rfl rfl rfl rfl rfl rfl rfl ?_
   refine gC0 [2,7] (impl_eqI_c (a:=a.last) (b:=b.last) (ka:=0) (ca:=0) (kb:=0) (cb:=0) z2) ⟨_,_,rfl,rfl,c17⟩ rfl rfl rfl rfl ⟨rFlat (hls_flat (rI_flat _)) rfl (.inl rfl) rfl,rFlat (hls_flat (rI_flat _)) rfl (.inl rfl) rfl,trivial⟩ rfl rfl rfl rfl rfl ?_
   refine gPT trivial rfl rfl c17 rfl rfl rfl ?_
   refine gM trivial (.inl rfl) rfl rfl rfl ?_
   refine gI2 (d:=24) rfl (fun c24=>?_) (fun c24=>?_)
   ·skip
    refine gF ⟨_,_,rfl,rfl,c24⟩ rfl rfl rfl rfl rfl ?_
    refine gL ⟨_,_,rfl,rfl,c24⟩ rfl rfl rfl rfl rfl rfl rfl rfl ?_
    refine gF ⟨_,_,rfl,rfl,c24⟩ rfl rfl rfl rfl rfl ?_
    refine gL ⟨_,_,rfl,rfl,c24⟩ rfl rfl rfl rfl rfl rfl rfl rfl ?_
    refine gC0 [3,8] (impl_eqI_c (a:=a.slast) (b:=b.slast) (ka:=0) (ca:=0) (kb:=0) (cb:=0) z3) ⟨_,_,rfl,rfl,c24⟩ rfl rfl rfl rfl ⟨rFlat (hls_flat (rI_flat _)) rfl (.inl rfl) rfl,rFlat (hls_flat (rI_flat _)) rfl (.inl rfl) rfl,trivial⟩ rfl rfl rfl rfl rfl ?_
    refine gPT trivial rfl rfl c24 rfl rfl rfl ?_
    refine gM trivial (.inl rfl) rfl rfl rfl ?_
    refine gI2 (d:=31) rfl (fun c31=>?_) (fun c31=>?_)
    ·skip
     refine gF ⟨_,_,rfl,rfl,c31⟩ rfl rfl rfl rfl rfl ?_
     refine gL ⟨_,_,rfl,rfl,c31⟩ rfl rfl rfl rfl rfl rfl rfl rfl ?_
     refine gF ⟨_,_,rfl,rfl,c31⟩ rfl rfl rfl rfl rfl ?_
     refine gL ⟨_,_,rfl,rfl,c31⟩ rfl rfl rfl rfl rfl rfl rfl rfl ?_
     refine gC0 [4,9] (impl_eqI_c (a:=a.fl) (b:=b.fl) (ka:=0) (ca:=0) (kb:=0) (cb:=0) z4) ⟨_,_,rfl,rfl,c31⟩ rfl rfl rfl rfl ⟨rFlat (hls_flat (rI_flat _)) rfl (.inl rfl) rfl,rFlat (hls_flat (rI_flat _)) rfl (.inl rfl) rfl,trivial⟩ rfl rfl rfl rfl rfl ?_
     refine gPT trivial rfl rfl c31 rfl rfl rfl ?_
     refine gM trivial (.inr rfl) rfl rfl rfl ?_
     refine rg_nil nofun ?_
     refine vc_ret ?_
     exact ⟨idm,ends0 (.inr rfl) rfl (eqB (st_eq c10 c17 c24 c31)) rfl rfl rfl⟩
    ·skip
     refine gO ⟨_,_,rfl,rfl,c31⟩ rfl rfl ?_
     refine gO ⟨_,_,rfl,rfl,c31⟩ rfl rfl ?_
     refine gO ⟨_,_,rfl,rfl,c31⟩ rfl rfl ?_
     refine gO ⟨_,_,rfl,rfl,c31⟩ rfl rfl ?_
     refine gO ⟨_,_,rfl,rfl,c31⟩ rfl rfl ?_
     refine gPF trivial rfl rfl c31 rfl rfl rfl ?_
     refine gM trivial (.inr rfl) rfl rfl rfl ?_
     refine rg_nil nofun ?_
     refine vc_ret ?_
     exact ⟨idm,ends0 (.inr rfl) rfl (eqB (st_f3 c31)) rfl rfl rfl⟩
   ·skip
    refine gO ⟨_,_,rfl,rfl,c24⟩ rfl rfl ?_
    refine gO ⟨_,_,rfl,rfl,c24⟩ rfl rfl ?_
    refine gO ⟨_,_,rfl,rfl,c24⟩ rfl rfl ?_
    refine gO ⟨_,_,rfl,rfl,c24⟩ rfl rfl ?_
    refine gO ⟨_,_,rfl,rfl,c24⟩ rfl rfl ?_
    refine gPF trivial rfl rfl c24 rfl rfl rfl ?_
    refine gM trivial (.inl rfl) rfl rfl rfl ?_
    refine gO ⟨_,_,rfl,rfl,rfl⟩ rfl rfl ?_
    refine gO ⟨_,_,rfl,rfl,rfl⟩ rfl rfl ?_
    refine gO ⟨_,_,rfl,rfl,rfl⟩ rfl rfl ?_
    refine gO ⟨_,_,rfl,rfl,rfl⟩ rfl rfl ?_
    refine gO ⟨_,_,rfl,rfl,rfl⟩ rfl rfl ?_
    refine gPF trivial rfl rfl rfl rfl rfl rfl ?_
    refine gM trivial (.inr rfl) rfl rfl rfl ?_
    refine rg_nil nofun ?_
    refine vc_ret ?_
    exact ⟨idm,ends0 (.inr rfl) rfl (eqB (st_f2 c24)) rfl rfl rfl⟩
  ·skip
   refine gO ⟨_,_,rfl,rfl,c17⟩ rfl rfl ?_
   refine gO ⟨_,_,rfl,rfl,c17⟩ rfl rfl ?_
   refine gO ⟨_,_,rfl,rfl,c17⟩ rfl rfl ?_
   refine gO ⟨_,_,rfl,rfl,c17⟩ rfl rfl ?_
   refine gO ⟨_,_,rfl,rfl,c17⟩ rfl rfl ?_
   refine gPF trivial rfl rfl c17 rfl rfl rfl ?_
   refine gM trivial (.inl rfl) rfl rfl rfl ?_
   refine gO ⟨_,_,rfl,rfl,rfl⟩ rfl rfl ?_
   refine gO ⟨_,_,rfl,rfl,rfl⟩ rfl rfl ?_
   refine gO ⟨_,_,rfl,rfl,rfl⟩ rfl rfl ?_
   refine gO ⟨_,_,rfl,rfl,rfl⟩ rfl rfl ?_
   refine gO ⟨_,_,rfl,rfl,rfl⟩ rfl rfl ?_
   refine gPF trivial rfl rfl rfl rfl rfl rfl ?_
   refine gM trivial (.inl rfl) rfl rfl rfl ?_
   refine gO ⟨_,_,rfl,rfl,rfl⟩ rfl rfl ?_
   refine gO ⟨_,_,rfl,rfl,rfl⟩ rfl rfl ?_
   refine gO ⟨_,_,rfl,rfl,rfl⟩ rfl rfl ?_
   refine gO ⟨_,_,rfl,rfl,rfl⟩ rfl rfl ?_
   refine gO ⟨_,_,rfl,rfl,rfl⟩ rfl rfl ?_
   refine gPF trivial rfl rfl rfl rfl rfl rfl ?_
   refine gM trivial (.inr rfl) rfl rfl rfl ?_
   refine rg_nil nofun ?_
   refine vc_ret ?_
   exact ⟨idm,ends0 (.inr rfl) rfl (eqB (st_f1 c17)) rfl rfl rfl⟩
 ·skip
  refine gO ⟨_,_,rfl,rfl,c10⟩ rfl rfl ?_
  refine gO ⟨_,_,rfl,rfl,c10⟩ rfl rfl ?_
  refine gO ⟨_,_,rfl,rfl,c10⟩ rfl rfl ?_
  refine gO ⟨_,_,rfl,rfl,c10⟩ rfl rfl ?_
  refine gO ⟨_,_,rfl,rfl,c10⟩ rfl rfl ?_
  refine gPF trivial rfl rfl c10 rfl rfl rfl ?_
  refine gM trivial (.inl rfl) rfl rfl rfl ?_
  refine gO ⟨_,_,rfl,rfl,rfl⟩ rfl rfl ?_
  refine gO ⟨_,_,rfl,rfl,rfl⟩ rfl rfl ?_
  refine gO ⟨_,_,rfl,rfl,rfl⟩ rfl rfl ?_
  refine gO ⟨_,_,rfl,rfl,rfl⟩ rfl rfl ?_
  refine gO ⟨_,_,rfl,rfl,rfl⟩ rfl rfl ?_
  refine gPF trivial rfl rfl rfl rfl rfl rfl ?_
  refine gM trivial (.inl rfl) rfl rfl rfl ?_
  refine gO ⟨_,_,rfl,rfl,rfl⟩ rfl rfl ?_
  refine gO ⟨_,_,rfl,rfl,rfl⟩ rfl rfl ?_
  refine gO ⟨_,_,rfl,rfl,rfl⟩ rfl rfl ?_
  refine gO ⟨_,_,rfl,rfl,rfl⟩ rfl rfl ?_
  refine gO ⟨_,_,rfl,rfl,rfl⟩ rfl rfl ?_
  refine gPF trivial rfl rfl rfl rfl rfl rfl ?_
  refine gM trivial (.inl rfl) rfl rfl rfl ?_
  refine gO ⟨_,_,rfl,rfl,rfl⟩ rfl rfl ?_
  refine gO ⟨_,_,rfl,rfl,rfl⟩ rfl rfl ?_
  refine gO ⟨_,_,rfl,rfl,rfl⟩ rfl rfl ?_
  refine gO ⟨_,_,rfl,rfl,rfl⟩ rfl rfl ?_
  refine gO ⟨_,_,rfl,rfl,rfl⟩ rfl rfl ?_
  refine gPF trivial rfl rfl rfl rfl rfl rfl ?_
  refine gM trivial (.inr rfl) rfl rfl rfl ?_
  refine rg_nil nofun ?_
  refine vc_ret ?_
  exact ⟨idm,ends0 (.inr rfl) rfl (eqB (st_f0 c10)) rfl rfl rfl⟩
theorem cloneS_c {l:List ByteArray} {k c:Nat} (h0:0<l.length) (hn:l.length≤1048576):FDoes Try.prog 53 [.slice (some ⟨0,k,none⟩) l.length c] (hp [(0,false,one ⟨hls k (rS l),9,0⟩)]) (mkE (.slice (some ⟨1,0,none⟩) l.length 0) [0] [] [(1,⟨rS l,9,1⟩)]):=by
 have hm:Try.prog.follows .mixedOrders=true:=by kernel_rfl
 have hd_:∀ x_ ∈ ([(0,false,one ⟨hls k (rS l),9,0⟩)]:List (Nat × Bool × Fam)),∀ k_ y_,x_.2.2 k_=some y_→DetB (lt 1) y_:=by
  intro x_ hx k_ y_ e
  simp only [List.mem_cons,List.not_mem_nil,or_false] at hx
  subst hx
  exact det_row (hls_flat (rS_flat l)) e
 refine fn_exact (u0:=1) Try.func53 rfl rfl (gets rfl rfl rfl hd_ rfl) ?_
 clear hd_
 refine vc_seq ?_
 refine vc_region hm ?_
 refine gM trivial (.inr rfl) rfl rfl rfl ?_
 refine rg_nil nofun ?_
 refine vc_seq ?_
 refine vc_seq ?_
 refine vc_region hm ?_
 refine gM trivial (.inl rfl) rfl rfl rfl ?_
 refine gNilC trivial rfl rfl rfl rfl rfl rfl rfl (hls_ne (rS_ne h0)) ?_
 refine rg_nil nofun ?_
 refine cF rfl rfl ?_
 refine vc_skip ?_
 refine vc_seq ?_
 refine vc_region hm ?_
 refine gR (u':=2) trivial rfl rfl rfl rfl rfl rfl rfl rfl rfl rfl rfl rfl rfl rfl ?_
 refine gM trivial (.inl rfl) rfl rfl rfl ?_
 refine gAp (u':=3) trivial rfl rfl rfl rfl rfl rfl rfl rfl rfl rfl rfl rfl rfl (cq_len (n:=1) (fun _=>rfl) k l) (cqS_leaf k l) (show (0 + l.length) * (16 + 1)≤140737488355328 by omega) (cqS_eq k l) (Nat.zero_add _) ?_
 refine gM trivial (.inr rfl) rfl rfl rfl ?_
 refine rg_nil nofun ?_
 refine vc_ret ?_
 exact ⟨_,endsG [(1,2,⟨rS l,9,1⟩)] (.inr rfl) (.tmp rfl rfl .nil) rfl rfl trivial ⟨⟨rfl,rS_flat _⟩,trivial⟩ rfl⟩
theorem cloneI_c {l:List Int} {k c:Nat} (h0:0<l.length) (hn:l.length≤1048576):FDoes Try.prog 54 [.slice (some ⟨0,k,none⟩) l.length c] (hp [(0,false,one ⟨hls k (rI l),3,0⟩)]) (mkE (.slice (some ⟨1,0,none⟩) l.length 0) [0] [] [(1,⟨rI l,3,1⟩)]):=by
 have hm:Try.prog.follows .mixedOrders=true:=by kernel_rfl
 have hd_:∀ x_ ∈ ([(0,false,one ⟨hls k (rI l),3,0⟩)]:List (Nat × Bool × Fam)),∀ k_ y_,x_.2.2 k_=some y_→DetB (lt 1) y_:=by
  intro x_ hx k_ y_ e
  simp only [List.mem_cons,List.not_mem_nil,or_false] at hx
  subst hx
  exact det_row (hls_flat (rI_flat l)) e
 refine fn_exact (u0:=1) Try.func54 rfl rfl (gets rfl rfl rfl hd_ rfl) ?_
 clear hd_
 refine vc_seq ?_
 refine vc_region hm ?_
 refine gM trivial (.inr rfl) rfl rfl rfl ?_
 refine rg_nil nofun ?_
 refine vc_seq ?_
 refine vc_seq ?_
 refine vc_region hm ?_
 refine gM trivial (.inl rfl) rfl rfl rfl ?_
 refine gNilC trivial rfl rfl rfl rfl rfl rfl rfl (hls_ne (rI_ne h0)) ?_
 refine rg_nil nofun ?_
 refine cF rfl rfl ?_
 refine vc_skip ?_
 refine vc_seq ?_
 refine vc_region hm ?_
 refine gR (u':=2) trivial rfl rfl rfl rfl rfl rfl rfl rfl rfl rfl rfl rfl rfl rfl ?_
 refine gM trivial (.inl rfl) rfl rfl rfl ?_
 refine gAp (u':=3) trivial rfl rfl rfl rfl rfl rfl rfl rfl rfl rfl rfl rfl rfl (cq_len (n:=1) (fun _=>rfl) k l) (cqI_leaf k l) (show (0 + l.length) * (8 + 1)≤140737488355328 by omega) (cqI_eq k l) (Nat.zero_add _) ?_
 refine gM trivial (.inr rfl) rfl rfl rfl ?_
 refine rg_nil nofun ?_
 refine vc_ret ?_
 exact ⟨_,endsG [(1,2,⟨rI l,3,1⟩)] (.inr rfl) (.tmp rfl rfl .nil) rfl rfl trivial ⟨⟨rfl,rI_flat _⟩,trivial⟩ rfl⟩
theorem again_c {s:Stv} {kk cc:Nat} (hz:StSz s) (h3:lens3 s):FDoes Try.prog 49 [.agg #[.slice (some ⟨0,kk,none⟩) s.now.length cc,.slice (some ⟨1,0,none⟩) s.sure.length 0,.slice (some ⟨2,0,none⟩) s.last.length 0,.slice (some ⟨3,0,none⟩) s.slast.length 0,.slice (some ⟨4,0,none⟩) s.fl.length 0]] (hp [(0,false,one ⟨hls kk (rS s.now),9,0⟩),(1,false,one ⟨rS s.sure,9,0⟩),(2,false,one ⟨rI s.last,3,0⟩),(3,false,one ⟨rI s.slast,3,0⟩),(4,false,one ⟨rI s.fl,3,0⟩)]) (mkE (.agg #[.slice (some ⟨5,0,none⟩) s.now.length 0,.slice (some ⟨6,0,none⟩) s.sure.length 0,.slice (some ⟨7,0,none⟩) s.last.length 0,.slice (some ⟨8,0,none⟩) s.slast.length 0,.slice (some ⟨9,0,none⟩) s.fl.length 0]) [0,1,2,3,4] [] [(5,⟨rS s.now,9,1⟩),(6,⟨rS s.sure,9,1⟩),(7,⟨rI s.last,3,1⟩),(8,⟨rI s.slast,3,1⟩),(9,⟨rI s.fl,3,1⟩)]):=by
 have hm:Try.prog.follows .mixedOrders=true:=by kernel_rfl
 have hd_:∀ x_ ∈ ([(0,false,one ⟨hls kk (rS s.now),9,0⟩),(1,false,one ⟨rS s.sure,9,0⟩),(2,false,one ⟨rI s.last,3,0⟩),(3,false,one ⟨rI s.slast,3,0⟩),(4,false,one ⟨rI s.fl,3,0⟩)]:List (Nat × Bool × Fam)),∀ k_ y_,x_.2.2 k_=some y_→DetB (lt 5) y_:=by
  intro x_ hx k_ y_ e
  simp only [List.mem_cons,List.not_mem_nil,or_false] at hx
  rcases hx with rfl|rfl|rfl|rfl|rfl
  ·exact det_row (hls_flat (rS_flat s.now)) e
  ·exact det_row (rS_flat s.sure) e
  ·exact det_row (rI_flat s.last) e
  ·exact det_row (rI_flat s.slast) e
  ·exact det_row (rI_flat s.fl) e
 have z0:=hz.a0
 have z1:=hz.a1
 have z2:=hz.a2
 have z3:=hz.a3
 have z4:=hz.a4
 unfold lens3 at h3
 refine fn_exact (u0:=5) Try.func49 rfl rfl (gets rfl rfl rfl hd_ rfl) ?_
 clear hd_
 refine vc_seq ?_
 refine vc_region hm ?_
 refine gB (u':=6) trivial rfl rfl rfl rfl rfl rfl rfl rfl ?_
 refine gZ (u':=7) trivial rfl rfl rfl rfl rfl rfl rfl rfl ?_
 refine rg_nil nofun ?_
 refine vc_seq ?_
 refine vc_region hm ?_
 refine gF trivial rfl rfl rfl rfl rfl ?_
 refine gL trivial rfl rfl rfl rfl rfl rfl rfl rfl ?_
 refine gCn 8 [0,7] (cloneS_c (l:=s.now) (k:=kk) (c:=cc) (by omega) z0) trivial rfl rfl rfl rfl ⟨rFlat (hls_flat (rS_flat _)) rfl (.inl rfl) rfl,trivial⟩ ⟨rS_flat _,trivial⟩ rfl rfl rfl rfl ?_
 refine gF trivial rfl rfl rfl rfl rfl ?_
 refine gL trivial rfl rfl rfl rfl rfl rfl rfl rfl ?_
 refine gCn 9 [1,8] (cloneS_c (l:=s.sure) (k:=0) (c:=0) (by omega) z1) trivial rfl rfl rfl rfl ⟨rFlat (hls_flat (rS_flat _)) rfl (.inl rfl) rfl,trivial⟩ ⟨rS_flat _,trivial⟩ rfl rfl rfl rfl ?_
 refine gF trivial rfl rfl rfl rfl rfl ?_
 refine gL trivial rfl rfl rfl rfl rfl rfl rfl rfl ?_
 refine gCn 10 [2,9] (cloneI_c (l:=s.last) (k:=0) (c:=0) (by omega) z2) trivial rfl rfl rfl rfl ⟨rFlat (hls_flat (rI_flat _)) rfl (.inl rfl) rfl,trivial⟩ ⟨rI_flat _,trivial⟩ rfl rfl rfl rfl ?_
 refine gF trivial rfl rfl rfl rfl rfl ?_
 refine gL trivial rfl rfl rfl rfl rfl rfl rfl rfl ?_
 refine gCn 11 [3,10] (cloneI_c (l:=s.slast) (k:=0) (c:=0) (by omega) z3) trivial rfl rfl rfl rfl ⟨rFlat (hls_flat (rI_flat _)) rfl (.inl rfl) rfl,trivial⟩ ⟨rI_flat _,trivial⟩ rfl rfl rfl rfl ?_
 refine gF trivial rfl rfl rfl rfl rfl ?_
 refine gL trivial rfl rfl rfl rfl rfl rfl rfl rfl ?_
 refine gCn 12 [4,11] (cloneI_c (l:=s.fl) (k:=0) (c:=0) (by omega) z4) trivial rfl rfl rfl rfl ⟨rFlat (hls_flat (rI_flat _)) rfl (.inl rfl) rfl,trivial⟩ ⟨rI_flat _,trivial⟩ rfl rfl rfl rfl ?_
 refine gU trivial rfl rfl rfl rfl rfl rfl rfl rfl ?_
 refine gT trivial rfl rfl rfl rfl rfl rfl rfl rfl rfl rfl (Nat.le_of_ble_eq_true rfl) rfl ?_
 refine rg_nil (fun _=>by kernel_rfl) ?_
 refine vc_ret ?_
 exact ⟨_,endsG [(5,7,⟨rS s.now,9,1⟩),(6,8,⟨rS s.sure,9,1⟩),(7,9,⟨rI s.last,3,1⟩),(8,10,⟨rI s.slast,3,1⟩),(9,11,⟨rI s.fl,3,1⟩)] (.inr rfl) (.cell rfl rfl rfl rfl rfl .nil) rfl rfl trivial ⟨⟨rfl,(rS_flat s.now)⟩,⟨rfl,(rS_flat s.sure)⟩,⟨rfl,(rI_flat s.last)⟩,⟨rfl,(rI_flat s.slast)⟩,⟨rfl,(rI_flat s.fl)⟩,trivial⟩ rfl⟩
theorem l5Copy_c {s:Stv} {kk cc:Nat} (hz:StSz s):FDoes Try.prog 50 [.agg #[.slice (some ⟨0,kk,none⟩) s.now.length cc,.slice (some ⟨1,0,none⟩) s.sure.length 0,.slice (some ⟨2,0,none⟩) s.last.length 0,.slice (some ⟨3,0,none⟩) s.slast.length 0,.slice (some ⟨4,0,none⟩) s.fl.length 0]] (hp [(0,false,one ⟨hls kk (rS s.now),9,0⟩),(1,false,one ⟨rS s.sure,9,0⟩),(2,false,one ⟨rI s.last,3,0⟩),(3,false,one ⟨rI s.slast,3,0⟩),(4,false,one ⟨rI s.fl,3,0⟩)]) (mkE (.agg #[.slice (some ⟨5,0,none⟩) s.now.length 0,.slice (some ⟨6,0,none⟩) s.sure.length 0,.slice (some ⟨7,0,none⟩) s.last.length 0,.slice (some ⟨8,0,none⟩) s.slast.length 0,.slice (some ⟨9,0,none⟩) s.fl.length 0]) [0,1,2,3,4] [] [(5,⟨rS s.now,9,1⟩),(6,⟨rS s.sure,9,1⟩),(7,⟨rI s.last,3,1⟩),(8,⟨rI s.slast,3,1⟩),(9,⟨rI s.fl,3,1⟩)]):=by
 have hm:Try.prog.follows .mixedOrders=true:=by kernel_rfl
 have hd_:∀ x_ ∈ ([(0,false,one ⟨hls kk (rS s.now),9,0⟩),(1,false,one ⟨rS s.sure,9,0⟩),(2,false,one ⟨rI s.last,3,0⟩),(3,false,one ⟨rI s.slast,3,0⟩),(4,false,one ⟨rI s.fl,3,0⟩)]:List (Nat × Bool × Fam)),∀ k_ y_,x_.2.2 k_=some y_→DetB (lt 5) y_:=by
  intro x_ hx k_ y_ e
  simp only [List.mem_cons,List.not_mem_nil,or_false] at hx
  rcases hx with rfl|rfl|rfl|rfl|rfl
  ·exact det_row (hls_flat (rS_flat s.now)) e
  ·exact det_row (rS_flat s.sure) e
  ·exact det_row (rI_flat s.last) e
  ·exact det_row (rI_flat s.slast) e
  ·exact det_row (rI_flat s.fl) e
 have z0:=hz.a0
 have z1:=hz.a1
 have z2:=hz.a2
 have z3:=hz.a3
 have z4:=hz.a4
 refine fn_exact (u0:=5) Try.func50 rfl rfl (gets rfl rfl rfl hd_ rfl) ?_
 clear hd_
 refine vc_seq ?_
 refine vc_region hm ?_
 refine gB (u':=6) trivial rfl rfl rfl rfl rfl rfl rfl rfl ?_
 refine gZ (u':=7) trivial rfl rfl rfl rfl rfl rfl rfl rfl ?_
 refine rg_nil nofun ?_
 refine vc_seq ?_
 refine vc_region hm ?_
 refine gR (u':=8) (out:=rS []) trivial rfl rfl rfl rfl rfl rfl rfl rfl rfl rfl rfl rfl rfl rfl ?_
 refine gF trivial rfl rfl rfl rfl rfl ?_
 refine gL trivial rfl rfl rfl rfl rfl rfl rfl rfl ?_
 refine gAp (u':=9) trivial rfl rfl rfl rfl rfl rfl rfl rfl rfl rfl rfl rfl rfl (cq_len (n:=1) (fun _=>rfl) kk s.now) (cqS_leaf kk _) (show (0 + s.now.length) * (16 + 1)≤140737488355328 by omega) (cqS_eq kk _) (Nat.zero_add _) ?_
 refine gR (u':=10) (out:=rS []) trivial rfl rfl rfl rfl rfl rfl rfl rfl rfl rfl rfl rfl rfl rfl ?_
 refine gF trivial rfl rfl rfl rfl rfl ?_
 refine gL trivial rfl rfl rfl rfl rfl rfl rfl rfl ?_
 refine gAp (u':=11) trivial rfl rfl rfl rfl rfl rfl rfl rfl rfl rfl rfl rfl rfl (cq_len (n:=1) (fun _=>rfl) 0 s.sure) (cqS_leaf 0 _) (show (0 + s.sure.length) * (16 + 1)≤140737488355328 by omega) (cqS_eq 0 _) (Nat.zero_add _) ?_
 refine gR (u':=12) (out:=rI []) trivial rfl rfl rfl rfl rfl rfl rfl rfl rfl rfl rfl rfl rfl rfl ?_
 refine gF trivial rfl rfl rfl rfl rfl ?_
 refine gL trivial rfl rfl rfl rfl rfl rfl rfl rfl ?_
 refine gAp (u':=13) trivial rfl rfl rfl rfl rfl rfl rfl rfl rfl rfl rfl rfl rfl (cq_len (n:=1) (fun _=>rfl) 0 s.last) (cqI_leaf 0 _) (show (0 + s.last.length) * (8 + 1)≤140737488355328 by omega) (cqI_eq 0 _) (Nat.zero_add _) ?_
 refine gR (u':=14) (out:=rI []) trivial rfl rfl rfl rfl rfl rfl rfl rfl rfl rfl rfl rfl rfl rfl ?_
 refine gF trivial rfl rfl rfl rfl rfl ?_
 refine gL trivial rfl rfl rfl rfl rfl rfl rfl rfl ?_
 refine gAp (u':=15) trivial rfl rfl rfl rfl rfl rfl rfl rfl rfl rfl rfl rfl rfl (cq_len (n:=1) (fun _=>rfl) 0 s.slast) (cqI_leaf 0 _) (show (0 + s.slast.length) * (8 + 1)≤140737488355328 by omega) (cqI_eq 0 _) (Nat.zero_add _) ?_
 refine gR (u':=16) (out:=rI []) trivial rfl rfl rfl rfl rfl rfl rfl rfl rfl rfl rfl rfl rfl rfl ?_
 refine gF trivial rfl rfl rfl rfl rfl ?_
 refine gL trivial rfl rfl rfl rfl rfl rfl rfl rfl ?_
 refine gAp (u':=17) trivial rfl rfl rfl rfl rfl rfl rfl rfl rfl rfl rfl rfl rfl (cq_len (n:=1) (fun _=>rfl) 0 s.fl) (cqI_leaf 0 _) (show (0 + s.fl.length) * (8 + 1)≤140737488355328 by omega) (cqI_eq 0 _) (Nat.zero_add _) ?_
 refine gU trivial rfl rfl rfl rfl rfl rfl rfl rfl ?_
 refine gT trivial rfl rfl rfl rfl rfl rfl rfl rfl rfl rfl (Nat.le_of_ble_eq_true rfl) rfl ?_
 refine rg_nil (fun _=>by kernel_rfl) ?_
 refine vc_ret ?_
 exact ⟨_,endsG [(5,8,⟨rS s.now,9,1⟩),(6,10,⟨rS s.sure,9,1⟩),(7,12,⟨rI s.last,3,1⟩),(8,14,⟨rI s.slast,3,1⟩),(9,16,⟨rI s.fl,3,1⟩)] (.inr rfl) (.cell rfl rfl rfl rfl rfl .nil) rfl rfl trivial ⟨⟨rfl,(rS_flat s.now)⟩,⟨rfl,(rS_flat s.sure)⟩,⟨rfl,(rI_flat s.last)⟩,⟨rfl,(rI_flat s.slast)⟩,⟨rfl,(rI_flat s.fl)⟩,trivial⟩ rfl⟩
theorem long_e {t:ByteArray} {n:Int} {j:Nat} (h0:j=0∨(t.size + j:Int)≤n) (h:¬ ((t ++ blankT j).size:Int)<n):longT t n.toNat=t ++ blankT j:=by
 rw [app_size,blankT_size] at h
 unfold longT
 rw [show n.toNat - t.size=j by omega]
theorem wr_spec {t d:ByteArray} {i:Int} (h0:0≤i):((longT t i.toNat).extract (Int.toNat 0) i.toNat ++ d) ++ (longT t i.toNat).extract (mnI ((longT t i.toNat).size:Int) (i + d.size)).toNat ((longT t i.toNat).size:Int).toNat=writeT t i.toNat d:=by
 rw [← write_spec (t:=t) (d:=d) (i:=i.toNat),longT_size,Int.toNat_natCast]
 unfold mnI
 congr 2
 split <;> omega
theorem spec_l2Long_c {t:ByteArray} {n:Int} (hs:t.size≤1000) (h0:0≤n) (h1:n≤1000):FDoes Try.prog 80 [.string t,.int .i64 n] (hp []) { v:=.string (longT t n.toNat) }:=by
 have hm:Try.prog.follows .mixedOrders=true:=by kernel_rfl
 have hd_:∀ x ∈ ([]:List (Nat × Bool × Fam)),∀ k y,x.2.2 k=some y→DetB (lt 0) y:=fun x_ hx=>(by cases hx)
 refine fn_exact (u0:=0) Try.func80 rfl rfl (gets rfl rfl rfl hd_ rfl) ?_
 clear hd_
 refine vc_seq ?_
 refine vc_region hm ?_
 refine gM trivial (.inr rfl) rfl rfl rfl ?_
 refine rg_nil nofun ?_
 refine vc_seq ?_
 refine vc_block ?_
 refine vc_loop' (fun n_ S_=>∃ (j:Nat),(j=0∨(t.size + j:Int)≤n)∧n_=(n - t.size).toNat - j∧S_=⟨0,[(0,.string (t ++ blankT j)),(1,.int .i64 n)],[]⟩) (m0:=idm) ⟨0,(.inl rfl),rfl,rfl⟩ (le_mk rfl ⟨⟨eqT (blank_0 t),rfl⟩,⟨rfl,rfl⟩,trivial⟩ trivial rfl (fun _ _=>rfl)) ?_
 rintro n_ S_ ⟨j,hj,rfl,rfl⟩
 have hbs:(t ++ blankT j).size=t.size + j:=by rw [app_size,blankT_size]
 refine vc_seq ?_
 refine vc_seq ?_
 refine vc_region hm ?_
 refine gM trivial (.inl rfl) rfl rfl rfl ?_
 refine gKT trivial rfl rfl rfl rfl rfl ?_
 refine gM trivial (.inl rfl) rfl rfl rfl ?_
 refine gI trivial rfl rfl rfl rfl rfl rfl ?_
 refine rg_nil nofun ?_
 refine cI rfl (fun c8=>?_) (fun c8=>?_)
 ·skip
  have p8:=of_decide_eq_true c8
  refine vc_skip ?_
  refine vc_block ?_
  refine vc_region hm ?_
  refine gM trivial (.inl rfl) rfl rfl rfl ?_
  refine gCat trivial rfl rfl rfl rfl rfl (by rw [hbs];show t.size + j + 1≤_;omega) ?_
  refine gM trivial (.inr rfl) rfl rfl rfl ?_
  refine rg_nil nofun ?_
  exact lp_next (m:=idm) ⟨j + 1,(.inr (by omega)),rfl,rfl⟩ (by omega) (le_mk rfl ⟨⟨eqT (blank_s t j).symm,rfl⟩,⟨rfl,rfl⟩,trivial⟩ trivial rfl (fun _ _=>rfl))
 ·skip
  have p8:=of_decide_eq_false c8
  refine vc_exit ?_
  refine vc_seq ?_
  refine vc_region hm ?_
  refine gM trivial (.inl rfl) rfl rfl rfl ?_
  refine gM trivial (.inr rfl) rfl rfl rfl ?_
  refine rg_nil nofun ?_
  refine vc_ret ?_
  exact ⟨idm,ends0 (.inr rfl) rfl (eqT (long_e hj p8)) rfl rfl rfl⟩
theorem spec_l2Write_c {t d:ByteArray} {i:Int} (ht:t.size≤48) (h0:0≤i) (h1:i + d.size≤48):FDoes Try.prog 74 [.string t,.int .i64 i,.string d] (hp []) { v:=.string (writeT t i.toNat d) }:=by
 have hm:Try.prog.follows .mixedOrders=true:=by kernel_rfl
 have hd_:∀ x ∈ ([]:List (Nat × Bool × Fam)),∀ k y,x.2.2 k=some y→DetB (lt 0) y:=fun x_ hx=>(by cases hx)
 have hL:(longT t i.toNat).size=max t.size i.toNat:=longT_size t i.toNat
 refine fn_exact (u0:=0) Try.func74 rfl rfl (gets rfl rfl rfl hd_ rfl) ?_
 clear hd_
 refine vc_seq ?_
 refine vc_region hm ?_
 refine gM trivial (.inr rfl) rfl rfl rfl ?_
 refine rg_nil nofun ?_
 refine vc_seq ?_
 refine vc_region hm ?_
 refine gM trivial (.inl rfl) rfl rfl rfl ?_
 refine gM trivial (.inl rfl) rfl rfl rfl ?_
 refine gC0 [] (spec_l2Long_c (t:=t) (n:=i) (by omega) h0 (by omega)) trivial rfl rfl rfl rfl (by trivial) rfl rfl rfl rfl rfl ?_
 refine gM trivial (.inr rfl) rfl rfl rfl ?_
 refine rg_nil nofun ?_
 refine vc_seq ?_
 refine vc_region hm ?_
 refine gM trivial (.inl rfl) rfl rfl rfl ?_
 refine gM trivial (.inl rfl) rfl rfl rfl ?_
 refine gSx trivial rfl rfl rfl rfl rfl rfl rfl (by omega) (by omega) (by omega) ?_
 refine gM trivial (.inl rfl) rfl rfl rfl ?_
 refine gCat trivial rfl rfl rfl rfl rfl (by rw [ByteArray.size_extract];omega) ?_
 refine gM trivial (.inl rfl) rfl rfl rfl ?_
 refine gM trivial (.inl rfl) rfl rfl rfl ?_
 refine gKT trivial rfl rfl rfl rfl rfl ?_
 refine gM trivial (.inl rfl) rfl rfl rfl ?_
 refine gM trivial (.inl rfl) rfl rfl rfl ?_
 refine gKT trivial rfl rfl rfl rfl rfl ?_
 refine gA trivial rfl rfl rfl rfl rfl rfl (by omega) ?_
 refine gC0 [] (spec_l1Min_c ((longT t i.toNat).size:Int) (i + d.size)) trivial rfl rfl rfl rfl (by trivial) rfl rfl rfl rfl rfl ?_
 refine gSx trivial rfl rfl rfl rfl rfl rfl rfl (by unfold mnI;split <;> omega) (by unfold mnI;split <;> omega) (by omega) ?_
 refine gCat trivial rfl rfl rfl rfl rfl (by rw [ByteArray.size_append,ByteArray.size_extract,ByteArray.size_extract];omega) ?_
 refine gM trivial (.inr rfl) rfl rfl rfl ?_
 refine rg_nil (fun _=>by kernel_rfl) ?_
 refine vc_ret ?_
 exact ⟨idm,ends0 (.inr rfl) rfl (eqT (wr_spec h0).symm) rfl rfl rfl⟩
end Go.Proofs.Ytmekkapacbdbeaa.A
namespace Go.Proofs.Ytmekkapacbdbeaa.Sh
open Go.Shelf Go.RowKit Go.Lib
end Go.Proofs.Ytmekkapacbdbeaa.Sh
namespace Go.Proofs.Ytmekkapacbdbeaa.A
open Go Go.RowKit
section
variable {P:Program} {nt:Nat} {ops:Array Oper} {draw:Bool} {rest:List Oper} {u d:Nat} {t:List (Nat × Value)} {h:List (Nat × Bool × Fam)} {acc:List Eff} {K:St→Prop} {o:Oper}
end
end Go.Proofs.Ytmekkapacbdbeaa.A
namespace Go.Proofs.Ytmekkapacbdbeaa.A
open Go Go.RowKit
set_option maxHeartbeats 4000000
theorem whoF {w:Int} (h:whoOk w=false):¬ (0≤w∧w<3):=of_decide_eq_false h
theorem whoT {w:Int} (h:whoOk w=true):0≤w∧w<3:=of_decide_eq_true h
theorem bne_T {d:ByteArray} (h:(d.toList != (⟨#[]⟩:ByteArray).toList)=true):(d.toList == (⟨#[]⟩:ByteArray).toList)=false:=by simpa [bne] using h
theorem bne_F {d:ByteArray} (h:(d.toList != (⟨#[]⟩:ByteArray).toList)=false):(d.toList == (⟨#[]⟩:ByteArray).toList)=true:=by simpa [bne] using h
theorem reqOk_L {q:Rq} (h0:(0≤q.who∧q.who<3)∧0≤q.ep∧q.ep≤100∧1≤q.num∧q.num≤1000∧0≤q.obj∧q.obj<3) (h1:0≤q.a∧q.a≤48) (h2:textOk q.d=true) (h3:(q.d.toList == (⟨#[]⟩:ByteArray).toList)=false):reqOk q=decide (q.a + q.d.size≤48):=by
 unfold reqOk mayW
 have:=empty_F h3
 rw [decide_eq_true h0,h2,Bool.true_and,Bool.and_true]
 exact decide_eq_decide.2 ⟨fun e=>e.2.2.2,fun e=>⟨h1.1,h1.2,this,e⟩⟩
theorem l5Req_c {q:Rq} (hd:q.d.size≤1048576):FDoes Try.prog 73 [vRq q] (hp []) { v:=.bool (reqOk q) }:=by
 have hm:Try.prog.follows .mixedOrders=true:=by kernel_rfl
 have hd_:∀ x ∈ ([]:List (Nat × Bool × Fam)),∀ k y,x.2.2 k=some y→DetB (lt 0) y:=fun x_ hx=>(by cases hx)
 refine fn_exact (u0:=0) Try.func73 rfl rfl (gets rfl rfl rfl hd_ rfl) ?_
 clear hd_
 refine vc_seq ?_
 refine vc_region hm ?_
 refine gB (u':=1) trivial rfl rfl rfl rfl rfl rfl rfl rfl ?_
 refine gM trivial (.inr rfl) rfl rfl rfl ?_
 refine rg_nil nofun ?_
 refine vc_seq ?_
 refine vc_seq ?_
 refine vc_region hm ?_
 refine gF trivial rfl rfl rfl rfl rfl ?_
 refine gL trivial rfl rfl rfl rfl rfl rfl rfl rfl ?_
 refine gC0 [] (spec_l4Who_c q.who) trivial rfl rfl rfl rfl (by trivial) rfl rfl rfl rfl rfl ?_
 refine gN trivial rfl rfl rfl rfl ?_
 refine gM trivial (.inl rfl) rfl rfl rfl ?_
 refine gI2 (d:=7) rfl (fun c7=>?_) (fun c7=>?_)
 ·skip
  have n7:=unT c7
  refine gO ⟨_,_,rfl,rfl,c7⟩ rfl rfl ?_
  refine gO ⟨_,_,rfl,rfl,c7⟩ rfl rfl ?_
  refine gO ⟨_,_,rfl,rfl,c7⟩ rfl rfl ?_
  refine gPT trivial rfl rfl c7 rfl rfl rfl ?_
  refine gM trivial (.inl rfl) rfl rfl rfl ?_
  refine gO ⟨_,_,rfl,rfl,rfl⟩ rfl rfl ?_
  refine gO ⟨_,_,rfl,rfl,rfl⟩ rfl rfl ?_
  refine gO ⟨_,_,rfl,rfl,rfl⟩ rfl rfl ?_
  refine gPT trivial rfl rfl rfl rfl rfl rfl ?_
  refine gM trivial (.inl rfl) rfl rfl rfl ?_
  refine gO ⟨_,_,rfl,rfl,rfl⟩ rfl rfl ?_
  refine gO ⟨_,_,rfl,rfl,rfl⟩ rfl rfl ?_
  refine gO ⟨_,_,rfl,rfl,rfl⟩ rfl rfl ?_
  refine gPT trivial rfl rfl rfl rfl rfl rfl ?_
  refine gM trivial (.inl rfl) rfl rfl rfl ?_
  refine gO ⟨_,_,rfl,rfl,rfl⟩ rfl rfl ?_
  refine gO ⟨_,_,rfl,rfl,rfl⟩ rfl rfl ?_
  refine gO ⟨_,_,rfl,rfl,rfl⟩ rfl rfl ?_
  refine gPT trivial rfl rfl rfl rfl rfl rfl ?_
  refine gM trivial (.inl rfl) rfl rfl rfl ?_
  refine gO ⟨_,_,rfl,rfl,rfl⟩ rfl rfl ?_
  refine gO ⟨_,_,rfl,rfl,rfl⟩ rfl rfl ?_
  refine gO ⟨_,_,rfl,rfl,rfl⟩ rfl rfl ?_
  refine gPT trivial rfl rfl rfl rfl rfl rfl ?_
  refine gM trivial (.inl rfl) rfl rfl rfl ?_
  refine gO ⟨_,_,rfl,rfl,rfl⟩ rfl rfl ?_
  refine gO ⟨_,_,rfl,rfl,rfl⟩ rfl rfl ?_
  refine gO ⟨_,_,rfl,rfl,rfl⟩ rfl rfl ?_
  refine gPT trivial rfl rfl rfl rfl rfl rfl ?_
  refine rg_nil nofun ?_
  refine cT rfl rfl ?_
  refine vc_seq ?_
  refine vc_region hm ?_
  refine gM trivial (.inr rfl) rfl rfl rfl ?_
  refine rg_nil nofun ?_
  refine vc_ret ?_
  exact ⟨idm,ends0 (.inr rfl) rfl (eqB (by first|exact reqOk_F (fun e=>whoF (by assumption) e.1)|exact reqOk_F (by omega))) rfl rfl rfl⟩
 ·skip
  have n7:=unF c7
  refine gF ⟨_,_,rfl,rfl,c7⟩ rfl rfl rfl rfl rfl ?_
  refine gL ⟨_,_,rfl,rfl,c7⟩ rfl rfl rfl rfl rfl rfl rfl rfl ?_
  refine gI ⟨_,_,rfl,rfl,c7⟩ rfl rfl rfl rfl rfl rfl ?_
  refine gPF trivial rfl rfl c7 rfl rfl rfl ?_
  refine gM trivial (.inl rfl) rfl rfl rfl ?_
  refine gI2 (d:=12) rfl (fun c12=>?_) (fun c12=>?_)
  ·skip
   have p12:=of_decide_eq_true c12
   refine gO ⟨_,_,rfl,rfl,c12⟩ rfl rfl ?_
   refine gO ⟨_,_,rfl,rfl,c12⟩ rfl rfl ?_
   refine gO ⟨_,_,rfl,rfl,c12⟩ rfl rfl ?_
   refine gPT trivial rfl rfl c12 rfl rfl rfl ?_
   refine gM trivial (.inl rfl) rfl rfl rfl ?_
   refine gO ⟨_,_,rfl,rfl,rfl⟩ rfl rfl ?_
   refine gO ⟨_,_,rfl,rfl,rfl⟩ rfl rfl ?_
   refine gO ⟨_,_,rfl,rfl,rfl⟩ rfl rfl ?_
   refine gPT trivial rfl rfl rfl rfl rfl rfl ?_
   refine gM trivial (.inl rfl) rfl rfl rfl ?_
   refine gO ⟨_,_,rfl,rfl,rfl⟩ rfl rfl ?_
   refine gO ⟨_,_,rfl,rfl,rfl⟩ rfl rfl ?_
   refine gO ⟨_,_,rfl,rfl,rfl⟩ rfl rfl ?_
   refine gPT trivial rfl rfl rfl rfl rfl rfl ?_
   refine gM trivial (.inl rfl) rfl rfl rfl ?_
   refine gO ⟨_,_,rfl,rfl,rfl⟩ rfl rfl ?_
   refine gO ⟨_,_,rfl,rfl,rfl⟩ rfl rfl ?_
   refine gO ⟨_,_,rfl,rfl,rfl⟩ rfl rfl ?_
   refine gPT trivial rfl rfl rfl rfl rfl rfl ?_
   refine gM trivial (.inl rfl) rfl rfl rfl ?_
   refine gO ⟨_,_,rfl,rfl,rfl⟩ rfl rfl ?_
   refine gO ⟨_,_,rfl,rfl,rfl⟩ rfl rfl ?_
   refine gO ⟨_,_,rfl,rfl,rfl⟩ rfl rfl ?_
   refine gPT trivial rfl rfl rfl rfl rfl rfl ?_
   refine rg_nil nofun ?_
   refine cT rfl rfl ?_
   refine vc_seq ?_
   refine vc_region hm ?_
   refine gM trivial (.inr rfl) rfl rfl rfl ?_
   refine rg_nil nofun ?_
   refine vc_ret ?_
   exact ⟨idm,ends0 (.inr rfl) rfl (eqB (by first|exact reqOk_F (fun e=>whoF (by assumption) e.1)|exact reqOk_F (by omega))) rfl rfl rfl⟩
  ·skip
   have p12:=of_decide_eq_false c12
   refine gF ⟨_,_,rfl,rfl,c12⟩ rfl rfl rfl rfl rfl ?_
   refine gL ⟨_,_,rfl,rfl,c12⟩ rfl rfl rfl rfl rfl rfl rfl rfl ?_
   refine gI ⟨_,_,rfl,rfl,c12⟩ rfl rfl rfl rfl rfl rfl ?_
   refine gPF trivial rfl rfl c12 rfl rfl rfl ?_
   refine gM trivial (.inl rfl) rfl rfl rfl ?_
   refine gI2 (d:=17) rfl (fun c17=>?_) (fun c17=>?_)
   ·skip
    have p17:=of_decide_eq_true c17
    refine gO ⟨_,_,rfl,rfl,c17⟩ rfl rfl ?_
    refine gO ⟨_,_,rfl,rfl,c17⟩ rfl rfl ?_
    refine gO ⟨_,_,rfl,rfl,c17⟩ rfl rfl ?_
    refine gPT trivial rfl rfl c17 rfl rfl rfl ?_
    refine gM trivial (.inl rfl) rfl rfl rfl ?_
    refine gO ⟨_,_,rfl,rfl,rfl⟩ rfl rfl ?_
    refine gO ⟨_,_,rfl,rfl,rfl⟩ rfl rfl ?_
    refine gO ⟨_,_,rfl,rfl,rfl⟩ rfl rfl ?_
    refine gPT trivial rfl rfl rfl rfl rfl rfl ?_
    refine gM trivial (.inl rfl) rfl rfl rfl ?_
    refine gO ⟨_,_,rfl,rfl,rfl⟩ rfl rfl ?_
    refine gO ⟨_,_,rfl,rfl,rfl⟩ rfl rfl ?_
    refine gO ⟨_,_,rfl,rfl,rfl⟩ rfl rfl ?_
    refine gPT trivial rfl rfl rfl rfl rfl rfl ?_
    refine gM trivial (.inl rfl) rfl rfl rfl ?_
    refine gO ⟨_,_,rfl,rfl,rfl⟩ rfl rfl ?_
    refine gO ⟨_,_,rfl,rfl,rfl⟩ rfl rfl ?_
    refine gO ⟨_,_,rfl,rfl,rfl⟩ rfl rfl ?_
    refine gPT trivial rfl rfl rfl rfl rfl rfl ?_
    refine rg_nil nofun ?_
    refine cT rfl rfl ?_
    refine vc_seq ?_
    refine vc_region hm ?_
    refine gM trivial (.inr rfl) rfl rfl rfl ?_
    refine rg_nil nofun ?_
    refine vc_ret ?_
    exact ⟨idm,ends0 (.inr rfl) rfl (eqB (by first|exact reqOk_F (fun e=>whoF (by assumption) e.1)|exact reqOk_F (by omega))) rfl rfl rfl⟩
   ·skip
    have p17:=of_decide_eq_false c17
    refine gF ⟨_,_,rfl,rfl,c17⟩ rfl rfl rfl rfl rfl ?_
    refine gL ⟨_,_,rfl,rfl,c17⟩ rfl rfl rfl rfl rfl rfl rfl rfl ?_
    refine gI ⟨_,_,rfl,rfl,c17⟩ rfl rfl rfl rfl rfl rfl ?_
    refine gPF trivial rfl rfl c17 rfl rfl rfl ?_
    refine gM trivial (.inl rfl) rfl rfl rfl ?_
    refine gI2 (d:=22) rfl (fun c22=>?_) (fun c22=>?_)
    ·skip
     have p22:=of_decide_eq_true c22
     refine gO ⟨_,_,rfl,rfl,c22⟩ rfl rfl ?_
     refine gO ⟨_,_,rfl,rfl,c22⟩ rfl rfl ?_
     refine gO ⟨_,_,rfl,rfl,c22⟩ rfl rfl ?_
     refine gPT trivial rfl rfl c22 rfl rfl rfl ?_
     refine gM trivial (.inl rfl) rfl rfl rfl ?_
     refine gO ⟨_,_,rfl,rfl,rfl⟩ rfl rfl ?_
     refine gO ⟨_,_,rfl,rfl,rfl⟩ rfl rfl ?_
     refine gO ⟨_,_,rfl,rfl,rfl⟩ rfl rfl ?_
     refine gPT trivial rfl rfl rfl rfl rfl rfl ?_
     refine gM trivial (.inl rfl) rfl rfl rfl ?_
     refine gO ⟨_,_,rfl,rfl,rfl⟩ rfl rfl ?_
     refine gO ⟨_,_,rfl,rfl,rfl⟩ rfl rfl ?_
     refine gO ⟨_,_,rfl,rfl,rfl⟩ rfl rfl ?_
     refine gPT trivial rfl rfl rfl rfl rfl rfl ?_
     refine rg_nil nofun ?_
     refine cT rfl rfl ?_
     refine vc_seq ?_
     refine vc_region hm ?_
     refine gM trivial (.inr rfl) rfl rfl rfl ?_
     refine rg_nil nofun ?_
     refine vc_ret ?_
     exact ⟨idm,ends0 (.inr rfl) rfl (eqB (by first|exact reqOk_F (fun e=>whoF (by assumption) e.1)|exact reqOk_F (by omega))) rfl rfl rfl⟩
    ·skip
     have p22:=of_decide_eq_false c22
     refine gF ⟨_,_,rfl,rfl,c22⟩ rfl rfl rfl rfl rfl ?_
     refine gL ⟨_,_,rfl,rfl,c22⟩ rfl rfl rfl rfl rfl rfl rfl rfl ?_
     refine gI ⟨_,_,rfl,rfl,c22⟩ rfl rfl rfl rfl rfl rfl ?_
     refine gPF trivial rfl rfl c22 rfl rfl rfl ?_
     refine gM trivial (.inl rfl) rfl rfl rfl ?_
     refine gI2 (d:=27) rfl (fun c27=>?_) (fun c27=>?_)
     ·skip
      have p27:=of_decide_eq_true c27
      refine gO ⟨_,_,rfl,rfl,c27⟩ rfl rfl ?_
      refine gO ⟨_,_,rfl,rfl,c27⟩ rfl rfl ?_
      refine gO ⟨_,_,rfl,rfl,c27⟩ rfl rfl ?_
      refine gPT trivial rfl rfl c27 rfl rfl rfl ?_
      refine gM trivial (.inl rfl) rfl rfl rfl ?_
      refine gO ⟨_,_,rfl,rfl,rfl⟩ rfl rfl ?_
      refine gO ⟨_,_,rfl,rfl,rfl⟩ rfl rfl ?_
      refine gO ⟨_,_,rfl,rfl,rfl⟩ rfl rfl ?_
      refine gPT trivial rfl rfl rfl rfl rfl rfl ?_
      refine rg_nil nofun ?_
      refine cT rfl rfl ?_
      refine vc_seq ?_
      refine vc_region hm ?_
      refine gM trivial (.inr rfl) rfl rfl rfl ?_
      refine rg_nil nofun ?_
      refine vc_ret ?_
      exact ⟨idm,ends0 (.inr rfl) rfl (eqB (by first|exact reqOk_F (fun e=>whoF (by assumption) e.1)|exact reqOk_F (by omega))) rfl rfl rfl⟩
     ·skip
      have p27:=of_decide_eq_false c27
      refine gF ⟨_,_,rfl,rfl,c27⟩ rfl rfl rfl rfl rfl ?_
      refine gL ⟨_,_,rfl,rfl,c27⟩ rfl rfl rfl rfl rfl rfl rfl rfl ?_
      refine gI ⟨_,_,rfl,rfl,c27⟩ rfl rfl rfl rfl rfl rfl ?_
      refine gPF trivial rfl rfl c27 rfl rfl rfl ?_
      refine gM trivial (.inl rfl) rfl rfl rfl ?_
      refine gI2 (d:=32) rfl (fun c32=>?_) (fun c32=>?_)
      ·skip
       have p32:=of_decide_eq_true c32
       refine gO ⟨_,_,rfl,rfl,c32⟩ rfl rfl ?_
       refine gO ⟨_,_,rfl,rfl,c32⟩ rfl rfl ?_
       refine gO ⟨_,_,rfl,rfl,c32⟩ rfl rfl ?_
       refine gPT trivial rfl rfl c32 rfl rfl rfl ?_
       refine rg_nil nofun ?_
       refine cT rfl rfl ?_
       refine vc_seq ?_
       refine vc_region hm ?_
       refine gM trivial (.inr rfl) rfl rfl rfl ?_
       refine rg_nil nofun ?_
       refine vc_ret ?_
       exact ⟨idm,ends0 (.inr rfl) rfl (eqB (by first|exact reqOk_F (fun e=>whoF (by assumption) e.1)|exact reqOk_F (by omega))) rfl rfl rfl⟩
      ·skip
       have p32:=of_decide_eq_false c32
       refine gF ⟨_,_,rfl,rfl,c32⟩ rfl rfl rfl rfl rfl ?_
       refine gL ⟨_,_,rfl,rfl,c32⟩ rfl rfl rfl rfl rfl rfl rfl rfl ?_
       refine gI ⟨_,_,rfl,rfl,c32⟩ rfl rfl rfl rfl rfl rfl ?_
       refine gPF trivial rfl rfl c32 rfl rfl rfl ?_
       refine rg_nil nofun ?_
       refine cI rfl (fun c36=>?_) (fun c36=>?_)
       ·skip
        have p36:=of_decide_eq_true c36
        refine vc_seq ?_
        refine vc_region hm ?_
        refine gM trivial (.inr rfl) rfl rfl rfl ?_
        refine rg_nil nofun ?_
        refine vc_ret ?_
        exact ⟨idm,ends0 (.inr rfl) rfl (eqB (by first|exact reqOk_F (fun e=>whoF (by assumption) e.1)|exact reqOk_F (by omega))) rfl rfl rfl⟩
       ·skip
        have p36:=of_decide_eq_false c36
        refine vc_skip ?_
        refine vc_seq ?_
        refine vc_region hm ?_
        refine gF trivial rfl rfl rfl rfl rfl ?_
        refine gL trivial rfl rfl rfl rfl rfl rfl rfl rfl ?_
        refine gI trivial rfl rfl rfl rfl rfl rfl ?_
        refine gM trivial (.inl rfl) rfl rfl rfl ?_
        refine gI2 (d:=40) rfl (fun c40=>?_) (fun c40=>?_)
        ·skip
         have p40:=of_decide_eq_true c40
         refine gF ⟨_,_,rfl,rfl,c40⟩ rfl rfl rfl rfl rfl ?_
         refine gL ⟨_,_,rfl,rfl,c40⟩ rfl rfl rfl rfl rfl rfl rfl rfl ?_
         refine gI ⟨_,_,rfl,rfl,c40⟩ rfl rfl rfl rfl rfl rfl ?_
         refine gPT trivial rfl rfl c40 rfl rfl rfl ?_
         refine gM trivial (.inl rfl) rfl rfl rfl ?_
         refine gI2 (d:=45) rfl (fun c45=>?_) (fun c45=>?_)
         ·skip
          have p45:=of_decide_eq_true c45
          refine gF ⟨_,_,rfl,rfl,c45⟩ rfl rfl rfl rfl rfl ?_
          refine gL ⟨_,_,rfl,rfl,c45⟩ rfl rfl rfl rfl rfl rfl rfl rfl ?_
          refine gC0 [] (spec_TextOk_c (s:=q.d) (by omega)) ⟨_,_,rfl,rfl,c45⟩ rfl rfl rfl rfl (by trivial) rfl rfl rfl rfl rfl ?_
          refine gPT trivial rfl rfl c45 rfl rfl rfl ?_
          refine gM trivial (.inl rfl) rfl rfl rfl ?_
          refine gI2 (d:=50) rfl (fun c50=>?_) (fun c50=>?_)
          ·skip
           refine gF ⟨_,_,rfl,rfl,c50⟩ rfl rfl rfl rfl rfl ?_
           refine gL ⟨_,_,rfl,rfl,c50⟩ rfl rfl rfl rfl rfl rfl rfl rfl ?_
           refine gS ⟨_,_,rfl,rfl,c50⟩ rfl rfl rfl rfl rfl rfl ?_
           refine gPT trivial rfl rfl c50 rfl rfl rfl ?_
           refine gM trivial (.inl rfl) rfl rfl rfl ?_
           refine gI2 (d:=55) rfl (fun c55=>?_) (fun c55=>?_)
           ·skip
            refine gF ⟨_,_,rfl,rfl,c55⟩ rfl rfl rfl rfl rfl ?_
            refine gL ⟨_,_,rfl,rfl,c55⟩ rfl rfl rfl rfl rfl rfl rfl rfl ?_
            refine gF ⟨_,_,rfl,rfl,c55⟩ rfl rfl rfl rfl rfl ?_
            refine gL ⟨_,_,rfl,rfl,c55⟩ rfl rfl rfl rfl rfl rfl rfl rfl ?_
            refine gKT ⟨_,_,rfl,rfl,c55⟩ rfl rfl rfl rfl rfl ?_
            refine gA ⟨_,_,rfl,rfl,c55⟩ rfl rfl rfl rfl rfl rfl (by have:=textOk_len c50;omega) ?_
            refine gI ⟨_,_,rfl,rfl,c55⟩ rfl rfl rfl rfl rfl rfl ?_
            refine gPT trivial rfl rfl c55 rfl rfl rfl ?_
            refine gM trivial (.inr rfl) rfl rfl rfl ?_
            refine rg_nil nofun ?_
            refine vc_ret ?_
            exact ⟨idm,ends0 (.inr rfl) rfl (eqB (reqOk_L ⟨whoT n7,by omega⟩ (by omega) c50 (bne_T c55))) rfl rfl rfl⟩
           ·skip
            refine gO ⟨_,_,rfl,rfl,c55⟩ rfl rfl ?_
            refine gO ⟨_,_,rfl,rfl,c55⟩ rfl rfl ?_
            refine gO ⟨_,_,rfl,rfl,c55⟩ rfl rfl ?_
            refine gO ⟨_,_,rfl,rfl,c55⟩ rfl rfl ?_
            refine gO ⟨_,_,rfl,rfl,c55⟩ rfl rfl ?_
            refine gO ⟨_,_,rfl,rfl,c55⟩ rfl rfl ?_
            refine gO ⟨_,_,rfl,rfl,c55⟩ rfl rfl ?_
            refine gPF trivial rfl rfl c55 rfl rfl rfl ?_
            refine gM trivial (.inr rfl) rfl rfl rfl ?_
            refine rg_nil nofun ?_
            refine vc_ret ?_
            exact ⟨idm,ends0 (.inr rfl) rfl (eqB (reqOk_W (mayW_3 (bne_F c55)))) rfl rfl rfl⟩
          ·skip
           refine gO ⟨_,_,rfl,rfl,c50⟩ rfl rfl ?_
           refine gO ⟨_,_,rfl,rfl,c50⟩ rfl rfl ?_
           refine gO ⟨_,_,rfl,rfl,c50⟩ rfl rfl ?_
           refine gPF trivial rfl rfl c50 rfl rfl rfl ?_
           refine gM trivial (.inl rfl) rfl rfl rfl ?_
           refine gO ⟨_,_,rfl,rfl,rfl⟩ rfl rfl ?_
           refine gO ⟨_,_,rfl,rfl,rfl⟩ rfl rfl ?_
           refine gO ⟨_,_,rfl,rfl,rfl⟩ rfl rfl ?_
           refine gO ⟨_,_,rfl,rfl,rfl⟩ rfl rfl ?_
           refine gO ⟨_,_,rfl,rfl,rfl⟩ rfl rfl ?_
           refine gO ⟨_,_,rfl,rfl,rfl⟩ rfl rfl ?_
           refine gO ⟨_,_,rfl,rfl,rfl⟩ rfl rfl ?_
           refine gPF trivial rfl rfl rfl rfl rfl rfl ?_
           refine gM trivial (.inr rfl) rfl rfl rfl ?_
           refine rg_nil nofun ?_
           refine vc_ret ?_
           exact ⟨idm,ends0 (.inr rfl) rfl (eqB (reqOk_W (mayW_4 c50))) rfl rfl rfl⟩
         ·skip
          have p45:=of_decide_eq_false c45
          refine gO ⟨_,_,rfl,rfl,c45⟩ rfl rfl ?_
          refine gO ⟨_,_,rfl,rfl,c45⟩ rfl rfl ?_
          refine gO ⟨_,_,rfl,rfl,c45⟩ rfl rfl ?_
          refine gPF trivial rfl rfl c45 rfl rfl rfl ?_
          refine gM trivial (.inl rfl) rfl rfl rfl ?_
          refine gO ⟨_,_,rfl,rfl,rfl⟩ rfl rfl ?_
          refine gO ⟨_,_,rfl,rfl,rfl⟩ rfl rfl ?_
          refine gO ⟨_,_,rfl,rfl,rfl⟩ rfl rfl ?_
          refine gPF trivial rfl rfl rfl rfl rfl rfl ?_
          refine gM trivial (.inl rfl) rfl rfl rfl ?_
          refine gO ⟨_,_,rfl,rfl,rfl⟩ rfl rfl ?_
          refine gO ⟨_,_,rfl,rfl,rfl⟩ rfl rfl ?_
          refine gO ⟨_,_,rfl,rfl,rfl⟩ rfl rfl ?_
          refine gO ⟨_,_,rfl,rfl,rfl⟩ rfl rfl ?_
          refine gO ⟨_,_,rfl,rfl,rfl⟩ rfl rfl ?_
          refine gO ⟨_,_,rfl,rfl,rfl⟩ rfl rfl ?_
          refine gO ⟨_,_,rfl,rfl,rfl⟩ rfl rfl ?_
          refine gPF trivial rfl rfl rfl rfl rfl rfl ?_
          refine gM trivial (.inr rfl) rfl rfl rfl ?_
          refine rg_nil nofun ?_
          refine vc_ret ?_
          exact ⟨idm,ends0 (.inr rfl) rfl (eqB (reqOk_W (mayW_2 (by omega)))) rfl rfl rfl⟩
        ·skip
         have p40:=of_decide_eq_false c40
         refine gO ⟨_,_,rfl,rfl,c40⟩ rfl rfl ?_
         refine gO ⟨_,_,rfl,rfl,c40⟩ rfl rfl ?_
         refine gO ⟨_,_,rfl,rfl,c40⟩ rfl rfl ?_
         refine gPF trivial rfl rfl c40 rfl rfl rfl ?_
         refine gM trivial (.inl rfl) rfl rfl rfl ?_
         refine gO ⟨_,_,rfl,rfl,rfl⟩ rfl rfl ?_
         refine gO ⟨_,_,rfl,rfl,rfl⟩ rfl rfl ?_
         refine gO ⟨_,_,rfl,rfl,rfl⟩ rfl rfl ?_
         refine gPF trivial rfl rfl rfl rfl rfl rfl ?_
         refine gM trivial (.inl rfl) rfl rfl rfl ?_
         refine gO ⟨_,_,rfl,rfl,rfl⟩ rfl rfl ?_
         refine gO ⟨_,_,rfl,rfl,rfl⟩ rfl rfl ?_
         refine gO ⟨_,_,rfl,rfl,rfl⟩ rfl rfl ?_
         refine gPF trivial rfl rfl rfl rfl rfl rfl ?_
         refine gM trivial (.inl rfl) rfl rfl rfl ?_
         refine gO ⟨_,_,rfl,rfl,rfl⟩ rfl rfl ?_
         refine gO ⟨_,_,rfl,rfl,rfl⟩ rfl rfl ?_
         refine gO ⟨_,_,rfl,rfl,rfl⟩ rfl rfl ?_
         refine gO ⟨_,_,rfl,rfl,rfl⟩ rfl rfl ?_
         refine gO ⟨_,_,rfl,rfl,rfl⟩ rfl rfl ?_
         refine gO ⟨_,_,rfl,rfl,rfl⟩ rfl rfl ?_
         refine gO ⟨_,_,rfl,rfl,rfl⟩ rfl rfl ?_
         refine gPF trivial rfl rfl rfl rfl rfl rfl ?_
         refine gM trivial (.inr rfl) rfl rfl rfl ?_
         refine rg_nil nofun ?_
         refine vc_ret ?_
         exact ⟨idm,ends0 (.inr rfl) rfl (eqB (reqOk_W (mayW_1 (by omega)))) rfl rfl rfl⟩
end Go.Proofs.Ytmekkapacbdbeaa.A
namespace Go.Proofs.Ytmekkapacbdbeaa.A
open Go Go.RowKit
section
variable {P:Program} {nt:Nat} {ops:Array Oper} {draw:Bool} {rest:List Oper} {u d:Nat} {t:List (Nat × Value)} {h:List (Nat × Bool × Fam)} {acc:List Eff} {K:St→Prop} {o:Oper}
end
abbrev NMap:=Nat→Option Nat
def nilN:Nam:=⟨0,0,true,none⟩
def envT (ρ:Env) (τ:NMap):Env:=fun n=>match τ n with|some n'=>ρ n'|none=>nilN
def tn1 (τ:NMap):Value→Value
 | .pointer (some ⟨b,k,s⟩)=>match τ b with|some b'=>.pointer (some ⟨b',k,s⟩)|none=>.pointer (some ⟨b,k,s⟩)
 | .slice (some ⟨b,k,s⟩) n c=>match τ b with|some b'=>.slice (some ⟨b',k,s⟩) n c|none=>.slice none 0 0
 | v=>v
def tn2 (τ:NMap):Value→Value
 | .agg cs=>.agg (cs.toList.map (tn1 τ)).toArray
 | v=>tn1 τ v
def tn3 (τ:NMap):Value→Value
 | .tuple vs=>.tuple (vs.toList.map (tn2 τ)).toArray
 | .func f x c=>.func f (x.toList.map (tn2 τ)).toArray (c.toList.map (tn2 τ)).toArray
 | v=>tn2 τ v
def po1 (τ:NMap):Value→Bool
 | .pointer (some a)=>(τ a.block).isSome
 | _=>true
def po2 (τ:NMap):Value→Bool
 | .agg cs=>cs.toList.all (po1 τ)
 | v=>po1 τ v
def po3 (τ:NMap):Value→Bool
 | .tuple vs=>vs.toList.all (po2 τ)
 | .func _ x c=>x.toList.all (po2 τ) && c.toList.all (po2 τ)
 | v=>po2 τ v
def Blk.tn (τ:NMap) (b:Blk):Blk:={ b with cs:=b.cs.map (tn1 τ) }
theorem r1_tn {ρ:Env} {τ:NMap} {v:Value} (h:po1 τ v=true):r1 ρ (tn1 τ v)=r1 (envT ρ τ) v:=by
 cases v with
 | pointer a =>
  cases a with
  | none=>rfl
  | some a =>
   obtain ⟨b,k,s⟩:=a
   have h:(τ b).isSome=true:=h
   obtain ⟨b',hb⟩:=Option.isSome_iff_exists.1 h
   simp [tn1,r1,envT,hb]
 | slice a n c =>
  cases a with
  | none=>rfl
  | some a =>
   obtain ⟨b,k,s⟩:=a
   cases hb:τ b with
   | none=>simp [tn1,r1,envT,hb,nilN,zv]
   | some b'=>simp [tn1,r1,envT,hb]
 | _=>rfl
theorem map_tn {ρ:Env} {τ:NMap} {cs:List Value} (h:cs.all (po1 τ)=true):(cs.map (tn1 τ)).map (r1 ρ)=cs.map (r1 (envT ρ τ)):=by
 rw [List.map_map]
 exact List.map_congr_left fun v hv=>r1_tn (List.all_eq_true.1 h v hv)
theorem r2_tn {ρ:Env} {τ:NMap} {v:Value} (h:po2 τ v=true):r2 ρ (tn2 τ v)=r2 (envT ρ τ) v:=by
 cases v with
 | agg cs =>
  show Value.agg _ = .agg _
  congr 1
  apply Array.ext'
  simpa using map_tn (ρ:=ρ) (cs:=cs.toList) h
 | pointer a =>
  cases a with
  | none=>rfl
  | some a =>
   obtain ⟨b,k,s⟩:=a
   have h:(τ b).isSome=true:=h
   obtain ⟨b',hb⟩:=Option.isSome_iff_exists.1 h
   simp [tn2,tn1,r2,r1,envT,hb]
 | slice a n c =>
  cases a with
  | none=>rfl
  | some a =>
   obtain ⟨b,k,s⟩:=a
   cases hb:τ b with
   | none=>simp [tn2,tn1,r2,r1,envT,hb,nilN,zv]
   | some b'=>simp [tn2,tn1,r2,r1,envT,hb]
 | _=>rfl
theorem r3_tn {ρ:Env} {τ:NMap} {v:Value} (h:po3 τ v=true):r3 ρ (tn3 τ v)=r3 (envT ρ τ) v:=by
 have arr:∀ a:Array Value,a.toList.all (po2 τ)=true→(a.toList.map (tn2 τ)).toArray.map (r2 ρ)=a.map (r2 (envT ρ τ)):=fun a ha=>by
  apply Array.ext'
  simp only [Array.toList_map,List.map_map]
  exact List.map_congr_left fun v hv=>r2_tn (List.all_eq_true.1 ha v hv)
 cases v with
 | tuple vs=>show Value.tuple _ = .tuple _;rw [arr vs h]
 | func f x c =>
  unfold po3 at h
  rw [Bool.and_eq_true] at h
  show Value.func _ _ _ = .func _ _ _
  rw [arr x h.1,arr c h.2]
 | agg cs=>exact r2_tn (v:=.agg cs) h
 | pointer a =>
  cases a with
  | none=>rfl
  | some a =>
   obtain ⟨b,k,s⟩:=a
   have h:(τ b).isSome=true:=h
   obtain ⟨b',hb⟩:=Option.isSome_iff_exists.1 h
   simp [tn3,tn2,tn1,r3,r2,r1,envT,hb]
 | slice a n c =>
  cases a with
  | none=>rfl
  | some a =>
   obtain ⟨b,k,s⟩:=a
   cases hb:τ b with
   | none=>simp [tn3,tn2,tn1,r3,r2,r1,envT,hb,nilN,zv]
   | some b'=>simp [tn3,tn2,tn1,r3,r2,r1,envT,hb]
 | _=>rfl
theorem tn1_hole {τ:NMap} {v:Value}:tn1 τ v=hole↔v=hole:=by
 cases v with
 | pointer a=>cases a with
  | none=>simp [tn1,hole]
  | some a=>obtain ⟨b,k,s⟩:=a;cases hb:τ b <;> simp [tn1,hole,hb]
 | slice a n c=>cases a with
  | none=>simp [tn1,hole]
  | some a=>obtain ⟨b,k,s⟩:=a;cases hb:τ b <;> simp [tn1,hole,hb]
 | _=>simp [tn1]
theorem tn_len {τ:NMap} {x:Blk}:(x.tn τ).cs.length=x.cs.length:=by simp [Blk.tn]
theorem blkAt_tn {ρ:Env} {τ:NMap} {w:World} {n n':Nat} {x:Blk} (h:τ n=some n') (hp:x.cs.all (po1 τ)=true):blkAt ρ w n' (x.tn τ)↔blkAt (envT ρ τ) w n x:=by
 have e:envT ρ τ n=ρ n':=by simp [envT,h]
 have e2:(x.tn τ).cs.map (r1 ρ)=x.cs.map (r1 (envT ρ τ)):=map_tn hp
 have e3:(x.tn τ).cs.length=x.cs.length:=tn_len
 have e4:(x.tn τ).cs = []↔x.cs = []:=by rw [← List.length_eq_zero_iff,e3,List.length_eq_zero_iff]
 have e5:(∀ c:Array Value,(∀ (i:Nat) (v:Value),(x.tn τ).cs[i]?=some v→v ≠ hole→c[i]?=some (r1 ρ v))↔∀ (i:Nat) (v:Value),x.cs[i]?=some v→v ≠ hole→c[i]?=some (r1 (envT ρ τ) v)):=fun c=>by
  constructor
  ·intro H i v hv hne
   have:=H i (tn1 τ v) (by simp [Blk.tn,hv]) fun q=>hne (tn1_hole.1 q)
   rw [this,r1_tn (List.all_eq_true.1 hp v (List.mem_of_getElem? hv))]
  ·intro H i v hv hne
   simp only [Blk.tn,List.getElem?_map,Option.map_eq_some_iff] at hv
   obtain ⟨u,hu,rfl⟩:=hv
   rw [H i u hu fun q=>hne (tn1_hole.2 q),r1_tn (List.all_eq_true.1 hp u (List.mem_of_getElem? hu))]
 unfold blkAt
 rw [e,e2,e3,e4]
 simp only [e5]
 rfl
def HolL (cs cs':List Value):Prop:=(cs' = []→cs = [])∧∀ (i:Nat) (v:Value),cs[i]?=some v→v ≠ hole→cs'[i]?=some v
theorem HolL.refl (cs:List Value):HolL cs cs:=⟨id,fun _ _ h _=>h⟩
structure BlkW (x x':Blk):Prop where
 cs:x'.cs=x.cs∨(x.e=0∧HolL x.cs x'.cs)
 t:x.e ≠ 0→x'.t=x.t
 e:x.e=0∨x'.e=x.e∨(77≤x.e∧x.e<100∧x'.e ≠ 0)
 w:x.e=0→(x'.e=0∧x'.t=x.t)∨x.t≤capT
theorem BlkW.refl (x:Blk):BlkW x x:=⟨.inl rfl,fun _=>rfl,.inr (.inl rfl),fun q=>.inl ⟨q,rfl⟩⟩
theorem blkAt_w {ρ:Env} {w:World} {n:Nat} {x x':Blk} (l:BlkW x x') (h:blkAt ρ w n x'):blkAt ρ w n x:=by
 by_cases h0:x.e=0
 ·have hcap:(ρ n).nil=false→x.t - capT≤(ρ n).cap:=fun hn=>by
   rcases l.w h0 with ⟨q,qt⟩|q
   ·unfold blkAt at h
    rw [hn,if_neg (by decide),if_pos q] at h
    obtain ⟨c,t,z,_,_,h3⟩:=h
    rw [qt] at h3
    exact h3
   ·rw [Nat.sub_eq_zero_of_le q];exact Nat.zero_le _
  have:blkAt ρ w n ⟨x'.cs,x.t,0⟩:=by
   unfold blkAt at h ⊢
   cases hn:(ρ n).nil with
   | true=>rw [hn,if_pos rfl] at h;rw [if_pos rfl];exact ⟨h.1,fun q=>absurd rfl q,(by decide:0<100)⟩
   | false =>
    rw [if_neg (by decide),if_pos rfl]
    rw [hn,if_neg (by decide)] at h
    by_cases hne:x'.cs = []
    ·split at h
     ·obtain ⟨c,t,z,h1,_⟩:=h
      exact ⟨c,t,z,h1,fun i v hv=>(by rw [hne] at hv;cases hv),hcap hn⟩
     ·obtain ⟨sl,z,h1,_⟩:=h
      exact ⟨_,_,_,h1,fun i v hv=>(by rw [hne] at hv;cases hv),hcap hn⟩
    ·obtain ⟨_,c,t,z,h1,h2⟩:=blkAt_cell (x:=x') (by unfold blkAt;rw [hn,if_neg (by decide)];exact h) hne
     exact ⟨c,t,z,h1,h2,hcap hn⟩
  obtain ⟨cs,t,e⟩:=x
  have hc:HolL cs x'.cs:=l.cs.elim (fun q=>by rw [q];exact HolL.refl _) fun q=>q.2
  have h0:e=0:=h0
  subst h0
  unfold blkAt at this ⊢
  cases hn:(ρ n).nil with
  | true=>rw [hn,if_pos rfl] at this;rw [if_pos rfl];exact ⟨hc.1 this.1,fun q=>absurd rfl q,(by decide:0<100)⟩
  | false =>
   rw [hn,if_neg (by decide),if_pos rfl] at this
   rw [if_neg (by decide),if_pos rfl]
   obtain ⟨c,t',z,h1,h2,h3⟩:=this
   exact ⟨c,t',z,h1,fun i v hv hh=>h2 i v (hc.2 i v hv hh) hh,h3⟩
 ·have lcs:x'.cs=x.cs:=l.cs.elim id fun q=>absurd q.1 h0
  rcases l.e with e|e|⟨e1,e2,e3⟩
  ·exact absurd e h0
  ·obtain ⟨cs,t,e'⟩:=x
   obtain ⟨cs',t',e''⟩:=x'
   have a1:cs'=cs:=lcs
   have a2:t'=t:=l.t h0
   have a3:e''=e':=e
   subst a1 a2 a3
   exact h
  ·unfold blkAt at h ⊢
   rw [lcs] at h
   cases hn:(ρ n).nil with
   | true=>rw [hn,if_pos rfl] at h;rw [if_pos rfl];exact ⟨h.1,fun _=>h.2.1 e3,e2⟩
   | false =>
    rw [hn,if_neg (by decide),if_neg e3] at h
    rw [if_neg (by decide),if_neg h0]
    obtain ⟨sl,z,h1,h2,h3,h4⟩:=h
    exact ⟨sl,z,by rw [← l.t h0];exact h1,h2,fun q=>by omega,fun q=>by omega⟩
section
variable {P:Program} {ops:Array Oper} {o:Oper} {nt:Nat} {t:TF} {h h0:HF} {E E':Eff} {f:FuncId} {vs:List Value} {τ:NMap} {mb:Nat→Nat}
end
def Re (r:Nat) (S2 S1:St):Prop:=∀ β a w,β.R=lt r→SimS β S1 a w→SimS β S2 a w
theorem Re.trans {r:Nat} {S3 S2 S1:St} (h:Re r S3 S2) (k:Re r S2 S1):Re r S3 S1:=fun β a w hR hs=>h β a w hR (k β a w hR hs)
theorem Re.refl {r:Nat} {S:St}:Re r S S:=fun _ _ _ _ hs=>hs
structure LeT (r:Nat) (τ:NMap) (S2 S1:St):Prop where
 t:∀ x ∈ S2.t,po3 τ x.2=true∧S1.t.lookup x.1=some (tn3 τ x.2)
 h:∀ x ∈ S2.h,x.1<S2.u∧x.1<1000∧∀ k y,x.2.2 k=some y→y.cs.all (po1 τ)=true∧(τ (nm x.1 k)=none→y.cs = []∧y.e<100)∧∀ n',τ (nm x.1 k)=some n'→∃ o' F' y',S1.h.lookup (n' % 1000)=some (o',F')∧F' (n' / 1000)=some y'∧BlkW (y.tn τ) y'∧(x.2.1=true→o'=true)
 inj:∀ x ∈ S2.h,x.2.1=true→∀ y ∈ S2.h,∀ k k' n',x.2.2 k ≠ none→y.2.2 k' ≠ none→τ (nm x.1 k)=some n'→τ (nm y.1 k')=some n'→nm x.1 k=nm y.1 k'
 det:∀ x ∈ S2.t,Det (lt S2.u) x.2
 detB:∀ x ∈ S2.h,∀ k y,x.2.2 k=some y→DetB (lt S2.u) y
 rig:∀ n,n % 1000<r→τ n=some n
 u:r≤S2.u
theorem re_leT {r:Nat} {τ:NMap} {S2 S1:St} (l:LeT r τ S2 S1):Re r S2 S1:=by
 intro β a w hR hs
 obtain ⟨⟨ρ,s⟩,W,hr⟩:=hs
 have get:∀ b o F,S2.hf b=some (o,F)→(b,o,F) ∈ S2.h:=fun b o F e=>hf_mem e
 have rl:∀ b k,RL (envT ρ τ) S2.hf b k→b<1000∧∃ n' o F y o',S2.hf b=some (o,F)∧F k=some y∧τ (nm b k)=some n'∧envT ρ τ (nm b k)=ρ n'∧RL ρ S1.hf (n' % 1000) (n' / 1000)∧(∃ F',S1.hf (n' % 1000)=some (o',F'))∧(o=true→o'=true):=fun b k ⟨⟨o,F,y,e,f⟩,hn⟩=>by
  obtain ⟨h1,h2,h3⟩:=l.h _ (get b o F e)
  obtain ⟨_,_,h4⟩:=h3 k y f
  cases hq:τ (nm b k) with
  | none=>simp [envT,hq,nilN] at hn
  | some n' =>
   obtain ⟨o',F',y',e',f',_,ho⟩:=h4 n' hq
   have en:envT ρ τ (nm b k)=ρ n':=by simp [envT,hq]
   rw [en] at hn
   exact ⟨h2,n',o,F,y,o',e,f,rfl,en,⟨⟨o',F',y',e',f'⟩,by rw [nm_eta];exact hn⟩,⟨F',e'⟩,ho⟩
 refine ⟨⟨envT ρ τ,⟨fun n hn=>?_,⟨s.tr.1,s.tr.2.1,fun k v e=>?_⟩,fun b o F e k x f=>?_,fun b k b' k' h1 h2 ho hne=>?_,fun b k ho hl=>?_,s.frm⟩⟩,⟨fun k v e=>l.det _ (mem_of_lookup e),fun b o F e=>⟨(l.h _ (get b o F e)).1,(l.h _ (get b o F e)).2.1,fun k x f=>l.detB _ (get b o F e) k x f⟩⟩,fun n hn=>?_⟩
 ·have hn':n % 1000<r:=by rw [hR] at hn;exact hn
  rw [← s.rig n hn]
  simp [envT,l.rig n hn']
 ·obtain ⟨h1,h2⟩:=l.t _ (mem_of_lookup e)
  rw [← r3_tn h1]
  exact s.tr.2.2 k _ h2
 ·obtain ⟨_,hb,h3⟩:=l.h _ (get b o F e)
  obtain ⟨hp,hnil,hsome⟩:=h3 k x f
  cases hq:τ (nm b k) with
  | none =>
   have en:envT ρ τ (nm b k)=nilN:=by simp [envT,hq]
   obtain ⟨h1,h2⟩:=hnil hq
   unfold blkAt
   rw [en]
   exact (if_pos rfl).mpr ⟨h1,fun _=>rfl,h2⟩
  | some n' =>
   obtain ⟨o',F',x',e',f',lw,_⟩:=hsome n' hq
   refine (blkAt_tn hq hp).1 (blkAt_w lw ?_)
   have:=s.hold _ _ _ e' (n' / 1000) _ f'
   rw [nm_eta] at this
   exact this
 ·obtain ⟨a1,n1,o1,F1,y1,o1',e1,f1,q1,en1,r1,⟨G1,g1⟩,ho1⟩:=rl b k h1
  obtain ⟨a2,n2,o2,F2,y2,o2',e2,f2,q2,en2,r2,_,_⟩:=rl b' k' h2
  obtain ⟨F0,ho⟩:=ho
  rw [e1] at ho
  cases ho
  rw [en1,en2]
  have:=s.inj _ _ _ _ r1 r2 ⟨_,by rw [g1,ho1 rfl]⟩ fun e=>hne (by
   rw [nm_eta,nm_eta] at e
   subst e
   exact l.inj _ (get b _ _ e1) rfl _ (get b' _ _ e2) k k' n1 (by show F1 k ≠ none;rw [f1];exact Option.some_ne_none _) (by show F2 k' ≠ none;rw [f2];exact Option.some_ne_none _) q1 q2)
  rw [nm_eta,nm_eta] at this
  exact this
 ·obtain ⟨a1,n1,o1,F1,y1,o1',e1,f1,q1,en1,r1,⟨G1,g1⟩,ho1⟩:=rl b k hl
  obtain ⟨F0,ho⟩:=ho
  rw [e1] at ho
  cases ho
  rw [en1]
  have:=s.own _ _ ⟨G1,by rw [g1,ho1 rfl]⟩ r1
  rw [nm_eta] at this
  exact this
 ·rw [hR] at hn
  exact Nat.lt_of_lt_of_le hn l.u
section
variable {P:Program} {nt r:Nat} {S:St} {Q:Exit→St→Prop}
theorem ev_re {c:Code} {ex:Exit} {S1 S2:St} (h:Ev P nt r c S ex S1) (l:Re r S2 S1):Ev P nt r c S ex S2:=fun β a w hn hr hs =>
 Go.wp_mono (h β a w hn hr hs) fun e a w ⟨he,hs'⟩=>⟨he,l β a w hr hs'⟩
theorem vc_re {c:Code} {S2:St} (l:Re r S2 S) (h:VC P nt r c S2 Q):VC P nt r c S Q:=by
 obtain ⟨ex,S1,h1,h2⟩:=h
 exact ⟨ex,S1,fun β a w hn hr hs=>h1 β a w hn hr (l β a w hr hs),h2⟩
def LpT (r:Nat) (I:Nat→St→Prop) (n:Nat) (Q:Exit→St→Prop):Exit→St→Prop
 | .normal,S=>∃ n' S2,n'<n∧Re r S2 S∧I n' S2
 | e,S=>Q e S
theorem vc_loopT {c:Code} (I:Nat→St→Prop) {n0:Nat} {S0:St} (h0:I n0 S0) (l0:Re r S0 S) (round:∀ n S,I n S→VC P nt r c S (LpT r I n Q)):VC P nt r (.loop c) S Q:=by
 have key:∀ n S,I n S→∃ ex S',Q ex S'∧∃ N,∀ β a w,β.nt=nt→β.R=lt r→SimS β S a w→Code.rounds P c (fun e a' w'=>e=ex∧SimS β S' a' w') N a w:=by
  intro n
  induction n using Nat.strongRecOn with
  | _ n ih =>
   intro S hI
   obtain ⟨ex,S1,h1,h2⟩:=round n S hI
   by_cases hx:ex = .normal
   ·subst hx
    obtain ⟨n',S2,hlt,l,hI'⟩:=h2
    obtain ⟨ex2,S',hq,N,hN⟩:=ih n' hlt S2 hI'
    refine ⟨ex2,S',hq,N + 1,fun β a w hn hr hs=>?_⟩
    refine Go.wp_mono (h1 β a w hn hr hs) fun e a w ⟨he,hs'⟩=>?_
    subst he
    exact hN β a w hn hr (l β a w hr hs')
   ·refine ⟨ex,S1,?_,1,fun β a w hn hr hs=>Go.wp_mono (h1 β a w hn hr hs) fun e a w ⟨he,hs'⟩=>?_⟩
    ·cases ex <;> first|exact absurd rfl hx|exact h2
    ·subst he
     cases e <;> first|exact absurd rfl hx|exact ⟨rfl,hs'⟩
 obtain ⟨ex,S',hq,N,hN⟩:=key n0 S0 h0
 exact ⟨ex,S',fun β a w hn hr hs=>wp_loop_rounds N (hN β a w hn hr (l0 β a w hr hs)),hq⟩
theorem lp_nextT {I:Nat→St→Prop} {n n':Nat} {S S2:St} (hI:I n' S2) (hn:n'<n) (l:Re r S2 S):∃ n' S2,n'<n∧Re r S2 S∧I n' S2:=⟨n',S2,hn,l,hI⟩
def JnT (r:Nat) (I:St→Prop) (Q:Exit→St→Prop):Exit→St→Prop
 | .normal,S=>∃ S2,Re r S2 S∧I S2
 | e,S=>Q e S
theorem vc_joinT {x y:Code} {S:St} (I:St→Prop) (h1:VC P nt r x S (JnT r I Q)) (h2:∀ S2,I S2→VC P nt r y S2 Q):VC P nt r (.seq x y) S Q:=by
 obtain ⟨ex,S',e1,e2⟩:=h1
 refine vc_seq ?_
 cases ex with
 | normal =>
  obtain ⟨S2,l,hI⟩:=e2
  exact ⟨.normal,S2,ev_re e1 l,h2 S2 hI⟩
 | exit id=>exact ⟨_,S',e1,e2⟩
 | goto l=>exact ⟨_,S',e1,e2⟩
 | ret=>exact ⟨_,S',e1,e2⟩
 | panic c=>exact ⟨_,S',e1,e2⟩
 | outgrown=>exact ⟨_,S',e1,e2⟩
theorem jn_hereT {I:St→Prop} {S S2:St} (hI:I S2) (l:Re r S2 S):∃ S2,Re r S2 S∧I S2:=⟨S2,l,hI⟩
end
def mkF (v:Value) (rd:List Nat) (ups as_:List (Nat × Fam)):Eff where
 v:=v
 rd:=rd
 up:=ups
 asg:=as_
theorem mkF_nw {v:Value} {rd:List Nat} {ups as_:List (Nat × Fam)}:(mkF v rd ups as_).nw=as_.map (·.1):=rfl
theorem mkF_wr {v:Value} {rd:List Nat} {ups as_:List (Nat × Fam)}:(mkF v rd ups as_).wr=ups.map (·.1):=by simp [Eff.wr,mkF]
def tm (ts:List (Nat→Option Nat)):NMap:=fun n=>match ts[n % 1000]? with
 | some g=>g (n / 1000)
 | none=>none
def nN:Nat→Option Nat:=fun _=>none
theorem nm_div {b k:Nat} (h:b<1000):nm b k / 1000=k:=by unfold nm;omega
theorem flat_po1 {τ:NMap} {v:Value} (h:flat1 v=true):po1 τ v=true:=by
 cases v with
 | pointer a=>cases a <;> first|rfl|cases h
 | _=>rfl
theorem flat_poL {τ:NMap} {cs:List Value} (h:cs.all flat1=true):cs.all (po1 τ)=true:=List.all_eq_true.2 fun v hv=>flat_po1 (List.all_eq_true.1 h v hv)
theorem tn1_flat {τ:NMap} {v:Value} (h:flat1 v=true):tn1 τ v=v:=by
 cases v with
 | pointer a=>cases a <;> first|rfl|cases h
 | slice a n c=>cases a <;> first|rfl|cases h
 | _=>rfl
theorem tnL_flat {τ:NMap} {cs:List Value} (h:cs.all flat1=true):cs.map (tn1 τ)=cs:=by
 rw [List.all_eq_true] at h
 conv=>rhs;rw [← List.map_id cs]
 exact List.map_congr_left fun v hv=>tn1_flat (h v hv)
theorem tnb_flat {τ:NMap} {cs:List Value} {t e:Nat} (h:cs.all flat1=true):Blk.tn τ ⟨cs,t,e⟩=⟨cs,t,e⟩:=by simp [Blk.tn,tnL_flat h]
section
variable {P:Program} {nt:Nat} {ops:Array Oper} {draw:Bool} {rest:List Oper} {u d:Nat} {t:List (Nat × Value)} {h:List (Nat × Bool × Fam)} {acc:List Eff} {K:St→Prop} {o:Oper}
end
def mF (l:List (Nat × Nat × Fam)):Nat→Nat:=fun b=>match (l.map fun x=>(x.1,x.2.1)).lookup b with|some j=>j|none=>b
theorem mF_of {l:List (Nat × Nat × Fam)} (hn:nodB (l.map (·.1))=true) {x:Nat × Nat × Fam} (hx:x ∈ l):mF l x.1=x.2.1:=by
 have h1:=mA_of (l:=l.map fun y=>(y.1,y.2.1,(⟨[],0,0⟩:Blk))) (by simpa [Function.comp_def] using hn) (x:=(x.1,x.2.1,⟨[],0,0⟩)) (List.mem_map.2 ⟨x,hx,rfl⟩)
 have h2:mA (l.map fun y=>(y.1,y.2.1,(⟨[],0,0⟩:Blk)))=mF l:=by
  funext b
  simp only [mA,mF,List.map_map,Function.comp_def] <;> (cases (l.map fun x=>(x.1,x.2.1)).lookup b <;> rfl)
 rw [h2] at h1
 exact h1
theorem mF_none {l:List (Nat × Nat × Fam)} {b:Nat} (h:b ∉ l.map (·.1)):mF l b=b:=by
 have h1:=mA_none (l:=l.map fun y=>(y.1,y.2.1,(⟨[],0,0⟩:Blk))) (b:=b) (by simpa [List.map_map,Function.comp_def] using h)
 have h2:mA (l.map fun y=>(y.1,y.2.1,(⟨[],0,0⟩:Blk)))=mF l:=by
  funext b
  simp only [mA,mF,List.map_map,Function.comp_def] <;> (cases (l.map fun x=>(x.1,x.2.1)).lookup b <;> rfl)
 rw [h2] at h1
 exact h1
def UpsT (hl h:List (Nat × Bool × Fam)) (m:Nat→Nat) (u:Nat):List (Nat × Fam)→Prop
 | []=>True
 | (b,F) :: ups=>((∃ G,hl.lookup b=some (true,G)∧∀ k,G k ≠ none↔F k ≠ none)∧(∃ o,h.lookup b=some (o,rnF m F))∧∀ k y,F k=some y→DetB (lt u) y)∧UpsT hl h m u ups
theorem upsT_mem {hl h:List (Nat × Bool × Fam)} {m:Nat→Nat} {u:Nat}:∀ {ups:List (Nat × Fam)},UpsT hl h m u ups→∀ x ∈ ups,(∃ G,hl.lookup x.1=some (true,G)∧∀ k,G k ≠ none↔x.2 k ≠ none)∧(∃ o,h.lookup x.1=some (o,rnF m x.2))∧∀ k y,x.2 k=some y→DetB (lt u) y
 | _ :: _,hh,x,hx=>by
  rcases List.mem_cons.1 hx with rfl|hx
  ·exact hh.1
  ·exact upsT_mem hh.2 x hx
def AsT (h:List (Nat × Bool × Fam)) (m:Nat→Nat) (u:Nat):List (Nat × Nat × Fam)→Prop
 | []=>True
 | (b,j,F) :: l=>(h.lookup j=some (true,rnF m F)∧∀ k y,F k=some y→DetB (lt u) y)∧AsT h m u l
theorem asT_mem {h:List (Nat × Bool × Fam)} {m:Nat→Nat} {u:Nat}:∀ {l:List (Nat × Nat × Fam)},AsT h m u l→∀ x ∈ l,h.lookup x.2.1=some (true,rnF m x.2.2)∧∀ k y,x.2.2 k=some y→DetB (lt u) y
 | _ :: _,hh,x,hx=>by
  rcases List.mem_cons.1 hx with rfl|hx
  ·exact hh.1
  ·exact asT_mem hh.2 x hx
def endTB (u0:Nat) (hl:List (Nat × Bool × Fam)) (rd:List Nat) (ups:List (Nat × Fam)) (l:List (Nat × Nat × Fam)):Bool :=
 (rd.all fun b=>(hl.lookup b).isSome) && (hl.all fun x=>if x.2.1 then (ups.map (·.1)).contains x.1 else rd.contains x.1) && (l.all fun x=>Nat.ble u0 x.1 && Nat.blt x.1 1000 && Nat.ble u0 x.2.1 && Nat.blt x.2.1 1000 && l.all fun y=>!(x.2.1 == y.2.1) || x.1 == y.1) && nodB (l.map (·.1)) && ((List.range (u0 + l.length)).all fun b=>rd.contains b || (ups.map (·.1)).contains b || (l.map (·.1)).contains b)
theorem endsT {P:Program} {fn:Func} {u0:Nat} {hl:List (Nat × Bool × Fam)} {v:Value} {vs:List Value} {rd:List Nat} {ups:List (Nat × Fam)} {ex:Exit} {u:Nat} {t:List (Nat × Value)} {h:List (Nat × Bool × Fam)} (l:List (Nat × Nat × Fam)) (he:ex = .normal∨ex = .ret) (hr:ResL P ⟨u,t,h⟩ fn.results.toList vs) (hw:wrapV vs=rn3 (mF l) v) (hdv:ok3 (u0 + l.length) v=true) (hup:UpsT hl h (mF l) (u0 + l.length) ups) (has:AsT h (mF l) (u0 + l.length) l) (hck:endTB u0 hl rd ups l=true) :
  Ends P fn u0 hl (mkF v rd ups (l.map fun x=>(x.1,x.2.2))) (mF l) ex ⟨u,t,h⟩:=by
 simp only [endTB,Bool.and_eq_true,List.all_eq_true,Bool.not_eq_true',List.contains_iff_mem,Option.isSome_iff_exists,Bool.or_eq_true,beq_eq_false_iff_ne,beq_iff_eq] at hck
 obtain ⟨⟨⟨⟨k1,k2⟩,k3⟩,k4⟩,k5⟩:=hck
 have hV:∀ n,lt (u0 + l.length) n→(mkF v rd ups (l.map fun x=>(x.1,x.2.2))).V n:=fun n hn=>by
  rcases k5 n (List.mem_range.2 hn) with (h1|h1)|h1
  ·exact .inl h1
  ·exact .inr (.inl (List.mem_append_left _ h1))
  ·refine .inr (.inr ?_)
   rw [mkF_nw]
   simpa [Function.comp_def] using h1
 refine ⟨he,⟨vs,hr,hw⟩,rfl,k1,fun x hx=>?_,fun x hx=>?_,fun x hx=>?_,fun x hx y hy e=>?_,fun b hb=>mF_none fun hm=>?_,(ok3_det hdv).mono hV,fun x hx k y e=>?_,fun x hx k y e=>?_⟩
 ·have:=k2 x hx
  by_cases ho:x.2.1=true
  ·rw [if_pos ho] at this ⊢
   simpa [mkF] using this
  ·rw [if_neg ho] at this ⊢
   show x.1 ∈ rd
   simpa using this
 ·obtain ⟨⟨G,a1,a2⟩,a3,_⟩:=upsT_mem hup x hx
  exact ⟨⟨G,a1,a2⟩,a3⟩
 ·obtain ⟨z,hz,rfl⟩:=List.mem_map.1 hx
  obtain ⟨a1,a2⟩:=asT_mem has z hz
  obtain ⟨⟨⟨⟨b1,b2⟩,b3⟩,b4⟩,_⟩:=k3 z hz
  have e1:=mF_of k4 hz
  refine ⟨Nat.le_of_ble_eq_true b1,of_blt b2,?_,?_,?_⟩
  ·show u0≤mF l z.1;rw [e1];exact Nat.le_of_ble_eq_true b3
  ·show mF l z.1<1000;rw [e1];exact of_blt b4
  ·show h.lookup (mF l z.1)=_
   rw [e1,a1]
 ·obtain ⟨z1,hz1,rfl⟩:=List.mem_map.1 hx
  obtain ⟨z2,hz2,rfl⟩:=List.mem_map.1 hy
  have e:mF l z1.1=mF l z2.1:=e
  rw [mF_of k4 hz1,mF_of k4 hz2] at e
  exact ((k3 z1 hz1).2 z2 hz2).resolve_left fun h=>h e
 ·obtain ⟨z,hz,he⟩:=List.mem_map.1 hm
  have:=Nat.le_of_ble_eq_true (k3 z hz).1.1.1.1
  omega
 ·obtain ⟨z1,hz1,rfl⟩:=List.mem_map.1 hx
  exact ((asT_mem has z1 hz1).2 k y e).mono hV
 ·exact ((upsT_mem hup x hx).2.2 k y e).mono hV
def KeepTT (τ:NMap) (u2:Nat) (t1:List (Nat × Value)):List (Nat × Value)→Prop
 | []=>True
 | (k,v) :: t2=>((po3 τ v=true∧t1.lookup k=some (tn3 τ v))∧ok3 u2 v=true)∧KeepTT τ u2 t1 t2
theorem keepTT_mem {τ:NMap} {u2:Nat} {t1:List (Nat × Value)}:∀ {t2:List (Nat × Value)},KeepTT τ u2 t1 t2→∀ x ∈ t2,(po3 τ x.2=true∧t1.lookup x.1=some (tn3 τ x.2))∧ok3 u2 x.2=true
 | _ :: _,h,x,hx=>by
  rcases List.mem_cons.1 hx with rfl|hx
  ·exact h.1
  ·exact keepTT_mem h.2 x hx
def KeepBT (τ:NMap) (u2:Nat) (h1:List (Nat × Bool × Fam)) (b:Nat) (o:Bool) (F:Fam):Prop :=
 b<u2∧b<1000∧(∀ k y,F k=some y→y.cs.all (po1 τ)=true∧(τ (nm b k)=none→y.cs = []∧y.e<100)∧∀ n',τ (nm b k)=some n'→∃ o' F' y',h1.lookup (n' % 1000)=some (o',F')∧F' (n' / 1000)=some y'∧BlkW (y.tn τ) y'∧(o=true→o'=true))∧∀ k y,F k=some y→DetB (lt u2) y
def KeepHT (τ:NMap) (u2:Nat) (h1:List (Nat × Bool × Fam)):List (Nat × Bool × Fam)→Prop
 | []=>True
 | (b,o,F) :: h2=>KeepBT τ u2 h1 b o F∧KeepHT τ u2 h1 h2
theorem keepHT_mem {τ:NMap} {u2:Nat} {h1:List (Nat × Bool × Fam)}:∀ {h2:List (Nat × Bool × Fam)},KeepHT τ u2 h1 h2→∀ x ∈ h2,KeepBT τ u2 h1 x.1 x.2.1 x.2.2
 | _ :: _,h,x,hx=>by
  rcases List.mem_cons.1 hx with rfl|hx
  ·exact h.1
  ·exact keepHT_mem h.2 x hx
def tmG (ms:List Nat) (C:Nat) (g:Nat→Option Nat):NMap:=fun n=>if n % 1000=C then g (n / 1000) else some (rnN (mp ms) n)
theorem tmG_C {ms:List Nat} {C k:Nat} {g:Nat→Option Nat} (hC:C<1000):tmG ms C g (nm C k)=g k:=by unfold tmG;rw [nm_mod hC,if_pos rfl,nm_div hC]
theorem tmG_o {ms:List Nat} {C b k:Nat} {g:Nat→Option Nat} (hb:b<1000) (h:b ≠ C):tmG ms C g (nm b k)=some (nm (mp ms b) k):=by unfold tmG;rw [nm_mod hb,if_neg h,rnN_nm hb]
theorem ktFlat {ms:List Nat} {C u2 b t e e':Nat} {g:Nat→Option Nat} {h1:List (Nat × Bool × Fam)} {o o':Bool} {cs:List Value} (hf:cs.all flat1=true) (hl:h1.lookup (mp ms b)=some (o',one ⟨cs,t,e'⟩)) (he:e=0∨e'=e∨(77≤e∧e<100∧e' ≠ 0)) (ho:o=true→o'=true) (hb:(Nat.blt b u2 && Nat.blt b 1000 && Nat.blt (mp ms b) 1000 && !(b == C) && (Nat.ble t capT || e' == 0))=true):KeepBT (tmG ms C g) u2 h1 b o (one ⟨cs,t,e⟩):=by
 simp only [Bool.and_eq_true,Bool.not_eq_true',beq_eq_false_iff_ne,Bool.or_eq_true,beq_iff_eq] at hb
 obtain ⟨⟨⟨⟨b1,b2⟩,b3⟩,b4⟩,b5⟩:=hb
 have b2:=of_blt b2
 have b3:=of_blt b3
 refine ⟨of_blt b1,b2,fun k y hk=>?_,fun k y hk=>?_⟩
 ·obtain ⟨rfl,rfl⟩:=one_some hk
  refine ⟨flat_poL hf,fun q=>(by rw [tmG_o b2 b4] at q;cases q),fun n' q=>?_⟩
  rw [tmG_o b2 b4] at q
  cases q
  refine ⟨o',_,_,by rw [nm_mod b3];exact hl,by rw [nm_div b3];rfl,?_,ho⟩
  rw [tnb_flat hf]
  exact ⟨.inl rfl,fun _=>rfl,he,fun _=>b5.symm.imp (fun q=>⟨q,rfl⟩) Nat.le_of_ble_eq_true⟩
 ·obtain ⟨rfl,rfl⟩:=one_some hk
  exact fun ρ ρ' hρ=>okL_det (flat_okL hf) hρ
theorem ktRow {ms:List Nat} {C u2 b:Nat} {g:Nat→Option Nat} {h1:List (Nat × Bool × Fam)} {o o':Bool} {x x':Blk} (hl:h1.lookup (mp ms b)=some (o',one x')) (hp:x.cs.all (po1 (tmG ms C g))=true) (hk:x.cs.all (ok1 u2)=true) (hx:BlkW (x.tn (tmG ms C g)) x') (ho:o=true→o'=true) (hb:(Nat.blt b u2 && Nat.blt b 1000 && Nat.blt (mp ms b) 1000 && !(b == C))=true):KeepBT (tmG ms C g) u2 h1 b o (one x):=by
 simp only [Bool.and_eq_true,Bool.not_eq_true',beq_eq_false_iff_ne] at hb
 obtain ⟨⟨⟨b1,b2⟩,b3⟩,b4⟩:=hb
 have b2:=of_blt b2
 have b3:=of_blt b3
 refine ⟨of_blt b1,b2,fun k y hy=>?_,fun k y hy=>?_⟩
 ·obtain ⟨rfl,rfl⟩:=one_some hy
  refine ⟨hp,fun q=>(by rw [tmG_o b2 b4] at q;cases q),fun n' q=>?_⟩
  rw [tmG_o b2 b4] at q
  cases q
  exact ⟨o',_,_,by rw [nm_mod b3];exact hl,by rw [nm_div b3];rfl,hx,ho⟩
 ·obtain ⟨rfl,rfl⟩:=one_some hy
  exact fun ρ ρ' hρ=>okL_det hk hρ
theorem ktC {ms:List Nat} {C u2:Nat} {g:Nat→Option Nat} {h1:List (Nat × Bool × Fam)} {o:Bool} {F:Fam} (hf:∀ k y,F k=some y→y.cs.all flat1=true) (hn:∀ k y,F k=some y→(g k=none→y.cs = []∧y.e<100)∧∀ n',g k=some n'→∃ o' F' y',h1.lookup (n' % 1000)=some (o',F')∧F' (n' / 1000)=some y'∧BlkW y y'∧(o=true→o'=true)) (hb:(Nat.blt C u2 && Nat.blt C 1000)=true):KeepBT (tmG ms C g) u2 h1 C o F:=by
 simp only [Bool.and_eq_true] at hb
 have b2:=of_blt hb.2
 refine ⟨of_blt hb.1,b2,fun k y hy=>⟨flat_poL (hf k y hy),fun q=>?_,fun n' q=>?_⟩,fun k y hy=>?_⟩
 ·rw [tmG_C b2] at q
  exact (hn k y hy).1 q
 ·rw [tmG_C b2] at q
  obtain ⟨o',F',y',a1,a2,a3,a4⟩:=(hn k y hy).2 n' q
  refine ⟨o',F',y',a1,a2,?_,a4⟩
  obtain ⟨cs,t,e⟩:=y
  rw [tnb_flat (hf k _ hy)]
  exact a3
 ·exact fun ρ ρ' hρ=>okL_det (flat_okL (hf k y hy)) hρ
theorem re_mk {r u1 u2 C:Nat} {ms:List Nat} {g:Nat→Option Nat} {t1 t2:List (Nat × Value)} {h1 h2:List (Nat × Bool × Fam)} (hr:(Nat.ble r u2 && Nat.ble r C && Nat.blt C 1000)=true) (ht:KeepTT (tmG ms C g) u2 t1 t2) (hh:KeepHT (tmG ms C g) u2 h1 h2)
  (hi:(h2.all fun x=>h2.all fun y=>x.1 == C || y.1 == C || !(mp ms x.1 == mp ms y.1) || x.1 == y.1)=true) (hlt:(h2.all fun x=>Nat.blt (mp ms x.1) 1000)=true) (hm:∀ b,b<r→mp ms b=b)
  (hg:∀ x ∈ h2,x.1=C→(∀ k k' n',x.2.2 k ≠ none→x.2.2 k' ≠ none→g k=some n'→g k'=some n'→k=k')∧∀ k n',x.2.2 k ≠ none→g k=some n'→∀ y ∈ h2,y.1 ≠ C→∀ k',y.2.2 k' ≠ none→n' ≠ nm (mp ms y.1) k') (hnd:nodB (h2.map (·.1))=true):Re r ⟨u2,t2,h2⟩ ⟨u1,t1,h1⟩:=by
 simp only [Bool.and_eq_true] at hr
 have hC:=of_blt hr.2
 have hrC:=Nat.le_of_ble_eq_true hr.1.2
 refine re_leT (τ:=tmG ms C g) ⟨fun x hx=>(keepTT_mem ht x hx).1,fun x hx=>?_,fun x hx _ y hy k k' n' l1 l2 q1 q2=>?_,fun x hx=>ok3_det (keepTT_mem ht x hx).2,fun x hx=>(keepHT_mem hh x hx).2.2.2,fun n hn=>?_,Nat.le_of_ble_eq_true hr.1.1⟩
 ·obtain ⟨a1,a2,a3,_⟩:=keepHT_mem hh x hx
  exact ⟨a1,a2,a3⟩
 ·have hx1:=(keepHT_mem hh x hx).2.1
  have hy1:=(keepHT_mem hh y hy).2.1
  have hxl:=of_blt (List.all_eq_true.1 hlt x hx)
  have hyl:=of_blt (List.all_eq_true.1 hlt y hy)
  by_cases ex:x.1=C
  ·rw [ex,tmG_C hC] at q1
   by_cases ey:y.1=C
   ·rw [ey,tmG_C hC] at q2
    have hxy:x=y:=by
     have:=nod_of hnd
     have hp:∀ l:List (Nat × Bool × Fam),(l.map (·.1)).Nodup→x ∈ l→y ∈ l→x=y:=fun l=>by
      induction l with
      | nil=>intro _ h;cases h
      | cons a l ih =>
       intro hn h1 h2
       rw [List.map_cons,List.nodup_cons] at hn
       rcases List.mem_cons.1 h1 with e1|g1
       ·rcases List.mem_cons.1 h2 with e2|g2
        ·rw [e1,e2]
        ·exact absurd (List.mem_map.2 ⟨y,g2,(by rw [ey,← e1,ex]:y.1=a.1)⟩) hn.1
       ·rcases List.mem_cons.1 h2 with e2|g2
        ·exact absurd (List.mem_map.2 ⟨x,g1,(by rw [← e2,ey,ex]:x.1=a.1)⟩) hn.1
        ·exact ih hn.2 g1 g2
     exact hp h2 this hx hy
    subst hxy
    rw [(hg x hx ex).1 k k' n' l1 l2 q1 q2]
   ·rw [tmG_o hy1 ey] at q2
    cases q2
    exact absurd rfl ((hg x hx ex).2 k _ l1 q1 y hy ey k' l2)
  ·rw [tmG_o hx1 ex] at q1
   cases q1
   by_cases ey:y.1=C
   ·rw [ey,tmG_C hC] at q2
    exact absurd rfl ((hg y hy ey).2 k' _ l2 q2 x hx ex k l1)
   ·rw [tmG_o hy1 ey] at q2
    obtain ⟨e1,e2⟩:=nm_inj hyl hxl (Option.some.inj q2)
    have:=List.all_eq_true.1 (List.all_eq_true.1 hi x hx) y hy
    simp only [Bool.or_eq_true,Bool.not_eq_true',beq_eq_false_iff_ne,beq_iff_eq] at this
    rw [e2]
    rcases this with ((h|h)|h)|h
    ·exact absurd h ex
    ·exact absurd h ey
    ·exact absurd e1.symm h
    ·rw [h]
 ·unfold tmG
  rw [if_neg (by omega)]
  unfold rnN
  rw [hm _ hn,nm_eta]
structure Ho where
 r:List Sp
 w:List Sp
deriving Inhabited,DecidableEq
structure Hv where
 a:Value
 b:Value
instance:Inhabited Hv:=⟨⟨.slice none 0 0,.slice none 0 0⟩⟩
def sv (n off len:Nat):Value:=.slice (some ⟨n,off,none⟩) len 0
def hv (C:Nat) (off:Nat→Nat) (i:Nat) (h:Ho):Hv:=⟨.slice (some ⟨nm C (2 * i),off (2 * i),none⟩) h.r.length 0,.slice (some ⟨nm C (2 * i + 1),off (2 * i + 1),none⟩) h.w.length 0⟩
theorem re_nil {r u1 u2 C:Nat} {ms:List Nat} {t1 t2:List (Nat × Value)} {h1 h2:List (Nat × Bool × Fam)} (hr:(Nat.ble r u2 && Nat.ble r C && Nat.blt C 1000)=true) (ht:KeepTT (tmG ms C nN) u2 t1 t2) (hh:KeepHT (tmG ms C nN) u2 h1 h2)
  (hi:(h2.all fun x=>h2.all fun y=>x.1 == C || y.1 == C || !(mp ms x.1 == mp ms y.1) || x.1 == y.1)=true) (hlt:(h2.all fun x=>Nat.blt (mp ms x.1) 1000)=true) (hm:∀ b,b<r→mp ms b=b) (hnd:nodB (h2.map (·.1))=true):Re r ⟨u2,t2,h2⟩ ⟨u1,t1,h1⟩ :=
 re_mk hr ht hh hi hlt hm (fun x hx ex=>⟨fun k k' n' _ _ q1 _=>(by cases q1),fun k n' _ q=>(by cases q)⟩) hnd
theorem asFlat {m:Nat→Nat} {u j t e:Nat} {cs:List Value} {h:List (Nat × Bool × Fam)} (hl:h.lookup j=some (true,one ⟨cs,t,e⟩)) (hf:cs.all flat1=true):h.lookup j=some (true,rnF m (one ⟨cs,t,e⟩))∧∀ k y,one ⟨cs,t,e⟩ k=some y→DetB (lt u) y:=⟨by rw [rnF_flat hf];exact hl,fun k y h=>det_row hf h⟩
theorem ktC1 {ms:List Nat} {C u2 t e:Nat} {h1:List (Nat × Bool × Fam)} {o:Bool} {cs:List Value} (hc:cs = []) (he:e<100) (hd:(Nat.blt C u2 && Nat.blt C 1000)=true):KeepBT (tmG ms C nN) u2 h1 C o (one ⟨cs,t,e⟩):=by
 subst hc
 refine ktC (fun k y hy=>?_) (fun k y hy=>⟨fun _=>?_,fun n' q=>(by cases q)⟩) hd
 ·obtain ⟨rfl,rfl⟩:=one_some hy;rfl
 ·obtain ⟨rfl,rfl⟩:=one_some hy;exact ⟨rfl,he⟩
def ByL (l:List Int):Prop:=∀ x ∈ l,0≤x∧x≤255
theorem byL_at {l:List Int} (h:ByL l) {i:Int} (h0:0≤i) (h1:i<l.length):0≤at_ l i∧at_ l i≤255:=h _ (at_mem h0 h1)
theorem tmod_in {x n:Int} (hx:0≤x) (hn:1≤n):0≤Int.tmod x n∧Int.tmod x n<n:=by
 rw [Int.tmod_eq_emod_of_nonneg hx]
 exact ⟨Int.emod_nonneg _ (by omega),Int.emod_lt_of_pos _ (by omega)⟩
theorem tdiv_in {x n:Int} (hx:0≤x) (hn:0≤n):0≤Int.tdiv x n∧Int.tdiv x n≤x:=⟨Int.tdiv_nonneg hx hn,Int.tdiv_le_self _ hx⟩
def xorI (a b:Int):Int:=IntKind.i64.wrap (BitVec.ofInt IntKind.i64.bits a ^^^ BitVec.ofInt IntKind.i64.bits b).toNat
theorem xor_nn {a b:Int} (ha:0≤a) (ha2:a<4611686018427387904) (hb:0≤b) (hb2:b<4611686018427387904):0≤xorI a b:=by
 obtain ⟨m,rfl⟩:=Int.eq_ofNat_of_zero_le ha
 obtain ⟨n,rfl⟩:=Int.eq_ofNat_of_zero_le hb
 have h62:(2:Nat) ^ 62=4611686018427387904:=by decide
 have h64:(2:Nat) ^ IntKind.i64.bits=18446744073709551616:=by decide
 have h1:m<2 ^ 62:=by omega
 have h2:n<2 ^ 62:=by omega
 have hm:m % 2 ^ IntKind.i64.bits=m:=Nat.mod_eq_of_lt (by omega)
 have hn:n % 2 ^ IntKind.i64.bits=n:=Nat.mod_eq_of_lt (by omega)
 have hx:=Nat.xor_lt_two_pow h1 h2
 unfold xorI
 simp only [BitVec.ofInt_natCast,BitVec.toNat_xor,BitVec.toNat_ofNat,hm,hn]
 rw [wrap_in (by omega)]
 exact Int.natCast_nonneg _
section
variable {P:Program} {nt:Nat} {ops:Array Oper} {draw:Bool} {rest:List Oper} {u d:Nat} {t:List (Nat × Value)} {h:List (Nat × Bool × Fam)} {acc:List Eff} {K:St→Prop} {o:Oper}
theorem gNilP {x:Operand} {ad:Addr} (hw:wantT (tl t) ops o) (hop:o.op = .nilCheck x) (hx:ev t x=some (.pointer (some ad))) (hs:o.dst=some d) (hn:Nat.blt d nt=true) (k:RG P nt ops draw rest ⟨u,(d,.pointer (some ad)) :: t,h⟩ (acc ++ [{ v:=.pointer (some ad) }]) K):RG P nt ops draw (o :: rest) ⟨u,t,h⟩ acc K:=gV (does_nil hop hw hx) hs hn k
theorem gXor {ty yt:TypeId} {x y:Operand} {a b:Int} (hw:wantT (tl t) ops o) (hop:o.op = .binOp .xor ty x y yt) (hx:ev t x=some (.int .i64 a)) (hy:ev t y=some (.int .i64 b)) (hs:o.dst=some d) (hn:Nat.blt d nt=true) (k:RG P nt ops draw rest ⟨u,(d,.int .i64 (xorI a b)) :: t,h⟩ (acc ++ [{ v:=.int .i64 (xorI a b) }]) K):RG P nt ops draw (o :: rest) ⟨u,t,h⟩ acc K:=gV (does_xor hop hw hx hy) hs hn k
theorem gCvB {sy dy:TypeId} {x:Operand} {kd:IntKind} {a:Int} {ds:TypeDesc} (hw:wantT (tl t) ops o) (hop:o.op = .convert sy dy x) (hs':P.underlying sy=some ds) (hd:P.underlying dy=some (.int .i64)) (hx:ev t x=some (.int kd a)) (hs:o.dst=some d) (hn:Nat.blt d nt=true) (hr:-9223372036854775808≤a∧a≤9223372036854775807)
  (k:RG P nt ops draw rest ⟨u,(d,.int .i64 a) :: t,h⟩ (acc ++ [{ v:=.int .i64 a }]) K):RG P nt ops draw (o :: rest) ⟨u,t,h⟩ acc K:=by
 have:=does_conv (P:=P) (nt:=nt) (ops:=ops) (t:=tl t) (h:=hp h) hop hw hs' hd hx
 rw [wrap_in hr] at this
 exact gV this hs hn k
theorem gHead {ty e:TypeId} {x y:Operand} {n k len m:Nat} {cs:List Value} (hw:wantT (tl t) ops o) (hop:o.op = .slice ty x none (some y) none) (hu:P.underlying ty=some (.slice e)) (hz:szP P e=some 1) (hx:ev t x=some (.slice (some ⟨n,k,none⟩) len 0)) (hy:ev t y=some (.int .i64 (m:Int))) (hb:hat (hp h) n=some ⟨cs,capT + len,0⟩) (hs:o.dst=some d) (hn:Nat.blt d nt=true) (hne:cs ≠ []) (hm:m≤len)
  (kk:RG P nt ops draw rest ⟨u,(d,.slice (some ⟨n,k,none⟩) m 0) :: t,h⟩ (acc ++ [{ v:=.slice (some ⟨n,k,none⟩) m 0,rd:=[n % 1000] }]) K):RG P nt ops draw (o :: rest) ⟨u,t,h⟩ acc K:=by
 refine gV (does_val hw (fun ρ ac w ht hah=>?_) fun U hU=>?_) hs hn kk
 ·have hbl:=hat_at hb hah (.inl (.head _))
  have hnil:=(blkAt_cell hbl hne).1
  have hcap:len≤(ρ n).cap:=by
   unfold blkAt at hbl
   rw [hnil,if_neg (by decide),if_pos rfl] at hbl
   obtain ⟨_,_,_,_,_,h3⟩:=hbl
   have h3:capT + len - capT≤(ρ n).cap:=h3
   omega
  have e1:ac.eval x=r3 ρ (.slice (some ⟨n,k,none⟩) len 0):=ev_sound (ρ:=ρ) (by rw [hop];simp [Op.operands]) ht hx
  have e1:ac.eval x = .slice (some ⟨(ρ n).blk,k,none⟩) len (ρ n).cap:=by rw [e1];show (if (ρ n).nil=true then zv _ else _)=_;rw [if_neg (by rw [hnil];decide)];rfl
  have e2:ac.eval y = .int .i64 (m:Int):=ev_sound (ρ:=ρ) (by rw [hop];simp [Op.operands]) ht hy
  have e3:(Instr.sliceBounds true len (ρ n).cap none (some (.int .i64 (m:Int))) none).run P w = .ok (0,m,(ρ n).cap) w:=by
   simp [Instr.sliceBounds,Instr.sliceBound,asIntOf,show (m:Int)≤((ρ n).cap:Int) by omega,show (0:Int)≤(m:Int) by omega,show ¬ ((ρ n).cap<m) by omega,Sem.run_pure,Sem.run_bind,Result.andThen_ok]
  have e5:r3 ρ (.slice (some ⟨n,k,none⟩) m 0) = .slice (some ⟨(ρ n).blk,k,none⟩) m ((ρ n).cap - 0):=by
   show (if (ρ n).nil=true then zv _ else _)=_
   rw [if_neg (by rw [hnil];decide)]
  rw [e5]
  by_cases hc0:(ρ n).cap=0
  ·rw [hc0] at e3
   simp [execOp,hop,e1,e2,Instr.sliceAt,Instr.slice,run_underlying hu,run_sizeOf hz,e3,add_eq,hc0,Sem.run_pure,Sem.run_bind,Result.andThen_ok]
  ·simp [execOp,hop,e1,e2,Instr.sliceAt,Instr.slice,run_underlying hu,run_sizeOf hz,e3,add_eq,hc0,Sem.run_pure,Sem.run_bind,Result.andThen_ok]
 ·intro ρ ρ' hρ
  have:=hρ n (hat_det hb hU (.inl (.head _))).1
  simp [r3,r2,r1,this]
end
theorem det_ok {u t e k:Nat} {cs:List Value} {y:Blk} (hk:cs.all (ok1 u)=true) (h:one ⟨cs,t,e⟩ k=some y):DetB (lt u) y:=by
 obtain ⟨rfl,rfl⟩:=one_some h
 exact fun ρ ρ' hρ=>okL_det hk hρ
theorem upOne {hl h:List (Nat × Bool × Fam)} {m:Nat→Nat} {u b:Nat} {o:Bool} {x y:Blk} (h0:hl.lookup b=some (true,one y)) (hh:h.lookup b=some (o,one (x.rn m))) (hk:x.cs.all (ok1 u)=true):(∃ G,hl.lookup b=some (true,G)∧∀ k,G k ≠ none↔one x k ≠ none)∧(∃ o,h.lookup b=some (o,rnF m (one x)))∧∀ k y,one x k=some y→DetB (lt u) y:=by
 refine ⟨⟨_,h0,fun k=>?_⟩,⟨o,by rw [rnF_one];exact hh⟩,fun k y e=>det_ok (t:=x.t) (e:=x.e) hk e⟩
 by_cases hk:k=0 <;> simp [one,hk]
def FRn (m:Nat→Nat):List (Nat × Fam)→List (Nat × Fam)→Prop
 | [],[]=>True
 | (b,F) :: l,(c,G) :: l'=>(m b=c∧rnF m F=G)∧FRn m l l'
 | _,_=>False
theorem frn_map {m:Nat→Nat}:∀ {l l':List (Nat × Fam)},FRn m l l'→(l.map fun x=>(m x.1,rnF m x.2))=l'
 | [],[],_=>rfl
 | (b,F) :: l,(c,G) :: l',h=>by
  obtain ⟨⟨rfl,rfl⟩,h2⟩:=h
  rw [List.map_cons,frn_map h2]
 | [],_ :: _,h=>h.elim
 | _ :: _,[],h=>h.elim
theorem frOne {m:Nat→Nat} {b c:Nat} {x y:Blk} (h:m b=c) (e:x.rn m=y):m b=c∧rnF m (one x)=one y:=⟨h,by rw [rnF_one,e]⟩
section
variable {P:Program} {nt:Nat} {ops:Array Oper} {draw:Bool} {rest:List Oper} {u d:Nat} {t:List (Nat × Value)} {h:List (Nat × Bool × Fam)} {acc:List Eff} {K:St→Prop} {o:Oper}
theorem gCF {f:FuncId} {args:Array Operand} {tys:Array TypeId} {avs vs:List Value} {hl:List (Nat × Bool × Fam)} {v v':Value} {rd:List Nat} {ups as_ ups' as':List (Nat × Fam)} (u':Nat) (ms:List Nat) (hF:FDoes P f vs (hp hl) (mkF v rd ups as_)) (hw:wantT (tl t) ops o) (hop:o.op = .call ⟨.value (.func f),args,tys⟩) (hfn:fnOk P f=true) (ha:evL (tl t) args.toList=some avs) (hv:avs=vs.map (rn3 (mp ms)))
  (hr:RenL (mp ms) h hl) (hru:FRn (mp ms) ups ups') (hra:FRn (mp ms) as_ as') (hv':rn3 (mp ms) v=v') (hb:callB (mp ms) (mkF v rd ups as_) u u'=true) (ho:∀ x ∈ ups,Owned (hp h) (mp ms x.1)) (hU:∀ x ∈ ups,∃ F,hl.lookup x.1=some (true,F)∧∀ k,x.2 k ≠ none→F k ≠ none) (hs:o.dst=some d) (hn:Nat.blt d nt=true)
  (kk:RG P nt ops draw rest ⟨u',(d,v') :: t,as'.map (fun x=>(x.1,true,x.2)) ++ (ups'.map (fun x=>(x.1,true,x.2)) ++ h)⟩ (acc ++ [mkF v' (rd.map (mp ms)) ups' as']) K):RG P nt ops draw (o :: rest) ⟨u,t,h⟩ acc K:=by
 subst hv'
 have hE:(mkF v rd ups as_).rn (mp ms)=mkF (rn3 (mp ms) v) (rd.map (mp ms)) ups' as':=by
  unfold Eff.rn mkF
  simp only [List.map_nil]
  rw [frn_map hru,frn_map hra]
 refine gC u' ms hF hw hop hfn ha hv hr hb (fun b hb=>?_) (fun x hx k y e=>?_) rfl hs hn ?_
 ·rw [mkF_wr] at hb
  obtain ⟨x,hx,rfl⟩:=List.mem_map.1 hb
  exact ho x hx
 ·obtain ⟨F,h1,h2⟩:=hU x hx
  have:=h2 k (by rw [e];exact Option.some_ne_none _)
  cases hk:F k with
  | none=>exact absurd hk this
  | some z=>exact ⟨true,F,z,h1,hk⟩
 ·rw [hE]
  have:(mkF (rn3 (mp ms) v) (rd.map (mp ms)) ups' as').outL=as'.map (fun x=>(x.1,true,x.2)) ++ ups'.map (fun x=>(x.1,true,x.2)):=by simp [Eff.outL,mkF]
  rw [this,List.append_assoc]
  exact kk
end
end Go.Proofs.Ytmekkapacbdbeaa.A
namespace Go.Proofs.Ytmekkapacbdbeaa.A
open Go Go.RowKit
set_option maxHeartbeats 4000000
theorem kS {l:List ByteArray} {i:Int} (h0:0≤i) (h1:i<l.length):0 + i.toNat * 1 + 1≤(rS l).length:=by rw [rowL_len (n:=1) (fun _=>rfl)];omega
theorem kI {l:List Int} {i:Int} (h0:0≤i) (h1:i<l.length):0 + i.toNat * 1 + 1≤(rI l).length:=by rw [rowL_len (n:=1) (fun _=>rfl)];omega
theorem sS {l:List ByteArray} {i:Int} {x:ByteArray} (h0:0≤i) (h1:i<l.length):putL (rS l) (0 + i.toNat * 1) (cellsL (.string x))=rS (l.set i.toNat x):=by
 rw [Nat.zero_add];exact rowL_set (enc:=eS) (n:=1) (fun _=>rfl) l i.toNat x (by omega)
theorem sI {l:List Int} {i:Int} {x:Int} (h0:0≤i) (h1:i<l.length):putL (rI l) (0 + i.toNat * 1) (cellsL (.int .i64 x))=rI (l.set i.toNat x):=by
 rw [Nat.zero_add];exact rowL_set (enc:=eI) (n:=1) (fun _=>rfl) l i.toNat x (by omega)
theorem done_n {s:Stv} {q:Rq}:(doneSt s q).now.length=s.now.length:=List.length_set ..
theorem done_l {s:Stv} {q:Rq}:(doneSt s q).last.length=s.last.length:=List.length_set ..
theorem upFl {hl h:List (Nat × Bool × Fam)} {m:Nat→Nat} {u b t e:Nat} {o:Bool} {cs:List Value} {y:Blk} (hf:cs.all flat1=true) (h0:hl.lookup b=some (true,one y)) (hh:h.lookup b=some (o,one ⟨cs,t,e⟩)):(∃ G,hl.lookup b=some (true,G)∧∀ k,G k ≠ none↔one (⟨cs,t,e⟩:Blk) k ≠ none)∧(∃ o,h.lookup b=some (o,rnF m (one ⟨cs,t,e⟩)))∧∀ k y,one (⟨cs,t,e⟩:Blk) k=some y→DetB (lt u) y:=by
 refine ⟨⟨_,h0,fun k=>?_⟩,⟨o,by rw [rnF_flat hf];exact hh⟩,fun k y h=>det_row hf h⟩
 by_cases hk:k=0 <;> simp [one,hk]
theorem frF {m:Nat→Nat} {b c t e:Nat} {cs:List Value} (hf:cs.all flat1=true) (h:m b=c):m b=c∧rnF m (one ⟨cs,t,e⟩)=one ⟨cs,t,e⟩:=⟨h,rnF_flat hf⟩
theorem ho2 {h:Nat→Option (Bool × Fam)} {m:Nat→Nat} {b c:Nat} {F G:Fam} (h1:Owned h (m b)) (h2:Owned h (m c)):∀ x ∈ [(b,F),(c,G)],Owned h (m x.1):=fun x hx=>by
 simp only [List.mem_cons,List.not_mem_nil,or_false] at hx
 rcases hx with rfl|rfl
 ·exact h1
 ·exact h2
theorem hu2 {hl:List (Nat × Bool × Fam)} {b c:Nat} {x y x' y':Blk} (h:hl.lookup b=some (true,one y)) (h':hl.lookup c=some (true,one y')):∀ z ∈ [(b,one x),(c,one x')],∃ F,hl.lookup z.1=some (true,F)∧∀ k,z.2 k ≠ none→F k ≠ none:=fun z hz=>by
 simp only [List.mem_cons,List.not_mem_nil,or_false] at hz
 rcases hz with rfl|rfl
 ·refine ⟨_,h,fun k hk=>?_⟩
  by_cases e:k=0
  ·subst e;simp [one]
  ·simp [one,e] at hk
 ·refine ⟨_,h',fun k hk=>?_⟩
  by_cases e:k=0
  ·subst e;simp [one]
  ·simp [one,e] at hk
theorem do_k {s x:Stv} {q:Rq} {c:Int} (h:doSt s q=(x,c)) (hs:stOk s=true):stOk x=true:=by
 have:=do_ok (q:=q) hs
 rwa [h] at this
theorem do_same {s x:Stv} {q:Rq} {c:Int} (h:doSt s q=(x,c)):x.sure=s.sure∧x.slast=s.slast∧x.fl=s.fl:=by
 rcases do_cases s q with ⟨_,_,_,e⟩|⟨e,_⟩
 ·rw [h] at e;cases e;exact ⟨rfl,rfl,rfl⟩
 ·rw [h] at e;subst e;exact ⟨rfl,rfl,rfl⟩
theorem l5Do_c {s:Stv} {q:Rq} (h:stOk s=true) (hd:q.d.size≤1048576):∃ E,FDoes Try.prog 51 [.agg #[.slice (some ⟨0,0,none⟩) s.now.length 0,.slice (some ⟨1,0,none⟩) s.sure.length 0,.slice (some ⟨2,0,none⟩) s.last.length 0,.slice (some ⟨3,0,none⟩) s.slast.length 0,.slice (some ⟨4,0,none⟩) s.fl.length 0],vRq q] (hp [(0,true,one ⟨rS s.now,9,1⟩),(1,false,one ⟨rS s.sure,9,0⟩),(2,true,one ⟨rI s.last,3,1⟩),(3,false,one ⟨rI s.slast,3,0⟩),(4,false,one ⟨rI s.fl,3,0⟩)]) E∧∃ (x:Stv) (c:Int),doSt s q=(x,c)∧E=mkF (.tuple #[.agg #[.slice (some ⟨0,0,none⟩) x.now.length 0,.slice (some ⟨1,0,none⟩) x.sure.length 0,.slice (some ⟨2,0,none⟩) x.last.length 0,.slice (some ⟨3,0,none⟩) x.slast.length 0,.slice (some ⟨4,0,none⟩) x.fl.length 0],.int .i64 c]) [1,3,4] [(0,one ⟨rS x.now,9,1⟩),(2,one ⟨rI x.last,3,1⟩)] []:=by
 have hm:Try.prog.follows .mixedOrders=true:=by kernel_rfl
 have hd_:∀ x_ ∈ ([(0,true,one ⟨rS s.now,9,1⟩),(1,false,one ⟨rS s.sure,9,0⟩),(2,true,one ⟨rI s.last,3,1⟩),(3,false,one ⟨rI s.slast,3,0⟩),(4,false,one ⟨rI s.fl,3,0⟩)]:List (Nat × Bool × Fam)),∀ k_ y_,x_.2.2 k_=some y_→DetB (lt 5) y_:=by
  intro x_ hx k_ y_ e
  simp only [List.mem_cons,List.not_mem_nil,or_false] at hx
  rcases hx with rfl|rfl|rfl|rfl|rfl
  ·exact det_row (rS_flat s.now) e
  ·exact det_row (rS_flat s.sure) e
  ·exact det_row (rI_flat s.last) e
  ·exact det_row (rI_flat s.slast) e
  ·exact det_row (rI_flat s.fl) e
 obtain ⟨⟨l0,l1,l2,l3,l4⟩,g0,g1,g2⟩:=stOk_in h
 refine fn_some (u0:=5) Try.func51 rfl rfl (gets rfl rfl rfl hd_ rfl) ?_
 clear hd_
 refine vc_seq ?_
 refine vc_region hm ?_
 refine gB (u':=6) trivial rfl rfl rfl rfl rfl rfl rfl rfl ?_
 refine gB (u':=7) trivial rfl rfl rfl rfl rfl rfl rfl rfl ?_
 refine gZ (u':=8) trivial rfl rfl rfl rfl rfl rfl rfl rfl ?_
 refine gM trivial (.inr rfl) rfl rfl rfl ?_
 refine rg_nil nofun ?_
 refine vc_seq ?_
 refine vc_block ?_
 refine vc_seq ?_
 refine vc_region hm ?_
 refine gL trivial rfl rfl rfl rfl rfl rfl rfl rfl ?_
 refine gC0 [] (l5Req_c (q:=q) hd) trivial rfl rfl rfl rfl (by trivial) rfl rfl rfl rfl rfl ?_
 refine gN trivial rfl rfl rfl rfl ?_
 refine gM trivial (.inr rfl) rfl rfl rfl ?_
 refine rg_nil nofun ?_
 refine cI rfl (fun c6=>?_) (fun c6=>?_)
 ·skip
  have n6:=unT c6
  refine vc_seq ?_
  refine vc_region hm ?_
  refine gL trivial rfl rfl rfl rfl rfl rfl rfl rfl ?_
  refine gT trivial rfl rfl rfl rfl rfl rfl rfl rfl rfl rfl (Nat.le_of_ble_eq_true rfl) rfl ?_
  refine gM trivial (.inr rfl) rfl rfl rfl ?_
  refine rg_nil nofun ?_
  refine vc_ret ?_
  exact ⟨mkF (.tuple #[.agg #[.slice (some ⟨0,0,none⟩) s.now.length 0,.slice (some ⟨1,0,none⟩) s.sure.length 0,.slice (some ⟨2,0,none⟩) s.last.length 0,.slice (some ⟨3,0,none⟩) s.slast.length 0,.slice (some ⟨4,0,none⟩) s.fl.length 0],.int .i64 1]) [1,3,4] [(0,one ⟨rS s.now,9,1⟩),(2,one ⟨rI s.last,3,1⟩)] [],_,endsT [] (.inr rfl) (.cell rfl rfl rfl rfl rfl (.tmp rfl rfl .nil)) rfl rfl ⟨upFl (rS_flat _) rfl rfl,upFl (rI_flat _) rfl rfl,trivial⟩ trivial rfl,s,1,do_1 n6,rfl⟩
 ·skip
  have n6:=unF c6
  refine vc_seq ?_
  obtain ⟨⟨⟨w0,w1⟩,e0,e1,n0,n1,o0,o1⟩,hmw⟩:=reqOk_in n6
  obtain ⟨⟨m0,m1,m2,m3⟩,hdk⟩:=mayW_in hmw
  have nn:=nu_at g2 w0 w1
  refine vc_region hm ?_
  refine gF trivial rfl rfl rfl rfl rfl ?_
  refine gL trivial rfl rfl rfl rfl rfl rfl rfl rfl ?_
  refine gF trivial rfl rfl rfl rfl rfl ?_
  refine gL trivial rfl rfl rfl rfl rfl rfl rfl rfl ?_
  refine gF trivial rfl rfl rfl rfl rfl ?_
  refine gL trivial rfl rfl rfl rfl rfl rfl rfl rfl ?_
  refine gX trivial rfl rfl rfl rfl rfl rfl rfl rfl (by omega) (by omega) rI_ne ?_
  refine gL trivial rfl rfl rfl rfl rfl rfl rfl (lI (by omega) (by omega)) ?_
  refine gI trivial rfl rfl rfl rfl rfl rfl ?_
  refine gM trivial (.inr rfl) rfl rfl rfl ?_
  refine rg_nil (fun _=>by kernel_rfl) ?_
  refine cI rfl (fun c11=>?_) (fun c11=>?_)
  ·skip
   have p11:=of_decide_eq_true c11
   refine vc_seq ?_
   refine vc_region hm ?_
   refine gL trivial rfl rfl rfl rfl rfl rfl rfl rfl ?_
   refine gT trivial rfl rfl rfl rfl rfl rfl rfl rfl rfl rfl (Nat.le_of_ble_eq_true rfl) rfl ?_
   refine gM trivial (.inr rfl) rfl rfl rfl ?_
   refine rg_nil nofun ?_
   refine vc_ret ?_
   exact ⟨mkF (.tuple #[.agg #[.slice (some ⟨0,0,none⟩) s.now.length 0,.slice (some ⟨1,0,none⟩) s.sure.length 0,.slice (some ⟨2,0,none⟩) s.last.length 0,.slice (some ⟨3,0,none⟩) s.slast.length 0,.slice (some ⟨4,0,none⟩) s.fl.length 0],.int .i64 2]) [1,3,4] [(0,one ⟨rS s.now,9,1⟩),(2,one ⟨rI s.last,3,1⟩)] [],_,endsT [] (.inr rfl) (.cell rfl rfl rfl rfl rfl (.tmp rfl rfl .nil)) rfl rfl ⟨upFl (rS_flat _) rfl rfl,upFl (rI_flat _) rfl rfl,trivial⟩ trivial rfl,s,2,do_2 n6 (by omega),rfl⟩
  ·skip
   have p11:=of_decide_eq_false c11
   refine vc_seq ?_
   refine vc_region hm ?_
   refine gF trivial rfl rfl rfl rfl rfl ?_
   refine gL trivial rfl rfl rfl rfl rfl rfl rfl rfl ?_
   refine gF trivial rfl rfl rfl rfl rfl ?_
   refine gL trivial rfl rfl rfl rfl rfl rfl rfl rfl ?_
   refine gF trivial rfl rfl rfl rfl rfl ?_
   refine gL trivial rfl rfl rfl rfl rfl rfl rfl rfl ?_
   refine gX trivial rfl rfl rfl rfl rfl rfl rfl rfl (by omega) (by omega) rI_ne ?_
   refine gL trivial rfl rfl rfl rfl rfl rfl rfl (lI (by omega) (by omega)) ?_
   refine gI trivial rfl rfl rfl rfl rfl rfl ?_
   refine gM trivial (.inr rfl) rfl rfl rfl ?_
   refine rg_nil (fun _=>by kernel_rfl) ?_
   refine cI rfl (fun c22=>?_) (fun c22=>?_)
   ·skip
    have p22:=of_decide_eq_true c22
    refine vc_seq ?_
    refine vc_region hm ?_
    refine gL trivial rfl rfl rfl rfl rfl rfl rfl rfl ?_
    refine gT trivial rfl rfl rfl rfl rfl rfl rfl rfl rfl rfl (Nat.le_of_ble_eq_true rfl) rfl ?_
    refine gM trivial (.inr rfl) rfl rfl rfl ?_
    refine rg_nil nofun ?_
    refine vc_ret ?_
    exact ⟨mkF (.tuple #[.agg #[.slice (some ⟨0,0,none⟩) s.now.length 0,.slice (some ⟨1,0,none⟩) s.sure.length 0,.slice (some ⟨2,0,none⟩) s.last.length 0,.slice (some ⟨3,0,none⟩) s.slast.length 0,.slice (some ⟨4,0,none⟩) s.fl.length 0],.int .i64 3]) [1,3,4] [(0,one ⟨rS s.now,9,1⟩),(2,one ⟨rI s.last,3,1⟩)] [],_,endsT [] (.inr rfl) (.cell rfl rfl rfl rfl rfl (.tmp rfl rfl .nil)) rfl rfl ⟨upFl (rS_flat _) rfl rfl,upFl (rI_flat _) rfl rfl,trivial⟩ trivial rfl,s,3,do_3 n6 (by omega) (by omega),rfl⟩
   ·skip
    have p22:=of_decide_eq_false c22
    refine vc_seq ?_
    refine vc_region hm ?_
    refine gF trivial rfl rfl rfl rfl rfl ?_
    refine gL trivial rfl rfl rfl rfl rfl rfl rfl rfl ?_
    refine gF trivial rfl rfl rfl rfl rfl ?_
    refine gL trivial rfl rfl rfl rfl rfl rfl rfl rfl ?_
    refine gF trivial rfl rfl rfl rfl rfl ?_
    refine gL trivial rfl rfl rfl rfl rfl rfl rfl rfl ?_
    refine gX trivial rfl rfl rfl rfl rfl rfl rfl rfl (by omega) (by omega) rI_ne ?_
    refine gL trivial rfl rfl rfl rfl rfl rfl rfl (lI (by omega) (by omega)) ?_
    refine gA trivial rfl rfl rfl rfl rfl rfl (by omega) ?_
    refine gI trivial rfl rfl rfl rfl rfl rfl ?_
    refine gM trivial (.inr rfl) rfl rfl rfl ?_
    refine rg_nil (fun _=>by kernel_rfl) ?_
    refine cI rfl (fun c33=>?_) (fun c33=>?_)
    ·skip
     have p33:=of_decide_eq_true c33
     refine vc_seq ?_
     refine vc_region hm ?_
     refine gL trivial rfl rfl rfl rfl rfl rfl rfl rfl ?_
     refine gT trivial rfl rfl rfl rfl rfl rfl rfl rfl rfl rfl (Nat.le_of_ble_eq_true rfl) rfl ?_
     refine gM trivial (.inr rfl) rfl rfl rfl ?_
     refine rg_nil nofun ?_
     refine vc_ret ?_
     exact ⟨mkF (.tuple #[.agg #[.slice (some ⟨0,0,none⟩) s.now.length 0,.slice (some ⟨1,0,none⟩) s.sure.length 0,.slice (some ⟨2,0,none⟩) s.last.length 0,.slice (some ⟨3,0,none⟩) s.slast.length 0,.slice (some ⟨4,0,none⟩) s.fl.length 0],.int .i64 4]) [1,3,4] [(0,one ⟨rS s.now,9,1⟩),(2,one ⟨rI s.last,3,1⟩)] [],_,endsT [] (.inr rfl) (.cell rfl rfl rfl rfl rfl (.tmp rfl rfl .nil)) rfl rfl ⟨upFl (rS_flat _) rfl rfl,upFl (rI_flat _) rfl rfl,trivial⟩ trivial rfl,s,4,do_4 n6 (by omega) (by omega) (by omega),rfl⟩
    ·skip
     have p33:=of_decide_eq_false c33
     refine vc_skip ?_
     refine vc_seq ?_
     refine vc_region hm ?_
     refine gF trivial rfl rfl rfl rfl rfl ?_
     refine gL trivial rfl rfl rfl rfl rfl rfl rfl rfl ?_
     refine gF trivial rfl rfl rfl rfl rfl ?_
     refine gL trivial rfl rfl rfl rfl rfl rfl rfl rfl ?_
     refine gF trivial rfl rfl rfl rfl rfl ?_
     refine gL trivial rfl rfl rfl rfl rfl rfl rfl rfl ?_
     refine gF trivial rfl rfl rfl rfl rfl ?_
     refine gL trivial rfl rfl rfl rfl rfl rfl rfl rfl ?_
     refine gX trivial rfl rfl rfl rfl rfl rfl rfl rfl (by omega) (by omega) rS_ne ?_
     refine gL trivial rfl rfl rfl rfl rfl rfl rfl (lS (by omega) (by omega)) ?_
     refine gF trivial rfl rfl rfl rfl rfl ?_
     refine gL trivial rfl rfl rfl rfl rfl rfl rfl rfl ?_
     refine gF trivial rfl rfl rfl rfl rfl ?_
     refine gL trivial rfl rfl rfl rfl rfl rfl rfl rfl ?_
     refine gC0 [] (spec_l2Write_c (t:=at_ s.now q.obj) (d:=q.d) (i:=q.a) (textOk_len (tx_at g0 o0 o1)) m0 m3) trivial rfl rfl rfl rfl (by trivial) rfl rfl rfl rfl rfl ?_
     refine gX trivial rfl rfl rfl rfl rfl rfl rfl rfl (by omega) (by omega) rS_ne ?_
     refine gT trivial rfl rfl rfl rfl rfl rfl rfl rfl rfl rfl (kS (by omega) (by omega)) (sS (by omega) (by omega)) ?_
     refine rg_nil (fun _=>by kernel_rfl) ?_
     refine vc_seq ?_
     refine vc_region hm ?_
     refine gF trivial rfl rfl rfl rfl rfl ?_
     refine gL trivial rfl rfl rfl rfl rfl rfl rfl rfl ?_
     refine gF trivial rfl rfl rfl rfl rfl ?_
     refine gL trivial rfl rfl rfl rfl rfl rfl rfl rfl ?_
     refine gF trivial rfl rfl rfl rfl rfl ?_
     refine gL trivial rfl rfl rfl rfl rfl rfl rfl rfl ?_
     refine gX trivial rfl rfl rfl rfl rfl rfl rfl rfl (by omega) (by omega) rI_ne ?_
     refine gT trivial rfl rfl rfl rfl rfl rfl rfl rfl rfl rfl (kI (by omega) (by omega)) (sI (by omega) (by omega)) ?_
     refine rg_nil nofun ?_
     refine vc_seq ?_
     refine vc_region hm ?_
     refine gL trivial rfl rfl rfl rfl rfl rfl rfl rfl ?_
     refine gT trivial rfl rfl rfl rfl rfl rfl rfl rfl rfl rfl (Nat.le_of_ble_eq_true rfl) rfl ?_
     refine gM trivial (.inr rfl) rfl rfl rfl ?_
     refine rg_nil nofun ?_
     refine vc_ret ?_
     exact ⟨mkF (.tuple #[.agg #[.slice (some ⟨0,0,none⟩) (doneSt s q).now.length 0,.slice (some ⟨1,0,none⟩) (doneSt s q).sure.length 0,.slice (some ⟨2,0,none⟩) (doneSt s q).last.length 0,.slice (some ⟨3,0,none⟩) (doneSt s q).slast.length 0,.slice (some ⟨4,0,none⟩) (doneSt s q).fl.length 0],.int .i64 0]) [1,3,4] [(0,one ⟨rS (doneSt s q).now,9,1⟩),(2,one ⟨rI (doneSt s q).last,3,1⟩)] [],_,endsT [] (.inr rfl) (.cell rfl rfl rfl rfl rfl (.tmp rfl rfl .nil)) (by rw [done_n,done_l];rfl) rfl ⟨upFl (rS_flat _) rfl rfl,upFl (rI_flat _) rfl rfl,trivial⟩ trivial rfl,(doneSt s q),0,do_0 n6 (by omega) (by omega) (by omega),rfl⟩
theorem spec_StoreDo_c {s:Stv} {q:Rq} {kk cc:Nat} (h:stOk s=true) (hd:q.d.size≤1048576):∃ E,FDoes Try.prog 39 [.agg #[.slice (some ⟨0,kk,none⟩) s.now.length cc,.slice (some ⟨1,0,none⟩) s.sure.length 0,.slice (some ⟨2,0,none⟩) s.last.length 0,.slice (some ⟨3,0,none⟩) s.slast.length 0,.slice (some ⟨4,0,none⟩) s.fl.length 0],vRq q] (hp [(0,false,one ⟨hls kk (rS s.now),9,0⟩),(1,false,one ⟨rS s.sure,9,0⟩),(2,false,one ⟨rI s.last,3,0⟩),(3,false,one ⟨rI s.slast,3,0⟩),(4,false,one ⟨rI s.fl,3,0⟩)]) E∧∃ (x:Stv) (c:Int),doSt s q=(x,c)∧E=mkF (.tuple #[.agg #[.slice (some ⟨5,0,none⟩) x.now.length 0,.slice (some ⟨6,0,none⟩) x.sure.length 0,.slice (some ⟨7,0,none⟩) x.last.length 0,.slice (some ⟨8,0,none⟩) x.slast.length 0,.slice (some ⟨9,0,none⟩) x.fl.length 0],.int .i64 c]) [0,1,2,3,4] [] [(5,one ⟨rS x.now,9,1⟩),(6,one ⟨rS x.sure,9,1⟩),(7,one ⟨rI x.last,3,1⟩),(8,one ⟨rI x.slast,3,1⟩),(9,one ⟨rI x.fl,3,1⟩)]:=by
 have hm:Try.prog.follows .mixedOrders=true:=by kernel_rfl
 have hd_:∀ x_ ∈ ([(0,false,one ⟨hls kk (rS s.now),9,0⟩),(1,false,one ⟨rS s.sure,9,0⟩),(2,false,one ⟨rI s.last,3,0⟩),(3,false,one ⟨rI s.slast,3,0⟩),(4,false,one ⟨rI s.fl,3,0⟩)]:List (Nat × Bool × Fam)),∀ k_ y_,x_.2.2 k_=some y_→DetB (lt 5) y_:=by
  intro x_ hx k_ y_ e
  simp only [List.mem_cons,List.not_mem_nil,or_false] at hx
  rcases hx with rfl|rfl|rfl|rfl|rfl
  ·exact det_row (hls_flat (rS_flat s.now)) e
  ·exact det_row (rS_flat s.sure) e
  ·exact det_row (rI_flat s.last) e
  ·exact det_row (rI_flat s.slast) e
  ·exact det_row (rI_flat s.fl) e
 refine fn_some (u0:=5) Try.func39 rfl rfl (gets rfl rfl rfl hd_ rfl) ?_
 clear hd_
 refine vc_seq ?_
 refine vc_region hm ?_
 refine gB (u':=6) trivial rfl rfl rfl rfl rfl rfl rfl rfl ?_
 refine gB (u':=7) trivial rfl rfl rfl rfl rfl rfl rfl rfl ?_
 refine gZ (u':=8) trivial rfl rfl rfl rfl rfl rfl rfl rfl ?_
 refine gM trivial (.inr rfl) rfl rfl rfl ?_
 refine rg_nil nofun ?_
 refine vc_seq ?_
 refine vc_seq ?_
 refine vc_region hm ?_
 refine gL trivial rfl rfl rfl rfl rfl rfl rfl rfl ?_
 refine gC0 [0,1,2,3,4] (spec_StoreOk_c (s:=s) (kk:=kk) (cc:=cc) (sz_ok h)) trivial rfl rfl rfl rfl ⟨rFlat (hls_flat (rS_flat s.now)) rfl (.inl rfl) rfl,rFlat (rS_flat s.sure) rfl (.inl rfl) rfl,rFlat (rI_flat s.last) rfl (.inl rfl) rfl,rFlat (rI_flat s.slast) rfl (.inl rfl) rfl,rFlat (rI_flat s.fl) rfl (.inl rfl) rfl,trivial⟩ rfl rfl rfl rfl rfl ?_
 refine gN trivial rfl rfl rfl rfl ?_
 refine rg_nil nofun ?_
 refine cF rfl (notT h) ?_
 refine vc_skip ?_
 refine vc_seq ?_
 refine vc_region hm ?_
 refine gL trivial rfl rfl rfl rfl rfl rfl rfl rfl ?_
 refine gCn 13 [0,1,2,3,4,8,9,10,11,12] (l5Copy_c (s:=s) (kk:=kk) (cc:=cc) (sz_ok h)) trivial rfl rfl rfl rfl ⟨rFlat (hls_flat (rS_flat s.now)) rfl (.inl rfl) rfl,rFlat (rS_flat s.sure) rfl (.inl rfl) rfl,rFlat (rI_flat s.last) rfl (.inl rfl) rfl,rFlat (rI_flat s.slast) rfl (.inl rfl) rfl,rFlat (rI_flat s.fl) rfl (.inl rfl) rfl,trivial⟩ ⟨rS_flat s.now,rS_flat s.sure,rI_flat s.last,rI_flat s.slast,rI_flat s.fl,trivial⟩ rfl rfl rfl rfl ?_
 refine gL trivial rfl rfl rfl rfl rfl rfl rfl rfl ?_
 obtain ⟨E1,hE1,x1,c1,d1,rfl⟩:=l5Do_c (s:=s) (q:=q) h hd
 refine gCF (ups':=[(8,one ⟨rS x1.now,9,1⟩),(10,one ⟨rI x1.last,3,1⟩)]) (as':=[]) (v':=.tuple #[.agg #[.slice (some ⟨8,0,none⟩) x1.now.length 0,.slice (some ⟨9,0,none⟩) x1.sure.length 0,.slice (some ⟨10,0,none⟩) x1.last.length 0,.slice (some ⟨11,0,none⟩) x1.slast.length 0,.slice (some ⟨12,0,none⟩) x1.fl.length 0],.int .i64 c1]) 13 [8,9,10,11,12] hE1 trivial rfl rfl rfl rfl ⟨rFlat (rS_flat s.now) rfl (.inr rfl) rfl,rFlat (rS_flat s.sure) rfl (.inl rfl) rfl,rFlat (rI_flat s.last) rfl (.inr rfl) rfl,rFlat (rI_flat s.slast) rfl (.inl rfl) rfl,rFlat (rI_flat s.fl) rfl (.inl rfl) rfl,trivial⟩ ⟨frF (rS_flat _) rfl,frF (rI_flat _) rfl,trivial⟩ trivial rfl rfl (ho2 ⟨_,rfl⟩ ⟨_,rfl⟩) (hu2 rfl rfl) rfl rfl ?_
 refine gE trivial rfl rfl rfl rfl rfl rfl ?_
 refine gE trivial rfl rfl rfl rfl rfl rfl ?_
 refine gT trivial rfl rfl rfl rfl rfl rfl rfl rfl rfl rfl (Nat.le_of_ble_eq_true rfl) rfl ?_
 refine gM trivial (.inr rfl) rfl rfl rfl ?_
 refine rg_nil (fun _=>by kernel_rfl) ?_
 refine vc_ret ?_
 obtain ⟨v1,v2,v3⟩:=do_same d1
 exact ⟨mkF (.tuple #[.agg #[.slice (some ⟨5,0,none⟩) x1.now.length 0,.slice (some ⟨6,0,none⟩) x1.sure.length 0,.slice (some ⟨7,0,none⟩) x1.last.length 0,.slice (some ⟨8,0,none⟩) x1.slast.length 0,.slice (some ⟨9,0,none⟩) x1.fl.length 0],.int .i64 c1]) [0,1,2,3,4] [] [(5,one ⟨rS x1.now,9,1⟩),(6,one ⟨rS x1.sure,9,1⟩),(7,one ⟨rI x1.last,3,1⟩),(8,one ⟨rI x1.slast,3,1⟩),(9,one ⟨rI x1.fl,3,1⟩)],_,endsT [(5,8,one ⟨rS x1.now,9,1⟩),(6,9,one ⟨rS x1.sure,9,1⟩),(7,10,one ⟨rI x1.last,3,1⟩),(8,11,one ⟨rI x1.slast,3,1⟩),(9,12,one ⟨rI x1.fl,3,1⟩)] (.inr rfl) (.cell rfl rfl rfl rfl rfl (.tmp rfl rfl .nil)) rfl rfl trivial ⟨asFlat rfl (rS_flat x1.now),asFlat (by rw [v1];rfl) (rS_flat x1.sure),asFlat rfl (rI_flat x1.last),asFlat (by rw [v2];rfl) (rI_flat x1.slast),asFlat (by rw [v3];rfl) (rI_flat x1.fl),trivial⟩ rfl,x1,c1,d1,rfl⟩
abbrev newS:Stv:=⟨List.replicate 3 default,List.replicate 3 default,List.replicate 3 default,List.replicate 3 default,List.replicate 3 default⟩
theorem new_ok:stOk newS=true:=by decide +kernel
abbrev syncSt (s:Stv):Stv:=⟨s.now,s.now,s.last,s.last,s.fl⟩
abbrev fallSt (s:Stv):Stv:=⟨s.sure,s.sure,s.slast,s.slast,s.fl⟩
theorem sync_ok {s:Stv} (h:stOk s=true):stOk (syncSt s)=true:=by
 obtain ⟨⟨l0,l1,l2,l3,l4⟩,g0,g1,g2⟩:=stOk_in h
 refine stOk_of ⟨l0,l0,l2,l2,l4⟩ g0 g0 (List.all_eq_true.2 fun j hj=>decide_eq_true ?_)
 have:=nu_at (i:=(j:Int)) g2 (by omega) (by have:=List.mem_range.1 hj;omega)
 show 0≤at_ s.last (j:Int)∧at_ s.last (j:Int)≤at_ s.last (j:Int)∧at_ s.last (j:Int)≤1000∧0≤at_ s.fl (j:Int)∧at_ s.fl (j:Int)≤100
 omega
theorem fall_ok {s:Stv} (h:stOk s=true):stOk (fallSt s)=true:=by
 obtain ⟨⟨l0,l1,l2,l3,l4⟩,g0,g1,g2⟩:=stOk_in h
 refine stOk_of ⟨l1,l1,l3,l3,l4⟩ g1 g1 (List.all_eq_true.2 fun j hj=>decide_eq_true ?_)
 have:=nu_at (i:=(j:Int)) g2 (by omega) (by have:=List.mem_range.1 hj;omega)
 show 0≤at_ s.slast (j:Int)∧at_ s.slast (j:Int)≤at_ s.slast (j:Int)∧at_ s.slast (j:Int)≤1000∧0≤at_ s.fl (j:Int)∧at_ s.fl (j:Int)≤100
 omega
def mayN (who ep:Int):Bool:=decide ((0≤who∧who<3)∧0≤ep∧ep≤100)
abbrev fencedSt (s:Stv) (who ep:Int):Stv:=⟨s.now,s.sure,s.last,s.slast,s.fl.set who.toNat (mxI (at_ s.fl who) ep)⟩
def fenceD (s:Stv) (who ep:Int):Stv × Bool:=if mayN who ep=true then (fencedSt s who ep,true) else (s,false)
theorem fence_T {s:Stv} {who ep:Int} (h:(0≤who∧who<3)∧0≤ep∧ep≤100):fenceD s who ep=(fencedSt s who ep,true):=if_pos (decide_eq_true h)
theorem fence_F {s:Stv} {who ep:Int} (h:¬ ((0≤who∧who<3)∧0≤ep∧ep≤100)):fenceD s who ep=(s,false):=if_neg (by unfold mayN;rw [decide_eq_false h];decide)
theorem fenced_n {s:Stv} {who ep:Int}:(fencedSt s who ep).fl.length=s.fl.length:=List.length_set ..
theorem fenced_ok {s:Stv} {who ep:Int} (h:stOk s=true) (h1:(0≤who∧who<3)∧0≤ep∧ep≤100):stOk (fencedSt s who ep)=true:=by
 obtain ⟨⟨l0,l1,l2,l3,l4⟩,g0,g1,g2⟩:=stOk_in h
 refine stOk_of ⟨l0,l1,l2,l3,fenced_n.trans l4⟩ g0 g1 (List.all_eq_true.2 fun j hj=>decide_eq_true ?_)
 have hj:=List.mem_range.1 hj
 have:=nu_at (i:=(j:Int)) g2 (by omega) (by omega)
 have h2:=nu_at (i:=who) g2 h1.1.1 h1.1.2
 show 0≤at_ s.slast (j:Int)∧at_ s.slast (j:Int)≤at_ s.last (j:Int)∧at_ s.last (j:Int)≤1000∧0≤at_ (s.fl.set _ _) (j:Int)∧at_ (s.fl.set _ _) (j:Int)≤100
 rw [at_setI h1.1.1 (by omega) (by omega)]
 unfold mxI
 split
 ·split <;> omega
 ·exact this
theorem fence_ok {s x:Stv} {who ep:Int} {b:Bool} (hf:fenceD s who ep=(x,b)) (h:stOk s=true):stOk x=true:=by
 by_cases e:(0≤who∧who<3)∧0≤ep∧ep≤100
 ·rw [fence_T e] at hf;cases hf;exact fenced_ok h e
 ·rw [fence_F e] at hf;cases hf;exact h
theorem spec_StoreNew_c : FDoes Try.prog 29 [] (hp []) (mkE (.agg #[.slice (some ⟨0,0,none⟩) newS.now.length 0,.slice (some ⟨1,0,none⟩) newS.sure.length 0,.slice (some ⟨2,0,none⟩) newS.last.length 0,.slice (some ⟨3,0,none⟩) newS.slast.length 0,.slice (some ⟨4,0,none⟩) newS.fl.length 0]) [] [] [(0,⟨rS newS.now,9,101⟩),(1,⟨rS newS.sure,9,101⟩),(2,⟨rI newS.last,3,101⟩),(3,⟨rI newS.slast,3,101⟩),(4,⟨rI newS.fl,3,101⟩)]):=by
 have hm:Try.prog.follows .mixedOrders=true:=by kernel_rfl
 have hd_:∀ x ∈ ([]:List (Nat × Bool × Fam)),∀ k y,x.2.2 k=some y→DetB (lt 0) y:=fun x_ hx=>(by cases hx)
 refine fn_exact (u0:=0) Try.func29 rfl rfl (gets rfl rfl rfl hd_ rfl) ?_
 clear hd_
 refine vc_seq ?_
 refine vc_region hm ?_
 refine gZ (u':=1) trivial rfl rfl rfl rfl rfl rfl rfl rfl ?_
 refine rg_nil nofun ?_
 refine vc_seq ?_
 refine vc_region hm ?_
 refine gMk (u':=2) trivial rfl rfl rfl rfl rfl rfl rfl rfl rfl rfl rfl rfl rfl rfl ⟨by decide,by decide⟩ (zeros_row (enc:=eS) (n:=1) (fun _=>rfl) (by decide) rfl 3) ?_
 refine gMk (u':=3) trivial rfl rfl rfl rfl rfl rfl rfl rfl rfl rfl rfl rfl rfl rfl ⟨by decide,by decide⟩ (zeros_row (enc:=eS) (n:=1) (fun _=>rfl) (by decide) rfl 3) ?_
 refine gMk (u':=4) trivial rfl rfl rfl rfl rfl rfl rfl rfl rfl rfl rfl rfl rfl rfl ⟨by decide,by decide⟩ (zeros_row (enc:=eI) (n:=1) (fun _=>rfl) (by decide) rfl 3) ?_
 refine gMk (u':=5) trivial rfl rfl rfl rfl rfl rfl rfl rfl rfl rfl rfl rfl rfl rfl ⟨by decide,by decide⟩ (zeros_row (enc:=eI) (n:=1) (fun _=>rfl) (by decide) rfl 3) ?_
 refine gMk (u':=6) trivial rfl rfl rfl rfl rfl rfl rfl rfl rfl rfl rfl rfl rfl rfl ⟨by decide,by decide⟩ (zeros_row (enc:=eI) (n:=1) (fun _=>rfl) (by decide) rfl 3) ?_
 refine gU trivial rfl rfl rfl rfl rfl rfl rfl rfl ?_
 refine gT trivial rfl rfl rfl rfl rfl rfl rfl rfl rfl rfl (Nat.le_of_ble_eq_true rfl) rfl ?_
 refine rg_nil (fun _=>by kernel_rfl) ?_
 refine vc_ret ?_
 exact ⟨_,endsG [(0,1,⟨rS newS.now,9,101⟩),(1,2,⟨rS newS.sure,9,101⟩),(2,3,⟨rI newS.last,3,101⟩),(3,4,⟨rI newS.slast,3,101⟩),(4,5,⟨rI newS.fl,3,101⟩)] (.inr rfl) (.cell rfl rfl rfl rfl rfl .nil) rfl rfl trivial ⟨⟨rfl,(rS_flat newS.now)⟩,⟨rfl,(rS_flat newS.sure)⟩,⟨rfl,(rI_flat newS.last)⟩,⟨rfl,(rI_flat newS.slast)⟩,⟨rfl,(rI_flat newS.fl)⟩,trivial⟩ rfl⟩
theorem spec_StoreSync_c {s:Stv} {kk cc:Nat} (h:stOk s=true):FDoes Try.prog 36 [.agg #[.slice (some ⟨0,kk,none⟩) s.now.length cc,.slice (some ⟨1,0,none⟩) s.sure.length 0,.slice (some ⟨2,0,none⟩) s.last.length 0,.slice (some ⟨3,0,none⟩) s.slast.length 0,.slice (some ⟨4,0,none⟩) s.fl.length 0]] (hp [(0,false,one ⟨hls kk (rS s.now),9,0⟩),(1,false,one ⟨rS s.sure,9,0⟩),(2,false,one ⟨rI s.last,3,0⟩),(3,false,one ⟨rI s.slast,3,0⟩),(4,false,one ⟨rI s.fl,3,0⟩)]) (mkE (.agg #[.slice (some ⟨5,0,none⟩) (syncSt s).now.length 0,.slice (some ⟨6,0,none⟩) (syncSt s).sure.length 0,.slice (some ⟨7,0,none⟩) (syncSt s).last.length 0,.slice (some ⟨8,0,none⟩) (syncSt s).slast.length 0,.slice (some ⟨9,0,none⟩) (syncSt s).fl.length 0]) [0,1,2,3,4] [] [(5,⟨rS (syncSt s).now,9,1⟩),(6,⟨rS (syncSt s).sure,9,1⟩),(7,⟨rI (syncSt s).last,3,1⟩),(8,⟨rI (syncSt s).slast,3,1⟩),(9,⟨rI (syncSt s).fl,3,1⟩)]):=by
 have hm:Try.prog.follows .mixedOrders=true:=by kernel_rfl
 have hd_:∀ x_ ∈ ([(0,false,one ⟨hls kk (rS s.now),9,0⟩),(1,false,one ⟨rS s.sure,9,0⟩),(2,false,one ⟨rI s.last,3,0⟩),(3,false,one ⟨rI s.slast,3,0⟩),(4,false,one ⟨rI s.fl,3,0⟩)]:List (Nat × Bool × Fam)),∀ k_ y_,x_.2.2 k_=some y_→DetB (lt 5) y_:=by
  intro x_ hx k_ y_ e
  simp only [List.mem_cons,List.not_mem_nil,or_false] at hx
  rcases hx with rfl|rfl|rfl|rfl|rfl
  ·exact det_row (hls_flat (rS_flat s.now)) e
  ·exact det_row (rS_flat s.sure) e
  ·exact det_row (rI_flat s.last) e
  ·exact det_row (rI_flat s.slast) e
  ·exact det_row (rI_flat s.fl) e
 obtain ⟨⟨l0,l1,l2,l3,l4⟩,g0,g1,g2⟩:=stOk_in h
 refine fn_exact (u0:=5) Try.func36 rfl rfl (gets rfl rfl rfl hd_ rfl) ?_
 clear hd_
 refine vc_seq ?_
 refine vc_region hm ?_
 refine gB (u':=6) trivial rfl rfl rfl rfl rfl rfl rfl rfl ?_
 refine gZ (u':=7) trivial rfl rfl rfl rfl rfl rfl rfl rfl ?_
 refine rg_nil nofun ?_
 refine vc_seq ?_
 refine vc_seq ?_
 refine vc_region hm ?_
 refine gL trivial rfl rfl rfl rfl rfl rfl rfl rfl ?_
 refine gC0 [0,1,2,3,4] (spec_StoreOk_c (s:=s) (kk:=kk) (cc:=cc) (sz_ok h)) trivial rfl rfl rfl rfl ⟨rFlat (hls_flat (rS_flat s.now)) rfl (.inl rfl) rfl,rFlat (rS_flat s.sure) rfl (.inl rfl) rfl,rFlat (rI_flat s.last) rfl (.inl rfl) rfl,rFlat (rI_flat s.slast) rfl (.inl rfl) rfl,rFlat (rI_flat s.fl) rfl (.inl rfl) rfl,trivial⟩ rfl rfl rfl rfl rfl ?_
 refine gN trivial rfl rfl rfl rfl ?_
 refine rg_nil nofun ?_
 refine cF rfl (notT h) ?_
 refine vc_skip ?_
 refine vc_seq ?_
 refine vc_region hm ?_
 refine gL trivial rfl rfl rfl rfl rfl rfl rfl rfl ?_
 refine gCn 12 [0,1,2,3,4,7,8,9,10,11] (l5Copy_c (s:=s) (kk:=kk) (cc:=cc) (sz_ok h)) trivial rfl rfl rfl rfl ⟨rFlat (hls_flat (rS_flat s.now)) rfl (.inl rfl) rfl,rFlat (rS_flat s.sure) rfl (.inl rfl) rfl,rFlat (rI_flat s.last) rfl (.inl rfl) rfl,rFlat (rI_flat s.slast) rfl (.inl rfl) rfl,rFlat (rI_flat s.fl) rfl (.inl rfl) rfl,trivial⟩ ⟨rS_flat s.now,rS_flat s.sure,rI_flat s.last,rI_flat s.slast,rI_flat s.fl,trivial⟩ rfl rfl rfl rfl ?_
 refine gZ (u':=13) trivial rfl rfl rfl rfl rfl rfl rfl rfl ?_
 refine gT trivial rfl rfl rfl rfl rfl rfl rfl rfl rfl rfl (Nat.le_of_ble_eq_true rfl) rfl ?_
 refine rg_nil nofun ?_
 refine vc_seq ?_
 refine vc_region hm ?_
 refine gR (u':=14) (out:=rS []) trivial rfl rfl rfl rfl rfl rfl rfl rfl rfl rfl rfl rfl rfl rfl ?_
 refine gF trivial rfl rfl rfl rfl rfl ?_
 refine gL trivial rfl rfl rfl rfl rfl rfl rfl rfl ?_
 refine gAp (u':=15) trivial rfl rfl rfl rfl rfl rfl rfl rfl rfl rfl rfl rfl rfl (cq_len (n:=1) (fun _=>rfl) kk s.now) (cqS_leaf kk _) (show (0 + s.now.length) * (16 + 1)≤140737488355328 by omega) (cqS_eq kk _) (Nat.zero_add _) ?_
 refine gF trivial rfl rfl rfl rfl rfl ?_
 refine gT trivial rfl rfl rfl rfl rfl rfl rfl rfl rfl rfl (Nat.le_of_ble_eq_true rfl) rfl ?_
 refine rg_nil nofun ?_
 refine vc_seq ?_
 refine vc_region hm ?_
 refine gR (u':=16) (out:=rI []) trivial rfl rfl rfl rfl rfl rfl rfl rfl rfl rfl rfl rfl rfl rfl ?_
 refine gF trivial rfl rfl rfl rfl rfl ?_
 refine gL trivial rfl rfl rfl rfl rfl rfl rfl rfl ?_
 refine gAp (u':=17) trivial rfl rfl rfl rfl rfl rfl rfl rfl rfl rfl rfl rfl rfl (cq_len (n:=1) (fun _=>rfl) 0 s.last) (cqI_leaf 0 _) (show (0 + s.last.length) * (8 + 1)≤140737488355328 by omega) (cqI_eq 0 _) (Nat.zero_add _) ?_
 refine gF trivial rfl rfl rfl rfl rfl ?_
 refine gT trivial rfl rfl rfl rfl rfl rfl rfl rfl rfl rfl (Nat.le_of_ble_eq_true rfl) rfl ?_
 refine rg_nil nofun ?_
 refine vc_seq ?_
 refine vc_region hm ?_
 refine gL trivial rfl rfl rfl rfl rfl rfl rfl rfl ?_
 refine gT trivial rfl rfl rfl rfl rfl rfl rfl rfl rfl rfl (Nat.le_of_ble_eq_true rfl) rfl ?_
 refine rg_nil nofun ?_
 refine vc_ret ?_
 exact ⟨_,endsG [(5,7,⟨rS (syncSt s).now,9,1⟩),(6,14,⟨rS (syncSt s).sure,9,1⟩),(7,9,⟨rI (syncSt s).last,3,1⟩),(8,16,⟨rI (syncSt s).slast,3,1⟩),(9,11,⟨rI (syncSt s).fl,3,1⟩)] (.inr rfl) (.cell rfl rfl rfl rfl rfl .nil) rfl rfl trivial ⟨⟨rfl,(rS_flat (syncSt s).now)⟩,⟨rfl,(rS_flat (syncSt s).sure)⟩,⟨rfl,(rI_flat (syncSt s).last)⟩,⟨rfl,(rI_flat (syncSt s).slast)⟩,⟨rfl,(rI_flat (syncSt s).fl)⟩,trivial⟩ rfl⟩
theorem impl_StoreSync_c {s:Stv} {kk cc:Nat} (h:stOk s=true):FDoes Try.prog 21 [.agg #[.slice (some ⟨0,kk,none⟩) s.now.length cc,.slice (some ⟨1,0,none⟩) s.sure.length 0,.slice (some ⟨2,0,none⟩) s.last.length 0,.slice (some ⟨3,0,none⟩) s.slast.length 0,.slice (some ⟨4,0,none⟩) s.fl.length 0]] (hp [(0,false,one ⟨hls kk (rS s.now),9,0⟩),(1,false,one ⟨rS s.sure,9,0⟩),(2,false,one ⟨rI s.last,3,0⟩),(3,false,one ⟨rI s.slast,3,0⟩),(4,false,one ⟨rI s.fl,3,0⟩)]) (mkE (.agg #[.slice (some ⟨5,0,none⟩) (syncSt s).now.length 0,.slice (some ⟨6,0,none⟩) (syncSt s).sure.length 0,.slice (some ⟨7,0,none⟩) (syncSt s).last.length 0,.slice (some ⟨8,0,none⟩) (syncSt s).slast.length 0,.slice (some ⟨9,0,none⟩) (syncSt s).fl.length 0]) [0,1,2,3,4] [] [(5,⟨rS (syncSt s).now,9,1⟩),(6,⟨rS (syncSt s).sure,9,1⟩),(7,⟨rI (syncSt s).last,3,1⟩),(8,⟨rI (syncSt s).slast,3,1⟩),(9,⟨rI (syncSt s).fl,3,1⟩)]):=by
 have hm:Try.prog.follows .mixedOrders=true:=by kernel_rfl
 have hd_:∀ x_ ∈ ([(0,false,one ⟨hls kk (rS s.now),9,0⟩),(1,false,one ⟨rS s.sure,9,0⟩),(2,false,one ⟨rI s.last,3,0⟩),(3,false,one ⟨rI s.slast,3,0⟩),(4,false,one ⟨rI s.fl,3,0⟩)]:List (Nat × Bool × Fam)),∀ k_ y_,x_.2.2 k_=some y_→DetB (lt 5) y_:=by
  intro x_ hx k_ y_ e
  simp only [List.mem_cons,List.not_mem_nil,or_false] at hx
  rcases hx with rfl|rfl|rfl|rfl|rfl
  ·exact det_row (hls_flat (rS_flat s.now)) e
  ·exact det_row (rS_flat s.sure) e
  ·exact det_row (rI_flat s.last) e
  ·exact det_row (rI_flat s.slast) e
  ·exact det_row (rI_flat s.fl) e
 obtain ⟨⟨l0,l1,l2,l3,l4⟩,g0,g1,g2⟩:=stOk_in h
 refine fn_exact (u0:=5) Try.func21 rfl rfl (gets rfl rfl rfl hd_ rfl) ?_
 clear hd_
 refine vc_seq ?_
 refine vc_region hm ?_
 refine gB (u':=6) trivial rfl rfl rfl rfl rfl rfl rfl rfl ?_
 refine gZ (u':=7) trivial rfl rfl rfl rfl rfl rfl rfl rfl ?_
 refine rg_nil nofun ?_
 refine vc_seq ?_
 refine vc_seq ?_
 refine vc_region hm ?_
 refine gL trivial rfl rfl rfl rfl rfl rfl rfl rfl ?_
 refine gC0 [0,1,2,3,4] (impl_StoreOk_c (s:=s) (kk:=kk) (cc:=cc) (sz_ok h)) trivial rfl rfl rfl rfl ⟨rFlat (hls_flat (rS_flat s.now)) rfl (.inl rfl) rfl,rFlat (rS_flat s.sure) rfl (.inl rfl) rfl,rFlat (rI_flat s.last) rfl (.inl rfl) rfl,rFlat (rI_flat s.slast) rfl (.inl rfl) rfl,rFlat (rI_flat s.fl) rfl (.inl rfl) rfl,trivial⟩ rfl rfl rfl rfl rfl ?_
 refine gN trivial rfl rfl rfl rfl ?_
 refine rg_nil nofun ?_
 refine cF rfl (notT h) ?_
 refine vc_skip ?_
 refine vc_seq ?_
 refine vc_region hm ?_
 refine gL trivial rfl rfl rfl rfl rfl rfl rfl rfl ?_
 refine gCn 12 [0,1,2,3,4,7,8,9,10,11] (again_c (s:=s) (kk:=kk) (cc:=cc) (sz_ok h) (stOk_in h).1) trivial rfl rfl rfl rfl ⟨rFlat (hls_flat (rS_flat s.now)) rfl (.inl rfl) rfl,rFlat (rS_flat s.sure) rfl (.inl rfl) rfl,rFlat (rI_flat s.last) rfl (.inl rfl) rfl,rFlat (rI_flat s.slast) rfl (.inl rfl) rfl,rFlat (rI_flat s.fl) rfl (.inl rfl) rfl,trivial⟩ ⟨rS_flat s.now,rS_flat s.sure,rI_flat s.last,rI_flat s.slast,rI_flat s.fl,trivial⟩ rfl rfl rfl rfl ?_
 refine gT trivial rfl rfl rfl rfl rfl rfl rfl rfl rfl rfl (Nat.le_of_ble_eq_true rfl) rfl ?_
 refine rg_nil nofun ?_
 refine vc_seq ?_
 refine vc_region hm ?_
 refine gF trivial rfl rfl rfl rfl rfl ?_
 refine gL trivial rfl rfl rfl rfl rfl rfl rfl rfl ?_
 refine gCn 13 [7,12] (cloneS_c (l:=s.now) (k:=0) (c:=0) (by omega) (by omega)) trivial rfl rfl rfl rfl ⟨rFlat (hls_flat (rS_flat _)) rfl (.inl rfl) rfl,trivial⟩ ⟨rS_flat _,trivial⟩ rfl rfl rfl rfl ?_
 refine gF trivial rfl rfl rfl rfl rfl ?_
 refine gL trivial rfl rfl rfl rfl rfl rfl rfl rfl ?_
 refine gCn 14 [9,13] (cloneI_c (l:=s.last) (k:=0) (c:=0) (by omega) (by omega)) trivial rfl rfl rfl rfl ⟨rFlat (hls_flat (rI_flat _)) rfl (.inl rfl) rfl,trivial⟩ ⟨rI_flat _,trivial⟩ rfl rfl rfl rfl ?_
 refine gF trivial rfl rfl rfl rfl rfl ?_
 refine gT trivial rfl rfl rfl rfl rfl rfl rfl rfl rfl rfl (Nat.le_of_ble_eq_true rfl) rfl ?_
 refine gF trivial rfl rfl rfl rfl rfl ?_
 refine gT trivial rfl rfl rfl rfl rfl rfl rfl rfl rfl rfl (Nat.le_of_ble_eq_true rfl) rfl ?_
 refine rg_nil (fun _=>by kernel_rfl) ?_
 refine vc_seq ?_
 refine vc_region hm ?_
 refine gL trivial rfl rfl rfl rfl rfl rfl rfl rfl ?_
 refine gT trivial rfl rfl rfl rfl rfl rfl rfl rfl rfl rfl (Nat.le_of_ble_eq_true rfl) rfl ?_
 refine rg_nil nofun ?_
 refine vc_ret ?_
 exact ⟨_,endsG [(5,7,⟨rS (syncSt s).now,9,1⟩),(6,12,⟨rS (syncSt s).sure,9,1⟩),(7,9,⟨rI (syncSt s).last,3,1⟩),(8,13,⟨rI (syncSt s).slast,3,1⟩),(9,11,⟨rI (syncSt s).fl,3,1⟩)] (.inr rfl) (.cell rfl rfl rfl rfl rfl .nil) rfl rfl trivial ⟨⟨rfl,(rS_flat (syncSt s).now)⟩,⟨rfl,(rS_flat (syncSt s).sure)⟩,⟨rfl,(rI_flat (syncSt s).last)⟩,⟨rfl,(rI_flat (syncSt s).slast)⟩,⟨rfl,(rI_flat (syncSt s).fl)⟩,trivial⟩ rfl⟩
theorem spec_StoreFall_c {s:Stv} {kk cc:Nat} (h:stOk s=true):FDoes Try.prog 35 [.agg #[.slice (some ⟨0,kk,none⟩) s.now.length cc,.slice (some ⟨1,0,none⟩) s.sure.length 0,.slice (some ⟨2,0,none⟩) s.last.length 0,.slice (some ⟨3,0,none⟩) s.slast.length 0,.slice (some ⟨4,0,none⟩) s.fl.length 0]] (hp [(0,false,one ⟨hls kk (rS s.now),9,0⟩),(1,false,one ⟨rS s.sure,9,0⟩),(2,false,one ⟨rI s.last,3,0⟩),(3,false,one ⟨rI s.slast,3,0⟩),(4,false,one ⟨rI s.fl,3,0⟩)]) (mkE (.agg #[.slice (some ⟨5,0,none⟩) (fallSt s).now.length 0,.slice (some ⟨6,0,none⟩) (fallSt s).sure.length 0,.slice (some ⟨7,0,none⟩) (fallSt s).last.length 0,.slice (some ⟨8,0,none⟩) (fallSt s).slast.length 0,.slice (some ⟨9,0,none⟩) (fallSt s).fl.length 0]) [0,1,2,3,4] [] [(5,⟨rS (fallSt s).now,9,1⟩),(6,⟨rS (fallSt s).sure,9,1⟩),(7,⟨rI (fallSt s).last,3,1⟩),(8,⟨rI (fallSt s).slast,3,1⟩),(9,⟨rI (fallSt s).fl,3,1⟩)]):=by
 have hm:Try.prog.follows .mixedOrders=true:=by kernel_rfl
 have hd_:∀ x_ ∈ ([(0,false,one ⟨hls kk (rS s.now),9,0⟩),(1,false,one ⟨rS s.sure,9,0⟩),(2,false,one ⟨rI s.last,3,0⟩),(3,false,one ⟨rI s.slast,3,0⟩),(4,false,one ⟨rI s.fl,3,0⟩)]:List (Nat × Bool × Fam)),∀ k_ y_,x_.2.2 k_=some y_→DetB (lt 5) y_:=by
  intro x_ hx k_ y_ e
  simp only [List.mem_cons,List.not_mem_nil,or_false] at hx
  rcases hx with rfl|rfl|rfl|rfl|rfl
  ·exact det_row (hls_flat (rS_flat s.now)) e
  ·exact det_row (rS_flat s.sure) e
  ·exact det_row (rI_flat s.last) e
  ·exact det_row (rI_flat s.slast) e
  ·exact det_row (rI_flat s.fl) e
 obtain ⟨⟨l0,l1,l2,l3,l4⟩,g0,g1,g2⟩:=stOk_in h
 refine fn_exact (u0:=5) Try.func35 rfl rfl (gets rfl rfl rfl hd_ rfl) ?_
 clear hd_
 refine vc_seq ?_
 refine vc_region hm ?_
 refine gB (u':=6) trivial rfl rfl rfl rfl rfl rfl rfl rfl ?_
 refine gZ (u':=7) trivial rfl rfl rfl rfl rfl rfl rfl rfl ?_
 refine rg_nil nofun ?_
 refine vc_seq ?_
 refine vc_seq ?_
 refine vc_region hm ?_
 refine gL trivial rfl rfl rfl rfl rfl rfl rfl rfl ?_
 refine gC0 [0,1,2,3,4] (spec_StoreOk_c (s:=s) (kk:=kk) (cc:=cc) (sz_ok h)) trivial rfl rfl rfl rfl ⟨rFlat (hls_flat (rS_flat s.now)) rfl (.inl rfl) rfl,rFlat (rS_flat s.sure) rfl (.inl rfl) rfl,rFlat (rI_flat s.last) rfl (.inl rfl) rfl,rFlat (rI_flat s.slast) rfl (.inl rfl) rfl,rFlat (rI_flat s.fl) rfl (.inl rfl) rfl,trivial⟩ rfl rfl rfl rfl rfl ?_
 refine gN trivial rfl rfl rfl rfl ?_
 refine rg_nil nofun ?_
 refine cF rfl (notT h) ?_
 refine vc_skip ?_
 refine vc_seq ?_
 refine vc_region hm ?_
 refine gL trivial rfl rfl rfl rfl rfl rfl rfl rfl ?_
 refine gCn 12 [0,1,2,3,4,7,8,9,10,11] (l5Copy_c (s:=s) (kk:=kk) (cc:=cc) (sz_ok h)) trivial rfl rfl rfl rfl ⟨rFlat (hls_flat (rS_flat s.now)) rfl (.inl rfl) rfl,rFlat (rS_flat s.sure) rfl (.inl rfl) rfl,rFlat (rI_flat s.last) rfl (.inl rfl) rfl,rFlat (rI_flat s.slast) rfl (.inl rfl) rfl,rFlat (rI_flat s.fl) rfl (.inl rfl) rfl,trivial⟩ ⟨rS_flat s.now,rS_flat s.sure,rI_flat s.last,rI_flat s.slast,rI_flat s.fl,trivial⟩ rfl rfl rfl rfl ?_
 refine gZ (u':=13) trivial rfl rfl rfl rfl rfl rfl rfl rfl ?_
 refine gT trivial rfl rfl rfl rfl rfl rfl rfl rfl rfl rfl (Nat.le_of_ble_eq_true rfl) rfl ?_
 refine rg_nil nofun ?_
 refine vc_seq ?_
 refine vc_region hm ?_
 refine gR (u':=14) (out:=rS []) trivial rfl rfl rfl rfl rfl rfl rfl rfl rfl rfl rfl rfl rfl rfl ?_
 refine gF trivial rfl rfl rfl rfl rfl ?_
 refine gL trivial rfl rfl rfl rfl rfl rfl rfl rfl ?_
 refine gAp (u':=15) trivial rfl rfl rfl rfl rfl rfl rfl rfl rfl rfl rfl rfl rfl (cq_len (n:=1) (fun _=>rfl) 0 s.sure) (cqS_leaf 0 _) (show (0 + s.sure.length) * (16 + 1)≤140737488355328 by omega) (cqS_eq 0 _) (Nat.zero_add _) ?_
 refine gF trivial rfl rfl rfl rfl rfl ?_
 refine gT trivial rfl rfl rfl rfl rfl rfl rfl rfl rfl rfl (Nat.le_of_ble_eq_true rfl) rfl ?_
 refine rg_nil nofun ?_
 refine vc_seq ?_
 refine vc_region hm ?_
 refine gR (u':=16) (out:=rI []) trivial rfl rfl rfl rfl rfl rfl rfl rfl rfl rfl rfl rfl rfl rfl ?_
 refine gF trivial rfl rfl rfl rfl rfl ?_
 refine gL trivial rfl rfl rfl rfl rfl rfl rfl rfl ?_
 refine gAp (u':=17) trivial rfl rfl rfl rfl rfl rfl rfl rfl rfl rfl rfl rfl rfl (cq_len (n:=1) (fun _=>rfl) 0 s.slast) (cqI_leaf 0 _) (show (0 + s.slast.length) * (8 + 1)≤140737488355328 by omega) (cqI_eq 0 _) (Nat.zero_add _) ?_
 refine gF trivial rfl rfl rfl rfl rfl ?_
 refine gT trivial rfl rfl rfl rfl rfl rfl rfl rfl rfl rfl (Nat.le_of_ble_eq_true rfl) rfl ?_
 refine rg_nil nofun ?_
 refine vc_seq ?_
 refine vc_region hm ?_
 refine gL trivial rfl rfl rfl rfl rfl rfl rfl rfl ?_
 refine gT trivial rfl rfl rfl rfl rfl rfl rfl rfl rfl rfl (Nat.le_of_ble_eq_true rfl) rfl ?_
 refine rg_nil nofun ?_
 refine vc_ret ?_
 exact ⟨_,endsG [(5,14,⟨rS (fallSt s).now,9,1⟩),(6,8,⟨rS (fallSt s).sure,9,1⟩),(7,16,⟨rI (fallSt s).last,3,1⟩),(8,10,⟨rI (fallSt s).slast,3,1⟩),(9,11,⟨rI (fallSt s).fl,3,1⟩)] (.inr rfl) (.cell rfl rfl rfl rfl rfl .nil) rfl rfl trivial ⟨⟨rfl,(rS_flat (fallSt s).now)⟩,⟨rfl,(rS_flat (fallSt s).sure)⟩,⟨rfl,(rI_flat (fallSt s).last)⟩,⟨rfl,(rI_flat (fallSt s).slast)⟩,⟨rfl,(rI_flat (fallSt s).fl)⟩,trivial⟩ rfl⟩
theorem impl_StoreFall_c {s:Stv} {kk cc:Nat} (h:stOk s=true):FDoes Try.prog 20 [.agg #[.slice (some ⟨0,kk,none⟩) s.now.length cc,.slice (some ⟨1,0,none⟩) s.sure.length 0,.slice (some ⟨2,0,none⟩) s.last.length 0,.slice (some ⟨3,0,none⟩) s.slast.length 0,.slice (some ⟨4,0,none⟩) s.fl.length 0]] (hp [(0,false,one ⟨hls kk (rS s.now),9,0⟩),(1,false,one ⟨rS s.sure,9,0⟩),(2,false,one ⟨rI s.last,3,0⟩),(3,false,one ⟨rI s.slast,3,0⟩),(4,false,one ⟨rI s.fl,3,0⟩)]) (mkE (.agg #[.slice (some ⟨5,0,none⟩) (fallSt s).now.length 0,.slice (some ⟨6,0,none⟩) (fallSt s).sure.length 0,.slice (some ⟨7,0,none⟩) (fallSt s).last.length 0,.slice (some ⟨8,0,none⟩) (fallSt s).slast.length 0,.slice (some ⟨9,0,none⟩) (fallSt s).fl.length 0]) [0,1,2,3,4] [] [(5,⟨rS (fallSt s).now,9,1⟩),(6,⟨rS (fallSt s).sure,9,1⟩),(7,⟨rI (fallSt s).last,3,1⟩),(8,⟨rI (fallSt s).slast,3,1⟩),(9,⟨rI (fallSt s).fl,3,1⟩)]):=by
 have hm:Try.prog.follows .mixedOrders=true:=by kernel_rfl
 have hd_:∀ x_ ∈ ([(0,false,one ⟨hls kk (rS s.now),9,0⟩),(1,false,one ⟨rS s.sure,9,0⟩),(2,false,one ⟨rI s.last,3,0⟩),(3,false,one ⟨rI s.slast,3,0⟩),(4,false,one ⟨rI s.fl,3,0⟩)]:List (Nat × Bool × Fam)),∀ k_ y_,x_.2.2 k_=some y_→DetB (lt 5) y_:=by
  intro x_ hx k_ y_ e
  simp only [List.mem_cons,List.not_mem_nil,or_false] at hx
  rcases hx with rfl|rfl|rfl|rfl|rfl
  ·exact det_row (hls_flat (rS_flat s.now)) e
  ·exact det_row (rS_flat s.sure) e
  ·exact det_row (rI_flat s.last) e
  ·exact det_row (rI_flat s.slast) e
  ·exact det_row (rI_flat s.fl) e
 obtain ⟨⟨l0,l1,l2,l3,l4⟩,g0,g1,g2⟩:=stOk_in h
 refine fn_exact (u0:=5) Try.func20 rfl rfl (gets rfl rfl rfl hd_ rfl) ?_
 clear hd_
 refine vc_seq ?_
 refine vc_region hm ?_
 refine gB (u':=6) trivial rfl rfl rfl rfl rfl rfl rfl rfl ?_
 refine gZ (u':=7) trivial rfl rfl rfl rfl rfl rfl rfl rfl ?_
 refine rg_nil nofun ?_
 refine vc_seq ?_
 refine vc_seq ?_
 refine vc_region hm ?_
 refine gL trivial rfl rfl rfl rfl rfl rfl rfl rfl ?_
 refine gC0 [0,1,2,3,4] (impl_StoreOk_c (s:=s) (kk:=kk) (cc:=cc) (sz_ok h)) trivial rfl rfl rfl rfl ⟨rFlat (hls_flat (rS_flat s.now)) rfl (.inl rfl) rfl,rFlat (rS_flat s.sure) rfl (.inl rfl) rfl,rFlat (rI_flat s.last) rfl (.inl rfl) rfl,rFlat (rI_flat s.slast) rfl (.inl rfl) rfl,rFlat (rI_flat s.fl) rfl (.inl rfl) rfl,trivial⟩ rfl rfl rfl rfl rfl ?_
 refine gN trivial rfl rfl rfl rfl ?_
 refine rg_nil nofun ?_
 refine cF rfl (notT h) ?_
 refine vc_skip ?_
 refine vc_seq ?_
 refine vc_region hm ?_
 refine gL trivial rfl rfl rfl rfl rfl rfl rfl rfl ?_
 refine gCn 12 [0,1,2,3,4,7,8,9,10,11] (again_c (s:=s) (kk:=kk) (cc:=cc) (sz_ok h) (stOk_in h).1) trivial rfl rfl rfl rfl ⟨rFlat (hls_flat (rS_flat s.now)) rfl (.inl rfl) rfl,rFlat (rS_flat s.sure) rfl (.inl rfl) rfl,rFlat (rI_flat s.last) rfl (.inl rfl) rfl,rFlat (rI_flat s.slast) rfl (.inl rfl) rfl,rFlat (rI_flat s.fl) rfl (.inl rfl) rfl,trivial⟩ ⟨rS_flat s.now,rS_flat s.sure,rI_flat s.last,rI_flat s.slast,rI_flat s.fl,trivial⟩ rfl rfl rfl rfl ?_
 refine gT trivial rfl rfl rfl rfl rfl rfl rfl rfl rfl rfl (Nat.le_of_ble_eq_true rfl) rfl ?_
 refine rg_nil nofun ?_
 refine vc_seq ?_
 refine vc_region hm ?_
 refine gF trivial rfl rfl rfl rfl rfl ?_
 refine gL trivial rfl rfl rfl rfl rfl rfl rfl rfl ?_
 refine gCn 13 [8,12] (cloneS_c (l:=s.sure) (k:=0) (c:=0) (by omega) (by omega)) trivial rfl rfl rfl rfl ⟨rFlat (hls_flat (rS_flat _)) rfl (.inl rfl) rfl,trivial⟩ ⟨rS_flat _,trivial⟩ rfl rfl rfl rfl ?_
 refine gF trivial rfl rfl rfl rfl rfl ?_
 refine gL trivial rfl rfl rfl rfl rfl rfl rfl rfl ?_
 refine gCn 14 [10,13] (cloneI_c (l:=s.slast) (k:=0) (c:=0) (by omega) (by omega)) trivial rfl rfl rfl rfl ⟨rFlat (hls_flat (rI_flat _)) rfl (.inl rfl) rfl,trivial⟩ ⟨rI_flat _,trivial⟩ rfl rfl rfl rfl ?_
 refine gF trivial rfl rfl rfl rfl rfl ?_
 refine gT trivial rfl rfl rfl rfl rfl rfl rfl rfl rfl rfl (Nat.le_of_ble_eq_true rfl) rfl ?_
 refine gF trivial rfl rfl rfl rfl rfl ?_
 refine gT trivial rfl rfl rfl rfl rfl rfl rfl rfl rfl rfl (Nat.le_of_ble_eq_true rfl) rfl ?_
 refine rg_nil (fun _=>by kernel_rfl) ?_
 refine vc_seq ?_
 refine vc_region hm ?_
 refine gL trivial rfl rfl rfl rfl rfl rfl rfl rfl ?_
 refine gT trivial rfl rfl rfl rfl rfl rfl rfl rfl rfl rfl (Nat.le_of_ble_eq_true rfl) rfl ?_
 refine rg_nil nofun ?_
 refine vc_ret ?_
 exact ⟨_,endsG [(5,12,⟨rS (fallSt s).now,9,1⟩),(6,8,⟨rS (fallSt s).sure,9,1⟩),(7,13,⟨rI (fallSt s).last,3,1⟩),(8,10,⟨rI (fallSt s).slast,3,1⟩),(9,11,⟨rI (fallSt s).fl,3,1⟩)] (.inr rfl) (.cell rfl rfl rfl rfl rfl .nil) rfl rfl trivial ⟨⟨rfl,(rS_flat (fallSt s).now)⟩,⟨rfl,(rS_flat (fallSt s).sure)⟩,⟨rfl,(rI_flat (fallSt s).last)⟩,⟨rfl,(rI_flat (fallSt s).slast)⟩,⟨rfl,(rI_flat (fallSt s).fl)⟩,trivial⟩ rfl⟩
theorem spec_StoreFence_c {s:Stv} {kk cc:Nat} {who ep:Int} (h:stOk s=true):∃ E,FDoes Try.prog 43 [.agg #[.slice (some ⟨0,kk,none⟩) s.now.length cc,.slice (some ⟨1,0,none⟩) s.sure.length 0,.slice (some ⟨2,0,none⟩) s.last.length 0,.slice (some ⟨3,0,none⟩) s.slast.length 0,.slice (some ⟨4,0,none⟩) s.fl.length 0],.int .i64 who,.int .i64 ep] (hp [(0,false,one ⟨hls kk (rS s.now),9,0⟩),(1,false,one ⟨rS s.sure,9,0⟩),(2,false,one ⟨rI s.last,3,0⟩),(3,false,one ⟨rI s.slast,3,0⟩),(4,false,one ⟨rI s.fl,3,0⟩)]) E∧∃ (x:Stv) (b:Bool),fenceD s who ep=(x,b)∧E=mkF (.tuple #[.agg #[.slice (some ⟨5,0,none⟩) x.now.length 0,.slice (some ⟨6,0,none⟩) x.sure.length 0,.slice (some ⟨7,0,none⟩) x.last.length 0,.slice (some ⟨8,0,none⟩) x.slast.length 0,.slice (some ⟨9,0,none⟩) x.fl.length 0],.bool b]) [0,1,2,3,4] [] [(5,one ⟨rS x.now,9,1⟩),(6,one ⟨rS x.sure,9,1⟩),(7,one ⟨rI x.last,3,1⟩),(8,one ⟨rI x.slast,3,1⟩),(9,one ⟨rI x.fl,3,1⟩)]:=by
 have hm:Try.prog.follows .mixedOrders=true:=by kernel_rfl
 have hd_:∀ x_ ∈ ([(0,false,one ⟨hls kk (rS s.now),9,0⟩),(1,false,one ⟨rS s.sure,9,0⟩),(2,false,one ⟨rI s.last,3,0⟩),(3,false,one ⟨rI s.slast,3,0⟩),(4,false,one ⟨rI s.fl,3,0⟩)]:List (Nat × Bool × Fam)),∀ k_ y_,x_.2.2 k_=some y_→DetB (lt 5) y_:=by
  intro x_ hx k_ y_ e
  simp only [List.mem_cons,List.not_mem_nil,or_false] at hx
  rcases hx with rfl|rfl|rfl|rfl|rfl
  ·exact det_row (hls_flat (rS_flat s.now)) e
  ·exact det_row (rS_flat s.sure) e
  ·exact det_row (rI_flat s.last) e
  ·exact det_row (rI_flat s.slast) e
  ·exact det_row (rI_flat s.fl) e
 obtain ⟨⟨l0,l1,l2,l3,l4⟩,g0,g1,g2⟩:=stOk_in h
 refine fn_some (u0:=5) Try.func43 rfl rfl (gets rfl rfl rfl hd_ rfl) ?_
 clear hd_
 refine vc_seq ?_
 refine vc_region hm ?_
 refine gB (u':=6) trivial rfl rfl rfl rfl rfl rfl rfl rfl ?_
 refine gZ (u':=7) trivial rfl rfl rfl rfl rfl rfl rfl rfl ?_
 refine gM trivial (.inr rfl) rfl rfl rfl ?_
 refine rg_nil nofun ?_
 refine vc_seq ?_
 refine vc_seq ?_
 refine vc_region hm ?_
 refine gL trivial rfl rfl rfl rfl rfl rfl rfl rfl ?_
 refine gC0 [0,1,2,3,4] (spec_StoreOk_c (s:=s) (kk:=kk) (cc:=cc) (sz_ok h)) trivial rfl rfl rfl rfl ⟨rFlat (hls_flat (rS_flat s.now)) rfl (.inl rfl) rfl,rFlat (rS_flat s.sure) rfl (.inl rfl) rfl,rFlat (rI_flat s.last) rfl (.inl rfl) rfl,rFlat (rI_flat s.slast) rfl (.inl rfl) rfl,rFlat (rI_flat s.fl) rfl (.inl rfl) rfl,trivial⟩ rfl rfl rfl rfl rfl ?_
 refine gN trivial rfl rfl rfl rfl ?_
 refine rg_nil nofun ?_
 refine cF rfl (notT h) ?_
 refine vc_skip ?_
 refine vc_seq ?_
 refine vc_region hm ?_
 refine gL trivial rfl rfl rfl rfl rfl rfl rfl rfl ?_
 refine gCn 12 [0,1,2,3,4,7,8,9,10,11] (l5Copy_c (s:=s) (kk:=kk) (cc:=cc) (sz_ok h)) trivial rfl rfl rfl rfl ⟨rFlat (hls_flat (rS_flat s.now)) rfl (.inl rfl) rfl,rFlat (rS_flat s.sure) rfl (.inl rfl) rfl,rFlat (rI_flat s.last) rfl (.inl rfl) rfl,rFlat (rI_flat s.slast) rfl (.inl rfl) rfl,rFlat (rI_flat s.fl) rfl (.inl rfl) rfl,trivial⟩ ⟨rS_flat s.now,rS_flat s.sure,rI_flat s.last,rI_flat s.slast,rI_flat s.fl,trivial⟩ rfl rfl rfl rfl ?_
 refine gZ (u':=13) trivial rfl rfl rfl rfl rfl rfl rfl rfl ?_
 refine gT trivial rfl rfl rfl rfl rfl rfl rfl rfl rfl rfl (Nat.le_of_ble_eq_true rfl) rfl ?_
 refine rg_nil nofun ?_
 refine vc_seq ?_
 refine vc_seq ?_
 refine vc_region hm ?_
 refine gM trivial (.inl rfl) rfl rfl rfl ?_
 refine gC0 [] (spec_l4Who_c who) trivial rfl rfl rfl rfl (by trivial) rfl rfl rfl rfl rfl ?_
 refine gN trivial rfl rfl rfl rfl ?_
 refine gM trivial (.inl rfl) rfl rfl rfl ?_
 refine gI2 (d:=18) rfl (fun c18=>?_) (fun c18=>?_)
 ·skip
  have n18:=unT c18
  refine gO ⟨_,_,rfl,rfl,c18⟩ rfl rfl ?_
  refine gO ⟨_,_,rfl,rfl,c18⟩ rfl rfl ?_
  refine gPT trivial rfl rfl c18 rfl rfl rfl ?_
  refine gM trivial (.inl rfl) rfl rfl rfl ?_
  refine gO ⟨_,_,rfl,rfl,rfl⟩ rfl rfl ?_
  refine gO ⟨_,_,rfl,rfl,rfl⟩ rfl rfl ?_
  refine gPT trivial rfl rfl rfl rfl rfl rfl ?_
  refine rg_nil nofun ?_
  refine cT rfl rfl ?_
  refine vc_seq ?_
  refine vc_region hm ?_
  refine gL trivial rfl rfl rfl rfl rfl rfl rfl rfl ?_
  refine gT trivial rfl rfl rfl rfl rfl rfl rfl rfl rfl rfl (Nat.le_of_ble_eq_true rfl) rfl ?_
  refine gM trivial (.inr rfl) rfl rfl rfl ?_
  refine rg_nil nofun ?_
  refine vc_ret ?_
  exact ⟨mkF (.tuple #[.agg #[.slice (some ⟨5,0,none⟩) s.now.length 0,.slice (some ⟨6,0,none⟩) s.sure.length 0,.slice (some ⟨7,0,none⟩) s.last.length 0,.slice (some ⟨8,0,none⟩) s.slast.length 0,.slice (some ⟨9,0,none⟩) s.fl.length 0],.bool false]) [0,1,2,3,4] [] [(5,one ⟨rS s.now,9,1⟩),(6,one ⟨rS s.sure,9,1⟩),(7,one ⟨rI s.last,3,1⟩),(8,one ⟨rI s.slast,3,1⟩),(9,one ⟨rI s.fl,3,1⟩)],_,endsT [(5,7,one ⟨rS s.now,9,1⟩),(6,8,one ⟨rS s.sure,9,1⟩),(7,9,one ⟨rI s.last,3,1⟩),(8,10,one ⟨rI s.slast,3,1⟩),(9,11,one ⟨rI s.fl,3,1⟩)] (.inr rfl) (.cell rfl rfl rfl rfl rfl (.tmp rfl rfl .nil)) rfl rfl trivial ⟨asFlat rfl (rS_flat s.now),asFlat rfl (rS_flat s.sure),asFlat rfl (rI_flat s.last),asFlat rfl (rI_flat s.slast),asFlat rfl (rI_flat s.fl),trivial⟩ rfl,s,false,fence_F (fun e=>(whoF n18) e.1),rfl⟩
 ·skip
  have n18:=unF c18
  refine gM ⟨_,_,rfl,rfl,c18⟩ (.inl rfl) rfl rfl rfl ?_
  refine gI ⟨_,_,rfl,rfl,c18⟩ rfl rfl rfl rfl rfl rfl ?_
  refine gPF trivial rfl rfl c18 rfl rfl rfl ?_
  refine gM trivial (.inl rfl) rfl rfl rfl ?_
  refine gI2 (d:=22) rfl (fun c22=>?_) (fun c22=>?_)
  ·skip
   have p22:=of_decide_eq_true c22
   refine gO ⟨_,_,rfl,rfl,c22⟩ rfl rfl ?_
   refine gO ⟨_,_,rfl,rfl,c22⟩ rfl rfl ?_
   refine gPT trivial rfl rfl c22 rfl rfl rfl ?_
   refine rg_nil nofun ?_
   refine cT rfl rfl ?_
   refine vc_seq ?_
   refine vc_region hm ?_
   refine gL trivial rfl rfl rfl rfl rfl rfl rfl rfl ?_
   refine gT trivial rfl rfl rfl rfl rfl rfl rfl rfl rfl rfl (Nat.le_of_ble_eq_true rfl) rfl ?_
   refine gM trivial (.inr rfl) rfl rfl rfl ?_
   refine rg_nil nofun ?_
   refine vc_ret ?_
   exact ⟨mkF (.tuple #[.agg #[.slice (some ⟨5,0,none⟩) s.now.length 0,.slice (some ⟨6,0,none⟩) s.sure.length 0,.slice (some ⟨7,0,none⟩) s.last.length 0,.slice (some ⟨8,0,none⟩) s.slast.length 0,.slice (some ⟨9,0,none⟩) s.fl.length 0],.bool false]) [0,1,2,3,4] [] [(5,one ⟨rS s.now,9,1⟩),(6,one ⟨rS s.sure,9,1⟩),(7,one ⟨rI s.last,3,1⟩),(8,one ⟨rI s.slast,3,1⟩),(9,one ⟨rI s.fl,3,1⟩)],_,endsT [(5,7,one ⟨rS s.now,9,1⟩),(6,8,one ⟨rS s.sure,9,1⟩),(7,9,one ⟨rI s.last,3,1⟩),(8,10,one ⟨rI s.slast,3,1⟩),(9,11,one ⟨rI s.fl,3,1⟩)] (.inr rfl) (.cell rfl rfl rfl rfl rfl (.tmp rfl rfl .nil)) rfl rfl trivial ⟨asFlat rfl (rS_flat s.now),asFlat rfl (rS_flat s.sure),asFlat rfl (rI_flat s.last),asFlat rfl (rI_flat s.slast),asFlat rfl (rI_flat s.fl),trivial⟩ rfl,s,false,fence_F (by omega),rfl⟩
  ·skip
   have p22:=of_decide_eq_false c22
   refine gM ⟨_,_,rfl,rfl,c22⟩ (.inl rfl) rfl rfl rfl ?_
   refine gI ⟨_,_,rfl,rfl,c22⟩ rfl rfl rfl rfl rfl rfl ?_
   refine gPF trivial rfl rfl c22 rfl rfl rfl ?_
   refine rg_nil nofun ?_
   refine cI rfl (fun c25=>?_) (fun c25=>?_)
   ·skip
    have p25:=of_decide_eq_true c25
    refine vc_seq ?_
    refine vc_region hm ?_
    refine gL trivial rfl rfl rfl rfl rfl rfl rfl rfl ?_
    refine gT trivial rfl rfl rfl rfl rfl rfl rfl rfl rfl rfl (Nat.le_of_ble_eq_true rfl) rfl ?_
    refine gM trivial (.inr rfl) rfl rfl rfl ?_
    refine rg_nil nofun ?_
    refine vc_ret ?_
    exact ⟨mkF (.tuple #[.agg #[.slice (some ⟨5,0,none⟩) s.now.length 0,.slice (some ⟨6,0,none⟩) s.sure.length 0,.slice (some ⟨7,0,none⟩) s.last.length 0,.slice (some ⟨8,0,none⟩) s.slast.length 0,.slice (some ⟨9,0,none⟩) s.fl.length 0],.bool false]) [0,1,2,3,4] [] [(5,one ⟨rS s.now,9,1⟩),(6,one ⟨rS s.sure,9,1⟩),(7,one ⟨rI s.last,3,1⟩),(8,one ⟨rI s.slast,3,1⟩),(9,one ⟨rI s.fl,3,1⟩)],_,endsT [(5,7,one ⟨rS s.now,9,1⟩),(6,8,one ⟨rS s.sure,9,1⟩),(7,9,one ⟨rI s.last,3,1⟩),(8,10,one ⟨rI s.slast,3,1⟩),(9,11,one ⟨rI s.fl,3,1⟩)] (.inr rfl) (.cell rfl rfl rfl rfl rfl (.tmp rfl rfl .nil)) rfl rfl trivial ⟨asFlat rfl (rS_flat s.now),asFlat rfl (rS_flat s.sure),asFlat rfl (rI_flat s.last),asFlat rfl (rI_flat s.slast),asFlat rfl (rI_flat s.fl),trivial⟩ rfl,s,false,fence_F (by omega),rfl⟩
   ·skip
    have p25:=of_decide_eq_false c25
    refine vc_skip ?_
    refine vc_seq ?_
    refine vc_region hm ?_
    refine gF trivial rfl rfl rfl rfl rfl ?_
    refine gL trivial rfl rfl rfl rfl rfl rfl rfl rfl ?_
    refine gM trivial (.inl rfl) rfl rfl rfl ?_
    refine gF trivial rfl rfl rfl rfl rfl ?_
    refine gL trivial rfl rfl rfl rfl rfl rfl rfl rfl ?_
    refine gM trivial (.inl rfl) rfl rfl rfl ?_
    refine gX trivial rfl rfl rfl rfl rfl rfl rfl rfl (whoT n18).1 (by have:=whoT n18;omega) rI_ne ?_
    refine gL trivial rfl rfl rfl rfl rfl rfl rfl (lI (whoT n18).1 (by have:=whoT n18;omega)) ?_
    refine gM trivial (.inl rfl) rfl rfl rfl ?_
    refine gC0 [] (spec_l1Max_c (at_ s.fl who) ep) trivial rfl rfl rfl rfl (by trivial) rfl rfl rfl rfl rfl ?_
    refine gX trivial rfl rfl rfl rfl rfl rfl rfl rfl (whoT n18).1 (by have:=whoT n18;omega) rI_ne ?_
    refine gT trivial rfl rfl rfl rfl rfl rfl rfl rfl rfl rfl (kI (whoT n18).1 (by have:=whoT n18;omega)) (sI (whoT n18).1 (by have:=whoT n18;omega)) ?_
    refine rg_nil (fun _=>by kernel_rfl) ?_
    refine vc_seq ?_
    refine vc_region hm ?_
    refine gL trivial rfl rfl rfl rfl rfl rfl rfl rfl ?_
    refine gT trivial rfl rfl rfl rfl rfl rfl rfl rfl rfl rfl (Nat.le_of_ble_eq_true rfl) rfl ?_
    refine gM trivial (.inr rfl) rfl rfl rfl ?_
    refine rg_nil nofun ?_
    refine vc_ret ?_
    exact ⟨mkF (.tuple #[.agg #[.slice (some ⟨5,0,none⟩) (fencedSt s who ep).now.length 0,.slice (some ⟨6,0,none⟩) (fencedSt s who ep).sure.length 0,.slice (some ⟨7,0,none⟩) (fencedSt s who ep).last.length 0,.slice (some ⟨8,0,none⟩) (fencedSt s who ep).slast.length 0,.slice (some ⟨9,0,none⟩) (fencedSt s who ep).fl.length 0],.bool true]) [0,1,2,3,4] [] [(5,one ⟨rS (fencedSt s who ep).now,9,1⟩),(6,one ⟨rS (fencedSt s who ep).sure,9,1⟩),(7,one ⟨rI (fencedSt s who ep).last,3,1⟩),(8,one ⟨rI (fencedSt s who ep).slast,3,1⟩),(9,one ⟨rI (fencedSt s who ep).fl,3,1⟩)],_,endsT [(5,7,one ⟨rS (fencedSt s who ep).now,9,1⟩),(6,8,one ⟨rS (fencedSt s who ep).sure,9,1⟩),(7,9,one ⟨rI (fencedSt s who ep).last,3,1⟩),(8,10,one ⟨rI (fencedSt s who ep).slast,3,1⟩),(9,11,one ⟨rI (fencedSt s who ep).fl,3,1⟩)] (.inr rfl) (.cell rfl rfl rfl rfl rfl (.tmp rfl rfl .nil)) (by rw [fenced_n];rfl) rfl trivial ⟨asFlat rfl (rS_flat (fencedSt s who ep).now),asFlat rfl (rS_flat (fencedSt s who ep).sure),asFlat rfl (rI_flat (fencedSt s who ep).last),asFlat rfl (rI_flat (fencedSt s who ep).slast),asFlat rfl (rI_flat (fencedSt s who ep).fl),trivial⟩ rfl,(fencedSt s who ep),true,fence_T ⟨whoT n18,by omega⟩,rfl⟩
theorem impl_StoreSync_n {s:Stv} {kk cc:Nat} (hz:StSz s) (h:stOk s=false):FDoes Try.prog 21 [.agg #[.slice (some ⟨0,kk,none⟩) s.now.length cc,.slice (some ⟨1,0,none⟩) s.sure.length 0,.slice (some ⟨2,0,none⟩) s.last.length 0,.slice (some ⟨3,0,none⟩) s.slast.length 0,.slice (some ⟨4,0,none⟩) s.fl.length 0]] (hp [(0,false,one ⟨hls kk (rS s.now),9,0⟩),(1,false,one ⟨rS s.sure,9,0⟩),(2,false,one ⟨rI s.last,3,0⟩),(3,false,one ⟨rI s.slast,3,0⟩),(4,false,one ⟨rI s.fl,3,0⟩)]) { v:=.agg #[.slice none 0 0,.slice none 0 0,.slice none 0 0,.slice none 0 0,.slice none 0 0],rd:=[0,1,2,3,4] }:=by
 have hm:Try.prog.follows .mixedOrders=true:=by kernel_rfl
 have hd_:∀ x_ ∈ ([(0,false,one ⟨hls kk (rS s.now),9,0⟩),(1,false,one ⟨rS s.sure,9,0⟩),(2,false,one ⟨rI s.last,3,0⟩),(3,false,one ⟨rI s.slast,3,0⟩),(4,false,one ⟨rI s.fl,3,0⟩)]:List (Nat × Bool × Fam)),∀ k_ y_,x_.2.2 k_=some y_→DetB (lt 5) y_:=by
  intro x_ hx k_ y_ e
  simp only [List.mem_cons,List.not_mem_nil,or_false] at hx
  rcases hx with rfl|rfl|rfl|rfl|rfl
  ·exact det_row (hls_flat (rS_flat s.now)) e
  ·exact det_row (rS_flat s.sure) e
  ·exact det_row (rI_flat s.last) e
  ·exact det_row (rI_flat s.slast) e
  ·exact det_row (rI_flat s.fl) e
 refine fn_exact (u0:=5) Try.func21 rfl rfl (gets rfl rfl rfl hd_ rfl) ?_
 clear hd_
 refine vc_seq ?_
 refine vc_region hm ?_
 refine gB (u':=6) trivial rfl rfl rfl rfl rfl rfl rfl rfl ?_
 refine gZ (u':=7) trivial rfl rfl rfl rfl rfl rfl rfl rfl ?_
 refine rg_nil nofun ?_
 refine vc_seq ?_
 refine vc_seq ?_
 refine vc_region hm ?_
 refine gL trivial rfl rfl rfl rfl rfl rfl rfl rfl ?_
 refine gC0 [0,1,2,3,4] (impl_StoreOk_c (s:=s) (kk:=kk) (cc:=cc) hz) trivial rfl rfl rfl rfl ⟨rFlat (hls_flat (rS_flat s.now)) rfl (.inl rfl) rfl,rFlat (rS_flat s.sure) rfl (.inl rfl) rfl,rFlat (rI_flat s.last) rfl (.inl rfl) rfl,rFlat (rI_flat s.slast) rfl (.inl rfl) rfl,rFlat (rI_flat s.fl) rfl (.inl rfl) rfl,trivial⟩ rfl rfl rfl rfl rfl ?_
 refine gN trivial rfl rfl rfl rfl ?_
 refine rg_nil nofun ?_
 refine cT rfl (notF h) ?_
 refine vc_seq ?_
 refine vc_region hm ?_
 refine gU trivial rfl rfl rfl rfl rfl rfl rfl rfl ?_
 refine gT trivial rfl rfl rfl rfl rfl rfl rfl rfl rfl rfl (Nat.le_of_ble_eq_true rfl) rfl ?_
 refine rg_nil nofun ?_
 refine vc_ret ?_
 exact ⟨idm,endsF (.inr rfl) (.cell rfl rfl rfl rfl rfl .nil) rfl rfl rfl⟩
theorem impl_StoreFall_n {s:Stv} {kk cc:Nat} (hz:StSz s) (h:stOk s=false):FDoes Try.prog 20 [.agg #[.slice (some ⟨0,kk,none⟩) s.now.length cc,.slice (some ⟨1,0,none⟩) s.sure.length 0,.slice (some ⟨2,0,none⟩) s.last.length 0,.slice (some ⟨3,0,none⟩) s.slast.length 0,.slice (some ⟨4,0,none⟩) s.fl.length 0]] (hp [(0,false,one ⟨hls kk (rS s.now),9,0⟩),(1,false,one ⟨rS s.sure,9,0⟩),(2,false,one ⟨rI s.last,3,0⟩),(3,false,one ⟨rI s.slast,3,0⟩),(4,false,one ⟨rI s.fl,3,0⟩)]) { v:=.agg #[.slice none 0 0,.slice none 0 0,.slice none 0 0,.slice none 0 0,.slice none 0 0],rd:=[0,1,2,3,4] }:=by
 have hm:Try.prog.follows .mixedOrders=true:=by kernel_rfl
 have hd_:∀ x_ ∈ ([(0,false,one ⟨hls kk (rS s.now),9,0⟩),(1,false,one ⟨rS s.sure,9,0⟩),(2,false,one ⟨rI s.last,3,0⟩),(3,false,one ⟨rI s.slast,3,0⟩),(4,false,one ⟨rI s.fl,3,0⟩)]:List (Nat × Bool × Fam)),∀ k_ y_,x_.2.2 k_=some y_→DetB (lt 5) y_:=by
  intro x_ hx k_ y_ e
  simp only [List.mem_cons,List.not_mem_nil,or_false] at hx
  rcases hx with rfl|rfl|rfl|rfl|rfl
  ·exact det_row (hls_flat (rS_flat s.now)) e
  ·exact det_row (rS_flat s.sure) e
  ·exact det_row (rI_flat s.last) e
  ·exact det_row (rI_flat s.slast) e
  ·exact det_row (rI_flat s.fl) e
 refine fn_exact (u0:=5) Try.func20 rfl rfl (gets rfl rfl rfl hd_ rfl) ?_
 clear hd_
 refine vc_seq ?_
 refine vc_region hm ?_
 refine gB (u':=6) trivial rfl rfl rfl rfl rfl rfl rfl rfl ?_
 refine gZ (u':=7) trivial rfl rfl rfl rfl rfl rfl rfl rfl ?_
 refine rg_nil nofun ?_
 refine vc_seq ?_
 refine vc_seq ?_
 refine vc_region hm ?_
 refine gL trivial rfl rfl rfl rfl rfl rfl rfl rfl ?_
 refine gC0 [0,1,2,3,4] (impl_StoreOk_c (s:=s) (kk:=kk) (cc:=cc) hz) trivial rfl rfl rfl rfl ⟨rFlat (hls_flat (rS_flat s.now)) rfl (.inl rfl) rfl,rFlat (rS_flat s.sure) rfl (.inl rfl) rfl,rFlat (rI_flat s.last) rfl (.inl rfl) rfl,rFlat (rI_flat s.slast) rfl (.inl rfl) rfl,rFlat (rI_flat s.fl) rfl (.inl rfl) rfl,trivial⟩ rfl rfl rfl rfl rfl ?_
 refine gN trivial rfl rfl rfl rfl ?_
 refine rg_nil nofun ?_
 refine cT rfl (notF h) ?_
 refine vc_seq ?_
 refine vc_region hm ?_
 refine gU trivial rfl rfl rfl rfl rfl rfl rfl rfl ?_
 refine gT trivial rfl rfl rfl rfl rfl rfl rfl rfl rfl rfl (Nat.le_of_ble_eq_true rfl) rfl ?_
 refine rg_nil nofun ?_
 refine vc_ret ?_
 exact ⟨idm,endsF (.inr rfl) (.cell rfl rfl rfl rfl rfl .nil) rfl rfl rfl⟩
theorem det_code {u k t e n:Nat} {l:List Int} {y:Blk} (h:one ⟨hls k (rY l),t,e⟩ n=some y):DetB (lt u) y:=det_row (hls_flat (rY_flat l)) h
theorem pick_c {l:List Int} {k n t0:Nat} {p:Int} (hl:ByL l) (hn:n≤l.length) (hp0:0≤p) (hp1:p≤1000000) {m:Int} (h1:1≤m) (h2:m≤1000000):∃ E,FDoes Try.prog 60 [.pointer (some ⟨1,0,none⟩),.int .i64 m] (hp [(0,false,one ⟨hls k (rY l),t0,0⟩),(1,true,one ⟨[.slice (some ⟨0,k,none⟩) n 0,.int .i64 (p)],83,2⟩)]) E∧∃ x:Int,0≤x∧x<m∧E=mkF (.int .i64 x) [0] [(1,one ⟨[.slice (some ⟨0,k,none⟩) n 0,.int .i64 (p + 1)],83,2⟩)] []:=by
 have hm:Try.prog.follows .mixedOrders=true:=by kernel_rfl
 have hd_:∀ x_ ∈ ([(0,false,one ⟨hls k (rY l),t0,0⟩),(1,true,one ⟨[.slice (some ⟨0,k,none⟩) n 0,.int .i64 (p)],83,2⟩)]:List (Nat × Bool × Fam)),∀ k_ y_,x_.2.2 k_=some y_→DetB (lt 2) y_:=by
  intro x_ hx k_ y_ e
  simp only [List.mem_cons,List.not_mem_nil,or_false] at hx
  rcases hx with rfl|rfl
  ·exact det_code e
  ·exact det_ok rfl e
 refine fn_some (u0:=2) Try.func60 rfl rfl (gets rfl rfl rfl hd_ rfl) ?_
 clear hd_
 refine vc_seq ?_
 refine vc_region hm ?_
 refine gM trivial (.inr rfl) rfl rfl rfl ?_
 refine rg_nil nofun ?_
 refine vc_seq ?_
 refine vc_region hm ?_
 refine gM trivial (.inl rfl) rfl rfl rfl ?_
 refine gM trivial (.inl rfl) rfl rfl rfl ?_
 refine gNilP trivial rfl rfl rfl rfl ?_
 refine gF trivial rfl rfl rfl rfl rfl ?_
 refine gL trivial rfl rfl rfl rfl rfl rfl rfl rfl ?_
 refine gA trivial rfl rfl rfl rfl rfl rfl (by omega) ?_
 refine gNilP trivial rfl rfl rfl rfl ?_
 refine gF trivial rfl rfl rfl rfl rfl ?_
 refine gT trivial rfl rfl rfl rfl rfl rfl rfl rfl rfl rfl (Nat.le_of_ble_eq_true rfl) rfl ?_
 refine rg_nil nofun ?_
 refine vc_seq ?_
 refine vc_seq ?_
 refine vc_region hm ?_
 refine gM trivial (.inl rfl) rfl rfl rfl ?_
 refine gI trivial rfl rfl rfl rfl rfl rfl ?_
 refine gM trivial (.inl rfl) rfl rfl rfl ?_
 refine gM ⟨_,_,rfl,rfl,(decide_eq_false (by omega))⟩ (.inl rfl) rfl rfl rfl ?_
 refine gNilP ⟨_,_,rfl,rfl,(decide_eq_false (by omega))⟩ rfl rfl rfl rfl ?_
 refine gF ⟨_,_,rfl,rfl,(decide_eq_false (by omega))⟩ rfl rfl rfl rfl rfl ?_
 refine gL ⟨_,_,rfl,rfl,(decide_eq_false (by omega))⟩ rfl rfl rfl rfl rfl rfl rfl rfl ?_
 refine gK ⟨_,_,rfl,rfl,(decide_eq_false (by omega))⟩ rfl rfl rfl rfl rfl rfl (hls_nil fun e=>(by have:=rY_nil e;omega)) ?_
 refine gI ⟨_,_,rfl,rfl,(decide_eq_false (by omega))⟩ rfl rfl rfl rfl rfl rfl ?_
 refine gPF trivial rfl rfl (decide_eq_false (by omega)) rfl rfl rfl ?_
 refine rg_nil nofun ?_
 refine cI rfl (fun c24=>?_) (fun c24=>?_)
 ·skip
  have p24:=eq_of_beq c24
  refine vc_seq ?_
  refine vc_region hm ?_
  refine gM trivial (.inr rfl) rfl rfl rfl ?_
  refine rg_nil nofun ?_
  refine vc_ret ?_
  exact ⟨mkF (.int .i64 (0)) [0] [(1,one ⟨[.slice (some ⟨0,k,none⟩) n 0,.int .i64 (p + 1)],83,2⟩)] [],_,endsT [] (.inr rfl) (.tmp rfl rfl .nil) rfl rfl ⟨upOne rfl rfl rfl,trivial⟩ trivial rfl,_,(by omega),(by omega),rfl⟩
 ·skip
  have p24:=ne_of_beq_false c24
  refine vc_skip ?_
  refine vc_seq ?_
  refine vc_region hm ?_
  refine gM trivial (.inl rfl) rfl rfl rfl ?_
  refine gNilP trivial rfl rfl rfl rfl ?_
  refine gF trivial rfl rfl rfl rfl rfl ?_
  refine gL trivial rfl rfl rfl rfl rfl rfl rfl rfl ?_
  refine gA trivial rfl rfl rfl rfl rfl rfl (by omega) ?_
  refine gM trivial (.inr rfl) rfl rfl rfl ?_
  refine rg_nil nofun ?_
  refine vc_seq ?_
  refine vc_seq ?_
  refine vc_region hm ?_
  refine gM trivial (.inl rfl) rfl rfl rfl ?_
  refine gM trivial (.inl rfl) rfl rfl rfl ?_
  refine gNilP trivial rfl rfl rfl rfl ?_
  refine gF trivial rfl rfl rfl rfl rfl ?_
  refine gL trivial rfl rfl rfl rfl rfl rfl rfl rfl ?_
  refine gK trivial rfl rfl rfl rfl rfl rfl (hls_nil fun e=>(by have:=rY_nil e;omega)) ?_
  refine gI trivial rfl rfl rfl rfl rfl rfl ?_
  refine rg_nil nofun ?_
  refine cI rfl (fun c36=>?_) (fun c36=>?_)
  ·skip
   have p36:=of_decide_eq_true c36
   refine vc_seq ?_
   refine vc_region hm ?_
   refine gM trivial (.inl rfl) rfl rfl rfl ?_
   refine gNilP trivial rfl rfl rfl rfl ?_
   refine gF trivial rfl rfl rfl rfl rfl ?_
   refine gL trivial rfl rfl rfl rfl rfl rfl rfl rfl ?_
   refine gM trivial (.inl rfl) rfl rfl rfl ?_
   refine gX trivial rfl rfl rfl rfl rfl rfl rfl rfl (by omega) p36 (fun h=>hls_ne (rY_ne (by omega))) ?_
   refine gL trivial rfl rfl rfl rfl rfl rfl rfl (wR (lY (by omega) (by omega)) rfl) ?_
   refine gCvB trivial rfl rfl rfl rfl rfl rfl (by have:=byL_at hl (i:=p + 1 - 1) (by omega) (by omega);omega) ?_
   refine gM trivial (.inl rfl) rfl rfl rfl ?_
   refine gRem trivial rfl rfl rfl rfl rfl (by omega) ?_
   refine gM trivial (.inr rfl) rfl rfl rfl ?_
   refine rg_nil nofun ?_
   refine vc_ret ?_
   exact ⟨mkF (.int .i64 (Int.tmod (at_ l (p + 1 - 1)) m)) [0] [(1,one ⟨[.slice (some ⟨0,k,none⟩) n 0,.int .i64 (p + 1)],83,2⟩)] [],_,endsT [] (.inr rfl) (.tmp rfl rfl .nil) rfl rfl ⟨upOne rfl rfl rfl,trivial⟩ trivial rfl,_,(tmod_in (byL_at hl (by omega) (by omega)).1 (by omega)).1,(tmod_in (byL_at hl (by omega) (by omega)).1 (by omega)).2,rfl⟩
  ·skip
   have p36:=of_decide_eq_false c36
   refine vc_skip ?_
   refine vc_seq ?_
   refine vc_region hm ?_
   refine gM trivial (.inl rfl) rfl rfl rfl ?_
   refine gNilP trivial rfl rfl rfl rfl ?_
   refine gF trivial rfl rfl rfl rfl rfl ?_
   refine gL trivial rfl rfl rfl rfl rfl rfl rfl rfl ?_
   refine gM trivial (.inl rfl) rfl rfl rfl ?_
   refine gM trivial (.inl rfl) rfl rfl rfl ?_
   refine gNilP trivial rfl rfl rfl rfl ?_
   refine gF trivial rfl rfl rfl rfl rfl ?_
   refine gL trivial rfl rfl rfl rfl rfl rfl rfl rfl ?_
   refine gK trivial rfl rfl rfl rfl rfl rfl (hls_nil fun e=>(by have:=rY_nil e;omega)) ?_
   refine gRem trivial rfl rfl rfl rfl rfl (by omega) ?_
   refine gX trivial rfl rfl rfl rfl rfl rfl rfl rfl (tmod_in (x:=p + 1 - 1) (n:=n) (by omega) (by omega)).1 (tmod_in (x:=p + 1 - 1) (n:=n) (by omega) (by omega)).2 (fun h=>hls_ne (rY_ne (by omega))) ?_
   refine gL trivial rfl rfl rfl rfl rfl rfl rfl (wR (lY (tmod_in (x:=p + 1 - 1) (n:=n) (by omega) (by omega)).1 (Int.lt_of_lt_of_le (tmod_in (x:=p + 1 - 1) (n:=n) (by omega) (by omega)).2 (by omega))) rfl) ?_
   refine gCvB trivial rfl rfl rfl rfl rfl rfl (by have:=byL_at hl (i:=Int.tmod (p + 1 - 1) n) (tmod_in (x:=p + 1 - 1) (n:=n) (by omega) (by omega)).1 (Int.lt_of_lt_of_le (tmod_in (x:=p + 1 - 1) (n:=n) (by omega) (by omega)).2 (by omega));omega) ?_
   refine gA trivial rfl rfl rfl rfl rfl rfl (by have b1:=byL_at hl (i:=Int.tmod (p + 1 - 1) n) (tmod_in (x:=p + 1 - 1) (n:=n) (by omega) (by omega)).1 (Int.lt_of_lt_of_le (tmod_in (x:=p + 1 - 1) (n:=n) (by omega) (by omega)).2 (by omega));have b2:=byL_at hl (i:=Int.tmod ((p + 1 - 1) * 7 + 3) n) (tmod_in (x:=(p + 1 - 1) * 7 + 3) (n:=n) (by omega) (by omega)).1 (Int.lt_of_lt_of_le (tmod_in (x:=(p + 1 - 1) * 7 + 3) (n:=n) (by omega) (by omega)).2 (by omega));have b3:=tdiv_in (x:=p + 1 - 1) (n:=n) (by omega) (by omega);omega) ?_
   refine gM trivial (.inl rfl) rfl rfl rfl ?_
   refine gNilP trivial rfl rfl rfl rfl ?_
   refine gF trivial rfl rfl rfl rfl rfl ?_
   refine gL trivial rfl rfl rfl rfl rfl rfl rfl rfl ?_
   refine gM trivial (.inl rfl) rfl rfl rfl ?_
   refine gA trivial rfl rfl rfl rfl rfl rfl (by omega) ?_
   refine gA trivial rfl rfl rfl rfl rfl rfl (by omega) ?_
   refine gM trivial (.inl rfl) rfl rfl rfl ?_
   refine gNilP trivial rfl rfl rfl rfl ?_
   refine gF trivial rfl rfl rfl rfl rfl ?_
   refine gL trivial rfl rfl rfl rfl rfl rfl rfl rfl ?_
   refine gK trivial rfl rfl rfl rfl rfl rfl (hls_nil fun e=>(by have:=rY_nil e;omega)) ?_
   refine gRem trivial rfl rfl rfl rfl rfl (by omega) ?_
   refine gX trivial rfl rfl rfl rfl rfl rfl rfl rfl (tmod_in (x:=(p + 1 - 1) * 7 + 3) (n:=n) (by omega) (by omega)).1 (tmod_in (x:=(p + 1 - 1) * 7 + 3) (n:=n) (by omega) (by omega)).2 (fun h=>hls_ne (rY_ne (by omega))) ?_
   refine gL trivial rfl rfl rfl rfl rfl rfl rfl (wR (lY (tmod_in (x:=(p + 1 - 1) * 7 + 3) (n:=n) (by omega) (by omega)).1 (Int.lt_of_lt_of_le (tmod_in (x:=(p + 1 - 1) * 7 + 3) (n:=n) (by omega) (by omega)).2 (by omega))) rfl) ?_
   refine gCvB trivial rfl rfl rfl rfl rfl rfl (by have:=byL_at hl (i:=Int.tmod ((p + 1 - 1) * 7 + 3) n) (tmod_in (x:=(p + 1 - 1) * 7 + 3) (n:=n) (by omega) (by omega)).1 (Int.lt_of_lt_of_le (tmod_in (x:=(p + 1 - 1) * 7 + 3) (n:=n) (by omega) (by omega)).2 (by omega));omega) ?_
   refine gA trivial rfl rfl rfl rfl rfl rfl (by have b1:=byL_at hl (i:=Int.tmod (p + 1 - 1) n) (tmod_in (x:=p + 1 - 1) (n:=n) (by omega) (by omega)).1 (Int.lt_of_lt_of_le (tmod_in (x:=p + 1 - 1) (n:=n) (by omega) (by omega)).2 (by omega));have b2:=byL_at hl (i:=Int.tmod ((p + 1 - 1) * 7 + 3) n) (tmod_in (x:=(p + 1 - 1) * 7 + 3) (n:=n) (by omega) (by omega)).1 (Int.lt_of_lt_of_le (tmod_in (x:=(p + 1 - 1) * 7 + 3) (n:=n) (by omega) (by omega)).2 (by omega));have b3:=tdiv_in (x:=p + 1 - 1) (n:=n) (by omega) (by omega);omega) ?_
   refine gA trivial rfl rfl rfl rfl rfl rfl (by have b1:=byL_at hl (i:=Int.tmod (p + 1 - 1) n) (tmod_in (x:=p + 1 - 1) (n:=n) (by omega) (by omega)).1 (Int.lt_of_lt_of_le (tmod_in (x:=p + 1 - 1) (n:=n) (by omega) (by omega)).2 (by omega));have b2:=byL_at hl (i:=Int.tmod ((p + 1 - 1) * 7 + 3) n) (tmod_in (x:=(p + 1 - 1) * 7 + 3) (n:=n) (by omega) (by omega)).1 (Int.lt_of_lt_of_le (tmod_in (x:=(p + 1 - 1) * 7 + 3) (n:=n) (by omega) (by omega)).2 (by omega));have b3:=tdiv_in (x:=p + 1 - 1) (n:=n) (by omega) (by omega);omega) ?_
   refine gM trivial (.inl rfl) rfl rfl rfl ?_
   refine gA trivial rfl rfl rfl rfl rfl rfl (by omega) ?_
   refine gA trivial rfl rfl rfl rfl rfl rfl (by have b1:=byL_at hl (i:=Int.tmod (p + 1 - 1) n) (tmod_in (x:=p + 1 - 1) (n:=n) (by omega) (by omega)).1 (Int.lt_of_lt_of_le (tmod_in (x:=p + 1 - 1) (n:=n) (by omega) (by omega)).2 (by omega));have b2:=byL_at hl (i:=Int.tmod ((p + 1 - 1) * 7 + 3) n) (tmod_in (x:=(p + 1 - 1) * 7 + 3) (n:=n) (by omega) (by omega)).1 (Int.lt_of_lt_of_le (tmod_in (x:=(p + 1 - 1) * 7 + 3) (n:=n) (by omega) (by omega)).2 (by omega));have b3:=tdiv_in (x:=p + 1 - 1) (n:=n) (by omega) (by omega);omega) ?_
   refine gM trivial (.inl rfl) rfl rfl rfl ?_
   refine gM trivial (.inl rfl) rfl rfl rfl ?_
   refine gNilP trivial rfl rfl rfl rfl ?_
   refine gF trivial rfl rfl rfl rfl rfl ?_
   refine gL trivial rfl rfl rfl rfl rfl rfl rfl rfl ?_
   refine gK trivial rfl rfl rfl rfl rfl rfl (hls_nil fun e=>(by have:=rY_nil e;omega)) ?_
   refine gQuo trivial rfl rfl rfl rfl rfl (by omega) rfl (by have b1:=byL_at hl (i:=Int.tmod (p + 1 - 1) n) (tmod_in (x:=p + 1 - 1) (n:=n) (by omega) (by omega)).1 (Int.lt_of_lt_of_le (tmod_in (x:=p + 1 - 1) (n:=n) (by omega) (by omega)).2 (by omega));have b2:=byL_at hl (i:=Int.tmod ((p + 1 - 1) * 7 + 3) n) (tmod_in (x:=(p + 1 - 1) * 7 + 3) (n:=n) (by omega) (by omega)).1 (Int.lt_of_lt_of_le (tmod_in (x:=(p + 1 - 1) * 7 + 3) (n:=n) (by omega) (by omega)).2 (by omega));have b3:=tdiv_in (x:=p + 1 - 1) (n:=n) (by omega) (by omega);omega) ?_
   refine gA trivial rfl rfl rfl rfl rfl rfl (by have b1:=byL_at hl (i:=Int.tmod (p + 1 - 1) n) (tmod_in (x:=p + 1 - 1) (n:=n) (by omega) (by omega)).1 (Int.lt_of_lt_of_le (tmod_in (x:=p + 1 - 1) (n:=n) (by omega) (by omega)).2 (by omega));have b2:=byL_at hl (i:=Int.tmod ((p + 1 - 1) * 7 + 3) n) (tmod_in (x:=(p + 1 - 1) * 7 + 3) (n:=n) (by omega) (by omega)).1 (Int.lt_of_lt_of_le (tmod_in (x:=(p + 1 - 1) * 7 + 3) (n:=n) (by omega) (by omega)).2 (by omega));have b3:=tdiv_in (x:=p + 1 - 1) (n:=n) (by omega) (by omega);omega) ?_
   refine gA trivial rfl rfl rfl rfl rfl rfl (by have b1:=byL_at hl (i:=Int.tmod (p + 1 - 1) n) (tmod_in (x:=p + 1 - 1) (n:=n) (by omega) (by omega)).1 (Int.lt_of_lt_of_le (tmod_in (x:=p + 1 - 1) (n:=n) (by omega) (by omega)).2 (by omega));have b2:=byL_at hl (i:=Int.tmod ((p + 1 - 1) * 7 + 3) n) (tmod_in (x:=(p + 1 - 1) * 7 + 3) (n:=n) (by omega) (by omega)).1 (Int.lt_of_lt_of_le (tmod_in (x:=(p + 1 - 1) * 7 + 3) (n:=n) (by omega) (by omega)).2 (by omega));have b3:=tdiv_in (x:=p + 1 - 1) (n:=n) (by omega) (by omega);omega) ?_
   refine gM trivial (.inr rfl) rfl rfl rfl ?_
   refine rg_nil (fun _=>by kernel_rfl) ?_
   refine vc_seq ?_
   refine vc_region hm ?_
   refine gM trivial (.inl rfl) rfl rfl rfl ?_
   refine gM trivial (.inl rfl) rfl rfl rfl ?_
   refine gQuo trivial rfl rfl rfl rfl rfl (by decide) rfl (by have b1:=byL_at hl (i:=Int.tmod (p + 1 - 1) n) (tmod_in (x:=p + 1 - 1) (n:=n) (by omega) (by omega)).1 (Int.lt_of_lt_of_le (tmod_in (x:=p + 1 - 1) (n:=n) (by omega) (by omega)).2 (by omega));have b2:=byL_at hl (i:=Int.tmod ((p + 1 - 1) * 7 + 3) n) (tmod_in (x:=(p + 1 - 1) * 7 + 3) (n:=n) (by omega) (by omega)).1 (Int.lt_of_lt_of_le (tmod_in (x:=(p + 1 - 1) * 7 + 3) (n:=n) (by omega) (by omega)).2 (by omega));have b3:=tdiv_in (x:=p + 1 - 1) (n:=n) (by omega) (by omega);have:=tdiv_in (x:=((at_ l (Int.tmod (p + 1 - 1) n)) * 131 + (at_ l (Int.tmod ((p + 1 - 1) * 7 + 3) n)) * 1117 + (p + 1 - 1) * 29 + Int.tdiv (p + 1 - 1) n * 53)) (n:=64) (by omega) (by omega);omega) ?_
   refine gXor trivial rfl rfl rfl rfl rfl ?_
   refine gM trivial (.inr rfl) rfl rfl rfl ?_
   refine rg_nil nofun ?_
   refine vc_seq ?_
   refine vc_region hm ?_
   refine gM trivial (.inl rfl) rfl rfl rfl ?_
   refine gM trivial (.inl rfl) rfl rfl rfl ?_
   refine gRem trivial rfl rfl rfl rfl rfl (by omega) ?_
   refine gM trivial (.inr rfl) rfl rfl rfl ?_
   refine rg_nil nofun ?_
   refine vc_ret ?_
   exact ⟨mkF (.int .i64 (Int.tmod (xorI ((at_ l (Int.tmod (p + 1 - 1) n)) * 131 + (at_ l (Int.tmod ((p + 1 - 1) * 7 + 3) n)) * 1117 + (p + 1 - 1) * 29 + Int.tdiv (p + 1 - 1) n * 53) (Int.tdiv ((at_ l (Int.tmod (p + 1 - 1) n)) * 131 + (at_ l (Int.tmod ((p + 1 - 1) * 7 + 3) n)) * 1117 + (p + 1 - 1) * 29 + Int.tdiv (p + 1 - 1) n * 53) 64)) m)) [0] [(1,one ⟨[.slice (some ⟨0,k,none⟩) n 0,.int .i64 (p + 1)],83,2⟩)] [],_,endsT [] (.inr rfl) (.tmp rfl rfl .nil) rfl rfl ⟨upOne rfl rfl rfl,trivial⟩ trivial rfl,_,(tmod_in (by have b1:=byL_at hl (i:=Int.tmod (p + 1 - 1) n) (tmod_in (x:=p + 1 - 1) (n:=n) (by omega) (by omega)).1 (Int.lt_of_lt_of_le (tmod_in (x:=p + 1 - 1) (n:=n) (by omega) (by omega)).2 (by omega));have b2:=byL_at hl (i:=Int.tmod ((p + 1 - 1) * 7 + 3) n) (tmod_in (x:=(p + 1 - 1) * 7 + 3) (n:=n) (by omega) (by omega)).1 (Int.lt_of_lt_of_le (tmod_in (x:=(p + 1 - 1) * 7 + 3) (n:=n) (by omega) (by omega)).2 (by omega));have b3:=tdiv_in (x:=p + 1 - 1) (n:=n) (by omega) (by omega);have b4:=tdiv_in (x:=((at_ l (Int.tmod (p + 1 - 1) n)) * 131 + (at_ l (Int.tmod ((p + 1 - 1) * 7 + 3) n)) * 1117 + (p + 1 - 1) * 29 + Int.tdiv (p + 1 - 1) n * 53)) (n:=64) (by omega) (by omega);exact xor_nn (by omega) (by omega) b4.1 (by omega)) (by omega)).1,(tmod_in (by have b1:=byL_at hl (i:=Int.tmod (p + 1 - 1) n) (tmod_in (x:=p + 1 - 1) (n:=n) (by omega) (by omega)).1 (Int.lt_of_lt_of_le (tmod_in (x:=p + 1 - 1) (n:=n) (by omega) (by omega)).2 (by omega));have b2:=byL_at hl (i:=Int.tmod ((p + 1 - 1) * 7 + 3) n) (tmod_in (x:=(p + 1 - 1) * 7 + 3) (n:=n) (by omega) (by omega)).1 (Int.lt_of_lt_of_le (tmod_in (x:=(p + 1 - 1) * 7 + 3) (n:=n) (by omega) (by omega)).2 (by omega));have b3:=tdiv_in (x:=p + 1 - 1) (n:=n) (by omega) (by omega);have b4:=tdiv_in (x:=((at_ l (Int.tmod (p + 1 - 1) n)) * 131 + (at_ l (Int.tmod ((p + 1 - 1) * 7 + 3) n)) * 1117 + (p + 1 - 1) * 29 + Int.tdiv (p + 1 - 1) n * 53)) (n:=64) (by omega) (by omega);exact xor_nn (by omega) (by omega) b4.1 (by omega)) (by omega)).2,rfl⟩
section
variable {P:Program} {nt:Nat} {ops:Array Oper} {draw:Bool} {rest:List Oper} {u d:Nat} {t:List (Nat × Value)} {h:List (Nat × Bool × Fam)} {acc:List Eff} {K:St→Prop} {o:Oper}
theorem gTailO {ty e:TypeId} {x y:Operand} {n len sz:Nat} {i:Int} {b:Blk} (hw:wantT (tl t) ops o) (hop:o.op = .slice ty x (some y) none none) (hu:P.underlying ty=some (.slice e)) (hz:szP P e=some sz) (hx:ev t x=some (.slice (some ⟨n,0,none⟩) len 0)) (hy:ev t y=some (.int .i64 i)) (hb:hat (hp h) n=some b) (h0:(Nat.blt 0 sz && Nat.blt sz 77 && b.e == sz)=true) (hs:o.dst=some d) (hn:Nat.blt d nt=true) (hl:b.cs.length=len * sz) (hi0:0≤i) (hi1:i<len)
  (k:RG P nt ops draw rest ⟨u,(d,.slice (some ⟨n,i.toNat * sz,none⟩) (len - i.toNat) i.toNat) :: t,h⟩ (acc ++ [{ v:=.slice (some ⟨n,i.toNat * sz,none⟩) (len - i.toNat) i.toNat,rd:=[n % 1000] }]) K):RG P nt ops draw (o :: rest) ⟨u,t,h⟩ acc K:=by
 simp only [Bool.and_eq_true,beq_iff_eq] at h0
 obtain ⟨⟨h0,h77⟩,he⟩:=h0
 have h0:=of_blt h0
 have h77:=of_blt h77
 refine gV (does_val hw (fun ρ ac w ht hah=>?_) fun U hU=>?_) hs hn k
 ·have hbl:=hat_at hb hah (.inl (.head _))
  have hne:b.cs ≠ []:=fun e=>by
   rw [e] at hl
   have:0<len * sz:=Nat.mul_pos (by omega) h0
   simp at hl
   omega
  obtain ⟨hnil,sl,z,_,_,hcap,_⟩:=blkAt_some hbl hne (by omega)
  have hcap:=(hcap (by omega)).2.1
  rw [hl,he] at hcap
  have hcap:len≤(ρ n).cap:=Nat.le_of_mul_le_mul_right (show len * sz≤(ρ n).cap * sz by omega) h0
  have e1:ac.eval x=r3 ρ (.slice (some ⟨n,0,none⟩) len 0):=ev_sound (ρ:=ρ) (by rw [hop];simp [Op.operands]) ht hx
  have e1:ac.eval x = .slice (some ⟨(ρ n).blk,0,none⟩) len (ρ n).cap:=by rw [e1];show (if (ρ n).nil=true then zv _ else _)=_;rw [if_neg (by rw [hnil];decide)];rfl
  have e2:ac.eval y = .int .i64 i:=ev_sound (ρ:=ρ) (by rw [hop];simp [Op.operands]) ht hy
  have e3:(Instr.sliceBounds true len (ρ n).cap (some (.int .i64 i)) none none).run P w = .ok (i.toNat,len,(ρ n).cap) w:=by
   simp [Instr.sliceBounds,Instr.sliceBound,asIntOf,hi0,show i≤(len:Int) by omega,Sem.run_pure,Sem.run_bind,Result.andThen_ok]
  have e4:¬ (ρ n).cap=i.toNat:=by omega
  have e5:r3 ρ (.slice (some ⟨n,i.toNat * sz,none⟩) (len - i.toNat) i.toNat) = .slice (some ⟨(ρ n).blk,i.toNat * sz,none⟩) (len - i.toNat) ((ρ n).cap - i.toNat):=by
   show (if (ρ n).nil=true then zv _ else _)=_
   rw [if_neg (by rw [hnil];decide)]
  rw [e5]
  simp [execOp,hop,e1,e2,Instr.sliceAt,Instr.slice,run_underlying hu,run_sizeOf hz,e3,e4,add_eq,Sem.run_pure,Sem.run_bind,Result.andThen_ok]
 ·intro ρ ρ' hρ
  have:=hρ n (hat_det hb hU (.inl (.head _))).1
  simp [r3,r2,r1,this]
theorem behind_nil {ρ:Env} {w:World} {h:HF} {u t:Nat} {v:Value} {rd:List Nat} {z:Option (Addr × Nat)} (hu:u<1000):Behind ρ w h { v:=v,rd:=rd,asg:=[(u,one ⟨[],t,0⟩)] } (updE ρ u ⟨0,0,true,z⟩) w:=by
 refine ⟨fun n hn=>updE_ne (by simpa [Eff.nw] using hn),fun y hy k x e=>?_,fun y hy=>(by cases hy),fun y hy k x e q=>?_,fun y hy y' hy' k k' x x' e e' q _ _=>?_,Frm.refl _ _⟩
 ·obtain rfl:=List.mem_singleton.1 hy
  obtain ⟨rfl,rfl⟩:=one_some e
  show blkAt _ _ (nm u 0) _
  unfold blkAt
  rw [updE_at hu]
  exact (if_pos rfl).mpr ⟨rfl,fun h=>absurd rfl h,by show 0<100;decide⟩
 ·obtain rfl:=List.mem_singleton.1 hy
  obtain ⟨rfl,rfl⟩:=one_some e
  have q:(updE ρ u ⟨0,0,true,z⟩ (nm u 0)).nil=false:=q
  rw [updE_at hu] at q
  cases q
 ·obtain rfl:=List.mem_singleton.1 hy
  obtain ⟨rfl,rfl⟩:=one_some e
  have q:(updE ρ u ⟨0,0,true,z⟩ (nm u 0)).nil=false:=q
  rw [updE_at hu] at q
  cases q
theorem gTailE {ty e:TypeId} {x y:Operand} {n len sz u':Nat} {i:Int} {b:Blk} (hw:wantT (tl t) ops o) (hop:o.op = .slice ty x (some y) none none) (hu:P.underlying ty=some (.slice e)) (hz:szP P e=some sz) (hx:ev t x=some (.slice (some ⟨n,0,none⟩) len 0)) (hy:ev t y=some (.int .i64 i)) (hb:hat (hp h) n=some b) (h0:(Nat.blt 0 sz && Nat.blt sz 77 && b.e == sz)=true) (hu1:Nat.blt u 1000=true) (hu':u + 1=u') (hs:o.dst=some d) (hn:Nat.blt d nt=true) (hl:b.cs.length=len * sz) (hi:i=len)
  (k:RG P nt ops draw rest ⟨u',(d,.slice (some ⟨u,0,none⟩) 0 0) :: t,(u,true,one ⟨[],e,0⟩) :: h⟩ (acc ++ [{ v:=.slice (some ⟨u,0,none⟩) 0 0,rd:=[n % 1000],asg:=[(u,one ⟨[],e,0⟩)] }]) K):RG P nt ops draw (o :: rest) ⟨u,t,h⟩ acc K:=by
 simp only [Bool.and_eq_true,beq_iff_eq] at h0
 obtain ⟨⟨h0,h77⟩,he⟩:=h0
 have h0:=of_blt h0
 have h77:=of_blt h77
 have hu1:=of_blt hu1
 refine gW (x:=⟨[],e,0⟩) (does_mk hw (fun ρ ac w K Q U hk hnu ht ha hK=>?_) fun U hU=>⟨(det_slc hu1).mono fun n hn=>.inr (by subst hn;exact .head _),fun y hy k z e=>?_,fun y hy=>(by cases hy)⟩) hu1 hu' hs hn k
 ·have hbl:=hat_at hb ha (.inl (.head _))
  have e1:ac.eval x=r3 ρ (.slice (some ⟨n,0,none⟩) len 0):=ev_sound (ρ:=ρ) (by rw [hop];simp [Op.operands]) ht hx
  have e2:ac.eval y = .int .i64 i:=ev_sound (ρ:=ρ) (by rw [hop];simp [Op.operands]) ht hy
  have fin:∀ z,(execOp ac.eval o).run P w = .ok (.value (zv z)) w→o.wp P ac w K Q:=fun z hr=>by
   unfold Oper.wp
   rw [hr]
   have:=hK _ _ (behind_nil (ρ:=ρ) (w:=w) (h:=hp h) (u:=u) (t:=e) (v:=.slice (some ⟨u,0,none⟩) 0 0) (rd:=[n % 1000]) (z:=z) hu1)
   have e5:r3 (updE ρ u ⟨0,0,true,z⟩) (.slice (some ⟨u,0,none⟩) 0 0)=zv z:=by
    show (if (updE ρ u ⟨0,0,true,z⟩ u).nil=true then zv (updE ρ u ⟨0,0,true,z⟩ u).z else _)=_
    rw [updE_self hu1];rfl
   rw [← e5]
   exact this
  cases hnil:(ρ n).nil with
  | true =>
   unfold blkAt at hbl
   rw [hnil,if_pos rfl] at hbl
   have hl0:len=0:=by
    rw [hbl.1] at hl
    rcases Nat.eq_zero_or_pos len with q|q
    ·exact q
    ·have:=Nat.mul_pos q h0
     simp at hl;omega
   have e9:ac.eval x = .slice none 0 0:=by rw [e1];show (if (ρ n).nil=true then zv (ρ n).z else _)=_;rw [if_pos hnil,hbl.2.1 (by omega)];rfl
   clear e1
   subst hl0
   refine fin none ?_
   have e3:(Instr.sliceBounds true 0 0 (some (.int .i64 i)) none none).run P w = .ok (0,0,0) w:=by
    simp [Instr.sliceBounds,Instr.sliceBound,asIntOf,hi,Sem.run_pure,Sem.run_bind,Result.andThen_ok]
   simp [execOp,hop,e9,e2,Instr.sliceAt,Instr.slice,run_underlying hu,run_sizeOf hz,e3,zv,Sem.run_pure,Sem.run_bind,Result.andThen_ok]
  | false =>
   unfold blkAt at hbl
   rw [hnil,if_neg (by decide),if_neg (by omega)] at hbl
   obtain ⟨sl,z,_,_,hcap,_⟩:=hbl
   have hcap:=(hcap (by omega)).2.1
   rw [hl,he] at hcap
   have hcap:len≤(ρ n).cap:=Nat.le_of_mul_le_mul_right (show len * sz≤(ρ n).cap * sz by omega) h0
   have e1:ac.eval x = .slice (some ⟨(ρ n).blk,0,none⟩) len (ρ n).cap:=by rw [e1];show (if (ρ n).nil=true then zv _ else _)=_;rw [if_neg (by rw [hnil];decide)];rfl
   have e3:(Instr.sliceBounds true len (ρ n).cap (some (.int .i64 i)) none none).run P w = .ok (len,len,(ρ n).cap) w:=by
    simp [Instr.sliceBounds,Instr.sliceBound,asIntOf,hi,Sem.run_pure,Sem.run_bind,Result.andThen_ok]
   by_cases e4:(ρ n).cap=len
   ·refine fin (some (⟨(ρ n).blk,0,none⟩,(ρ n).cap - len)) ?_
    rw [e4] at e1 e3
    simp [execOp,hop,e1,e2,Instr.sliceAt,Instr.slice,run_underlying hu,run_sizeOf hz,e3,e4,zv,Sem.run_pure,Sem.run_bind,Result.andThen_ok]
   ·refine fin (some (⟨(ρ n).blk,len * sz,none⟩,(ρ n).cap - len)) ?_
    simp [execOp,hop,e1,e2,Instr.sliceAt,Instr.slice,run_underlying hu,run_sizeOf hz,e3,e4,add_eq,zv,Sem.run_pure,Sem.run_bind,Result.andThen_ok]
 ·obtain rfl:=List.mem_singleton.1 hy
  obtain ⟨rfl,rfl⟩:=one_some e
  exact fun ρ ρ' _=>rfl
end
theorem ktCode {ms:List Nat} {C u2 b t k:Nat} {g:Nat→Option Nat} {h1:List (Nat × Bool × Fam)} {o':Bool} {l:List Int} (hl:h1.lookup (mp ms b)=some (o',one ⟨hls k (rY l),t,0⟩)) (hb:(Nat.blt b u2 && Nat.blt b 1000 && Nat.blt (mp ms b) 1000 && !(b == C))=true):KeepBT (tmG ms C g) u2 h1 b false (one ⟨hls k (rY l),t,0⟩):=ktFlat (hls_flat (rY_flat l)) hl (.inl rfl) (fun h=>nomatch h) (by rw [hb];cases Nat.ble t capT <;> rfl)
theorem ktHol {ms:List Nat} {C u2 b t e' k:Nat} {g:Nat→Option Nat} {h1:List (Nat × Bool × Fam)} {o':Bool} {cs cs':List Value} (hf:cs.all flat1=true) (hl:h1.lookup (mp ms b)=some (o',one ⟨cs',t,e'⟩)) (hd:cs'.drop k=cs) (hn:cs' ≠ []) (ho:true=true→o'=true) (ht:Nat.ble t capT=true) (hb:(Nat.blt b u2 && Nat.blt b 1000 && Nat.blt (mp ms b) 1000 && !(b == C))=true):KeepBT (tmG ms C g) u2 h1 b true (one ⟨hls k cs,t,0⟩):=by
 have hf2:=hls_flat (k:=k) hf
 refine ktRow hl (flat_poL hf2) (flat_okL hf2) ?_ ho hb
 rw [tnb_flat hf2]
 refine ⟨.inr ⟨rfl,fun e=>?_,fun i v hv hne=>?_⟩,fun q=>absurd rfl q,.inl rfl,fun _=>.inr (Nat.le_of_ble_eq_true ht)⟩
 ·have e:cs' = []:=e
  exact absurd e hn
 ·have hv:(hls k cs)[i]?=some v:=hv
  unfold hls at hv
  by_cases hi:i<k
  ·rw [List.getElem?_append_left (by simpa using hi)] at hv
   have:=List.mem_of_getElem? hv
   exact absurd (List.eq_of_mem_replicate this) hne
  ·rw [List.getElem?_append_right (by simp;omega),List.length_replicate] at hv
   show cs'[i]?=some v
   rw [← hd,List.getElem?_drop,show k + (i - k)=i by omega] at hv
   exact hv
theorem rCode {m:Nat→Nat} {hc:List (Nat × Bool × Fam)} {b k t:Nat} {o':Bool} {l:List Int} (hl:hc.lookup (m b)=some (o',one ⟨hls k (rY l),t,0⟩)) (hb:Nat.blt (m b) 1000=true):m b<1000∧∃ o' F',hc.lookup (m b)=some (o',F')∧FamLe (rnF m (one ⟨hls k (rY l),t,0⟩)) F':=rFlat (hls_flat (rY_flat l)) hl (.inl rfl) (by rw [hb,Bool.true_and,Bool.or_eq_true];exact .inr rfl)
theorem ho1 {h:Nat→Option (Bool × Fam)} {m:Nat→Nat} {b:Nat} {F:Fam} (ho:Owned h (m b)):∀ x ∈ [(b,F)],Owned h (m x.1):=fun x hx=>by
 obtain rfl:=List.mem_singleton.1 hx
 exact ho
theorem hu1 {hl:List (Nat × Bool × Fam)} {b:Nat} {x y:Blk} (h:hl.lookup b=some (true,one y)):∀ z ∈ [(b,one x)],∃ F,hl.lookup z.1=some (true,F)∧∀ k,z.2 k ≠ none→F k ≠ none:=fun z hz=>by
 obtain rfl:=List.mem_singleton.1 hz
 refine ⟨_,h,fun k hk=>?_⟩
 by_cases e:k=0 <;> simp_all [one]
theorem asRd {m:Nat→Nat} {u j:Nat} {x:Blk} {h:List (Nat × Bool × Fam)} (hl:h.lookup j=some (true,one (x.rn m))) (hk:x.cs.all (ok1 u)=true):h.lookup j=some (true,rnF m (one x))∧∀ k y,one x k=some y→DetB (lt u) y:=⟨by rw [rnF_one];exact hl,fun k y e=>det_ok (t:=x.t) (e:=x.e) hk e⟩
theorem num_c {l:List Int} {k n t0:Nat} {p:Int} (hl:ByL l) (hn:n≤l.length) (hp0:0≤p) (hp1:p≤999000) {L:List Int} {a b:Int} (hL:1≤L.length∧L.length≤1000) (hb:∀ x ∈ L,a≤x∧x≤b):∃ E,FDoes Try.prog 64 [.pointer (some ⟨1,0,none⟩),.slice (some ⟨2,0,none⟩) L.length 0] (hp [(0,false,one ⟨hls k (rY l),t0,0⟩),(1,true,one ⟨[.slice (some ⟨0,k,none⟩) n 0,.int .i64 (p)],83,2⟩),(2,false,one ⟨rI L,3,0⟩)]) E∧∃ x:Int,a≤x∧x≤b∧E=mkF (.int .i64 x) [0,2] [(1,one ⟨[.slice (some ⟨0,k,none⟩) n 0,.int .i64 (p + 1)],83,2⟩)] []:=by
 have hm:Try.prog.follows .mixedOrders=true:=by kernel_rfl
 have hd_:∀ x_ ∈ ([(0,false,one ⟨hls k (rY l),t0,0⟩),(1,true,one ⟨[.slice (some ⟨0,k,none⟩) n 0,.int .i64 (p)],83,2⟩),(2,false,one ⟨rI L,3,0⟩)]:List (Nat × Bool × Fam)),∀ k_ y_,x_.2.2 k_=some y_→DetB (lt 3) y_:=by
  intro x_ hx k_ y_ e
  simp only [List.mem_cons,List.not_mem_nil,or_false] at hx
  rcases hx with rfl|rfl|rfl
  ·exact det_code e
  ·exact det_ok rfl e
  ·exact det_row (rI_flat L) e
 refine fn_some (u0:=3) Try.func64 rfl rfl (gets rfl rfl rfl hd_ rfl) ?_
 clear hd_
 refine vc_seq ?_
 refine vc_region hm ?_
 refine gM trivial (.inr rfl) rfl rfl rfl ?_
 refine rg_nil nofun ?_
 refine vc_seq ?_
 refine vc_region hm ?_
 refine gM trivial (.inl rfl) rfl rfl rfl ?_
 refine gM trivial (.inl rfl) rfl rfl rfl ?_
 refine gM trivial (.inl rfl) rfl rfl rfl ?_
 refine gK trivial rfl rfl rfl rfl rfl rfl rI_nil ?_
 obtain ⟨E1,hE1,x1,x1a,x1b,rfl⟩:=pick_c (k:=k) (t0:=t0) (p:=p) hl hn (by omega) (by omega) (m:=L.length) (by omega) (by omega)
 refine gCF (ups':=[(1,one ⟨[.slice (some ⟨0,k,none⟩) n 0,.int .i64 (p + 1)],83,2⟩)]) (as':=[]) (v':=.int .i64 x1) 3 [0,1] hE1 trivial rfl rfl rfl rfl ⟨rCode rfl rfl,rCells rfl ⟨rfl,rfl,.inr rfl⟩ rfl,trivial⟩ ⟨frOne rfl rfl,trivial⟩ trivial rfl rfl (ho1 ⟨_,rfl⟩) (hu1 rfl) rfl rfl ?_
 refine gX trivial rfl rfl rfl rfl rfl rfl rfl rfl (by omega) (by omega) rI_ne ?_
 refine gL trivial rfl rfl rfl rfl rfl rfl rfl (lI (by omega) (by omega)) ?_
 refine gM trivial (.inr rfl) rfl rfl rfl ?_
 refine rg_nil nofun ?_
 refine vc_ret ?_
 exact ⟨mkF (.int .i64 (at_ L x1)) [0,2] [(1,one ⟨[.slice (some ⟨0,k,none⟩) n 0,.int .i64 (p + 1)],83,2⟩)] [],_,endsT [] (.inr rfl) (.tmp rfl rfl .nil) rfl rfl ⟨upOne rfl rfl rfl,trivial⟩ trivial rfl,_,(hb _ (at_mem (by omega) (by omega))).1,(hb _ (at_mem (by omega) (by omega))).2,rfl⟩
theorem whoDraw_c {l:List Int} {k n t0:Nat} {p:Int} (hl:ByL l) (hn:n≤l.length) (hp0:0≤p) (hp1:p≤997000):∃ E,FDoes Try.prog 70 [.pointer (some ⟨1,0,none⟩)] (hp [(0,false,one ⟨hls k (rY l),t0,0⟩),(1,true,one ⟨[.slice (some ⟨0,k,none⟩) n 0,.int .i64 (p)],83,2⟩)]) E∧∃ (who p2:Int),p≤p2∧p2≤p + 2∧E=mkF (.int .i64 who) [0] [(1,one ⟨[.slice (some ⟨0,k,none⟩) n 0,.int .i64 (p2)],83,2⟩)] []:=by
 have hm:Try.prog.follows .mixedOrders=true:=by kernel_rfl
 have hd_:∀ x_ ∈ ([(0,false,one ⟨hls k (rY l),t0,0⟩),(1,true,one ⟨[.slice (some ⟨0,k,none⟩) n 0,.int .i64 (p)],83,2⟩)]:List (Nat × Bool × Fam)),∀ k_ y_,x_.2.2 k_=some y_→DetB (lt 2) y_:=by
  intro x_ hx k_ y_ e
  simp only [List.mem_cons,List.not_mem_nil,or_false] at hx
  rcases hx with rfl|rfl
  ·exact det_code e
  ·exact det_ok rfl e
 refine fn_some (u0:=2) Try.func70 rfl rfl (gets rfl rfl rfl hd_ rfl) ?_
 clear hd_
 refine vc_seq ?_
 refine vc_region hm ?_
 refine gM trivial (.inr rfl) rfl rfl rfl ?_
 refine rg_nil nofun ?_
 refine vc_seq ?_
 refine vc_seq ?_
 refine vc_region hm ?_
 refine gM trivial (.inl rfl) rfl rfl rfl ?_
 obtain ⟨E1,hE1,x1,x1a,x1b,rfl⟩:=pick_c (k:=k) (t0:=t0) (p:=p) hl hn (by omega) (by omega) (m:=20) (by omega) (by omega)
 refine gCF (ups':=[(1,one ⟨[.slice (some ⟨0,k,none⟩) n 0,.int .i64 (p + 1)],83,2⟩)]) (as':=[]) (v':=.int .i64 x1) 2 [0,1] hE1 trivial rfl rfl rfl rfl ⟨rCode rfl rfl,rCells rfl ⟨rfl,rfl,.inr rfl⟩ rfl,trivial⟩ ⟨frOne rfl rfl,trivial⟩ trivial rfl rfl (ho1 ⟨_,rfl⟩) (hu1 rfl) rfl rfl ?_
 refine gI trivial rfl rfl rfl rfl rfl rfl ?_
 refine rg_nil nofun ?_
 refine cI rfl (fun c5=>?_) (fun c5=>?_)
 ·skip
  have p5:=eq_of_beq c5
  refine vc_seq ?_
  refine vc_region hm ?_
  refine gM trivial (.inl rfl) rfl rfl rfl ?_
  refine gR (u':=3) (out:=rI [-1,3,9223372036854775807]) trivial rfl rfl rfl rfl rfl rfl rfl rfl rfl rfl rfl rfl rfl rfl ?_
  obtain ⟨E3,hE3,x3,x3a,x3b,rfl⟩:=num_c (k:=k) (t0:=t0) (p:=p + 1) hl hn (by omega) (by omega) (L:=[-1,3,9223372036854775807]) (a:=-1) (b:=9223372036854775807) (by decide) (by decide)
  refine gCF (ups':=[(1,one ⟨[.slice (some ⟨0,k,none⟩) n 0,.int .i64 (p + 1 + 1)],83,2⟩)]) (as':=[]) (v':=.int .i64 x3) 3 [0,1,2] hE3 trivial rfl rfl rfl rfl ⟨rCode rfl rfl,rCells rfl ⟨rfl,rfl,.inr rfl⟩ rfl,rFlat (rI_flat _) rfl (.inl rfl) rfl,trivial⟩ ⟨frOne rfl rfl,trivial⟩ trivial rfl rfl (ho1 ⟨_,rfl⟩) (hu1 rfl) rfl rfl ?_
  refine gM trivial (.inr rfl) rfl rfl rfl ?_
  refine rg_nil nofun ?_
  refine vc_ret ?_
  exact ⟨mkF (.int .i64 x3) [0] [(1,one ⟨[.slice (some ⟨0,k,none⟩) n 0,.int .i64 (p + 1 + 1)],83,2⟩)] [],_,endsT [] (.inr rfl) (.tmp rfl rfl .nil) rfl rfl ⟨upOne rfl rfl rfl,trivial⟩ trivial rfl,x3,_,(by omega),(by omega),rfl⟩
 ·skip
  have p5:=ne_of_beq_false c5
  refine vc_skip ?_
  refine vc_seq ?_
  refine vc_region hm ?_
  refine gM trivial (.inl rfl) rfl rfl rfl ?_
  obtain ⟨E4,hE4,x4,x4a,x4b,rfl⟩:=pick_c (k:=k) (t0:=t0) (p:=p + 1) hl hn (by omega) (by omega) (m:=3) (by omega) (by omega)
  refine gCF (ups':=[(1,one ⟨[.slice (some ⟨0,k,none⟩) n 0,.int .i64 (p + 1 + 1)],83,2⟩)]) (as':=[]) (v':=.int .i64 x4) 2 [0,1] hE4 trivial rfl rfl rfl rfl ⟨rCode rfl rfl,rCells rfl ⟨rfl,rfl,.inr rfl⟩ rfl,trivial⟩ ⟨frOne rfl rfl,trivial⟩ trivial rfl rfl (ho1 ⟨_,rfl⟩) (hu1 rfl) rfl rfl ?_
  refine gM trivial (.inr rfl) rfl rfl rfl ?_
  refine rg_nil nofun ?_
  refine vc_ret ?_
  exact ⟨mkF (.int .i64 x4) [0] [(1,one ⟨[.slice (some ⟨0,k,none⟩) n 0,.int .i64 (p + 1 + 1)],83,2⟩)] [],_,endsT [] (.inr rfl) (.tmp rfl rfl .nil) rfl rfl ⟨upOne rfl rfl rfl,trivial⟩ trivial rfl,x4,_,(by omega),(by omega),rfl⟩
theorem ofS_c {l:List Int} {k n t0:Nat} {p:Int} (hl:ByL l) (hn:n≤l.length) (hp0:0≤p) (hp1:p≤998000) {L:List ByteArray} {lo hi:Nat} (hL:1≤L.length∧L.length≤1000) (hb:∀ x ∈ L,lo≤x.size∧x.size≤hi):∃ E,FDoes Try.prog 76 [.pointer (some ⟨1,0,none⟩),.slice (some ⟨2,0,none⟩) L.length 0] (hp [(0,false,one ⟨hls k (rY l),t0,0⟩),(1,true,one ⟨[.slice (some ⟨0,k,none⟩) n 0,.int .i64 (p)],83,2⟩),(2,false,one ⟨rS L,9,0⟩)]) E∧∃ x:ByteArray,lo≤x.size∧x.size≤hi∧E=mkF (.string x) [0,2] [(1,one ⟨[.slice (some ⟨0,k,none⟩) n 0,.int .i64 (p + 1)],83,2⟩)] []:=by
 have hm:Try.prog.follows .mixedOrders=true:=by kernel_rfl
 have hd_:∀ x_ ∈ ([(0,false,one ⟨hls k (rY l),t0,0⟩),(1,true,one ⟨[.slice (some ⟨0,k,none⟩) n 0,.int .i64 (p)],83,2⟩),(2,false,one ⟨rS L,9,0⟩)]:List (Nat × Bool × Fam)),∀ k_ y_,x_.2.2 k_=some y_→DetB (lt 3) y_:=by
  intro x_ hx k_ y_ e
  simp only [List.mem_cons,List.not_mem_nil,or_false] at hx
  rcases hx with rfl|rfl|rfl
  ·exact det_code e
  ·exact det_ok rfl e
  ·exact det_row (rS_flat L) e
 refine fn_some (u0:=3) Try.func76 rfl rfl (gets rfl rfl rfl hd_ rfl) ?_
 clear hd_
 refine vc_seq ?_
 refine vc_region hm ?_
 refine gM trivial (.inr rfl) rfl rfl rfl ?_
 refine rg_nil nofun ?_
 refine vc_seq ?_
 refine vc_region hm ?_
 refine gM trivial (.inl rfl) rfl rfl rfl ?_
 refine gM trivial (.inl rfl) rfl rfl rfl ?_
 refine gM trivial (.inl rfl) rfl rfl rfl ?_
 refine gK trivial rfl rfl rfl rfl rfl rfl rS_nil ?_
 obtain ⟨E1,hE1,x1,x1a,x1b,rfl⟩:=pick_c (k:=k) (t0:=t0) (p:=p) hl hn (by omega) (by omega) (m:=L.length) (by omega) (by omega)
 refine gCF (ups':=[(1,one ⟨[.slice (some ⟨0,k,none⟩) n 0,.int .i64 (p + 1)],83,2⟩)]) (as':=[]) (v':=.int .i64 x1) 3 [0,1] hE1 trivial rfl rfl rfl rfl ⟨rCode rfl rfl,rCells rfl ⟨rfl,rfl,.inr rfl⟩ rfl,trivial⟩ ⟨frOne rfl rfl,trivial⟩ trivial rfl rfl (ho1 ⟨_,rfl⟩) (hu1 rfl) rfl rfl ?_
 refine gX trivial rfl rfl rfl rfl rfl rfl rfl rfl (by omega) (by omega) rS_ne ?_
 refine gL trivial rfl rfl rfl rfl rfl rfl rfl (lS (by omega) (by omega)) ?_
 refine gM trivial (.inr rfl) rfl rfl rfl ?_
 refine rg_nil nofun ?_
 refine vc_ret ?_
 exact ⟨mkF (.string (at_ L x1)) [0,2] [(1,one ⟨[.slice (some ⟨0,k,none⟩) n 0,.int .i64 (p + 1)],83,2⟩)] [],_,endsT [] (.inr rfl) (.tmp rfl rfl .nil) rfl rfl ⟨upOne rfl rfl rfl,trivial⟩ trivial rfl,_,(hb _ (at_mem (by omega) (by omega))).1,(hb _ (at_mem (by omega) (by omega))).2,rfl⟩
theorem open_c {l:List Int} {k:Nat} (hl:ByL l):∃ E,FDoes Try.prog 45 [.slice (some ⟨0,k,none⟩) l.length 0] (hp [(0,false,one ⟨hls k (rY l),capT + l.length,0⟩)]) E∧∃ n:Nat,n≤l.length∧E=mkF (.pointer (some ⟨1,0,none⟩)) [0] [] [(1,one ⟨[.slice (some ⟨0,k,none⟩) n 0,.int .i64 (0)],83,2⟩)]:=by
 have hm:Try.prog.follows .mixedOrders=true:=by kernel_rfl
 have hd_:∀ x_ ∈ ([(0,false,one ⟨hls k (rY l),capT + l.length,0⟩)]:List (Nat × Bool × Fam)),∀ k_ y_,x_.2.2 k_=some y_→DetB (lt 1) y_:=by
  intro x_ hx k_ y_ e
  simp only [List.mem_cons,List.not_mem_nil,or_false] at hx
  subst hx
  exact det_code e
 refine fn_some (u0:=1) Try.func45 rfl rfl (gets rfl rfl rfl hd_ rfl) ?_
 clear hd_
 refine vc_seq ?_
 refine vc_region hm ?_
 refine gM trivial (.inr rfl) rfl rfl rfl ?_
 refine rg_nil nofun ?_
 refine vc_seq ?_
 refine vc_seq ?_
 refine vc_region hm ?_
 refine gM trivial (.inl rfl) rfl rfl rfl ?_
 refine gK trivial rfl rfl rfl rfl rfl rfl (hls_nil fun e=>(by have:=rY_nil e;omega)) ?_
 refine gI trivial rfl rfl rfl rfl rfl rfl ?_
 refine rg_nil nofun ?_
 refine cI rfl (fun c5=>?_) (fun c5=>?_)
 ·skip
  have p5:=of_decide_eq_true c5
  refine vc_region hm ?_
  refine gM trivial (.inl rfl) rfl rfl rfl ?_
  refine gHead (m:=2000) trivial rfl rfl rfl rfl rfl rfl rfl rfl (hls_ne (rY_ne (by omega))) (by omega) ?_
  refine gM trivial (.inr rfl) rfl rfl rfl ?_
  refine rg_nil nofun ?_
  refine vc_seq ?_
  refine vc_region hm ?_
  refine gM trivial (.inl rfl) rfl rfl rfl ?_
  refine gU trivial rfl rfl rfl rfl rfl rfl rfl rfl ?_
  refine gB (u':=2) trivial rfl rfl rfl rfl rfl rfl rfl rfl ?_
  refine gM trivial (.inr rfl) rfl rfl rfl ?_
  refine rg_nil nofun ?_
  refine vc_ret ?_
  exact ⟨mkF (.pointer (some ⟨1,0,none⟩)) [0] [] [(1,one ⟨[.slice (some ⟨0,k,none⟩) 2000 0,.int .i64 0],83,2⟩)],_,endsT [(1,1,one ⟨[.slice (some ⟨0,k,none⟩) 2000 0,.int .i64 0],83,2⟩)] (.inr rfl) (.tmp rfl rfl .nil) rfl rfl trivial ⟨asRd rfl rfl,trivial⟩ rfl,2000,(by omega),rfl⟩
 ·skip
  have p5:=of_decide_eq_false c5
  refine vc_skip ?_
  refine vc_seq ?_
  refine vc_region hm ?_
  refine gM trivial (.inl rfl) rfl rfl rfl ?_
  refine gU trivial rfl rfl rfl rfl rfl rfl rfl rfl ?_
  refine gB (u':=2) trivial rfl rfl rfl rfl rfl rfl rfl rfl ?_
  refine gM trivial (.inr rfl) rfl rfl rfl ?_
  refine rg_nil nofun ?_
  refine vc_ret ?_
  exact ⟨mkF (.pointer (some ⟨1,0,none⟩)) [0] [] [(1,one ⟨[.slice (some ⟨0,k,none⟩) l.length 0,.int .i64 0],83,2⟩)],_,endsT [(1,1,one ⟨[.slice (some ⟨0,k,none⟩) l.length 0,.int .i64 0],83,2⟩)] (.inr rfl) (.tmp rfl rfl .nil) rfl rfl trivial ⟨asRd rfl rfl,trivial⟩ rfl,l.length,(by omega),rfl⟩
structure DrB (s:Stv):Prop where
 z:StSz s
 l:∀ x ∈ s.last,-1≤x∧x≤1001
 f:∀ x ∈ s.fl,-1≤x∧x≤101
theorem at_I {l:List Int} {a b:Int} (h:∀ x ∈ l,a≤x∧x≤b) {i:Int} (h0:0≤i) (h1:i<l.length):a≤at_ l i∧at_ l i≤b:=h _ (at_mem h0 h1)
theorem dr_ok {s:Stv} (h:stOk s=true):DrB s:=by
 obtain ⟨⟨l0,l1,l2,l3,l4⟩,g0,g1,g2⟩:=stOk_in h
 refine ⟨sz_ok h,fun x hx=>?_,fun x hx=>?_⟩
 ·obtain ⟨i,hi,rfl⟩:=List.mem_iff_getElem.1 hx
  rw [at_get hi]
  have:=nu_at (i:=(i:Int)) g2 (by omega) (by omega)
  omega
 ·obtain ⟨i,hi,rfl⟩:=List.mem_iff_getElem.1 hx
  rw [at_get hi]
  have:=nu_at (i:=(i:Int)) g2 (by omega) (by omega)
  omega
theorem ask_c {l:List Int} {k n t0:Nat} {p:Int} (hl:ByL l) (hn:n≤l.length) (hp0:0≤p) (hp1:p≤990000) {s:Stv} {kk cc:Nat} (hb:DrB s):∃ E,FDoes Try.prog 61 [.pointer (some ⟨1,0,none⟩),.agg #[.slice (some ⟨2,kk,none⟩) s.now.length cc,.slice (some ⟨3,0,none⟩) s.sure.length 0,.slice (some ⟨4,0,none⟩) s.last.length 0,.slice (some ⟨5,0,none⟩) s.slast.length 0,.slice (some ⟨6,0,none⟩) s.fl.length 0]] (hp [(0,false,one ⟨hls k (rY l),t0,0⟩),(1,true,one ⟨[.slice (some ⟨0,k,none⟩) n 0,.int .i64 (p)],83,2⟩),(2,false,one ⟨hls kk (rS s.now),9,0⟩),(3,false,one ⟨rS s.sure,9,0⟩),(4,false,one ⟨rI s.last,3,0⟩),(5,false,one ⟨rI s.slast,3,0⟩),(6,false,one ⟨rI s.fl,3,0⟩)]) E∧∃ (q:Rq) (p2:Int),q.d.size≤16∧p≤p2∧p2≤p + 20∧E=mkF (vRq q) [0,2,3,4,5,6] [(1,one ⟨[.slice (some ⟨0,k,none⟩) n 0,.int .i64 (p2)],83,2⟩)] []:=by
 have hm:Try.prog.follows .mixedOrders=true:=by kernel_rfl
 have hd_:∀ x_ ∈ ([(0,false,one ⟨hls k (rY l),t0,0⟩),(1,true,one ⟨[.slice (some ⟨0,k,none⟩) n 0,.int .i64 (p)],83,2⟩),(2,false,one ⟨hls kk (rS s.now),9,0⟩),(3,false,one ⟨rS s.sure,9,0⟩),(4,false,one ⟨rI s.last,3,0⟩),(5,false,one ⟨rI s.slast,3,0⟩),(6,false,one ⟨rI s.fl,3,0⟩)]:List (Nat × Bool × Fam)),∀ k_ y_,x_.2.2 k_=some y_→DetB (lt 7) y_:=by
  intro x_ hx k_ y_ e
  simp only [List.mem_cons,List.not_mem_nil,or_false] at hx
  rcases hx with rfl|rfl|rfl|rfl|rfl|rfl|rfl
  ·exact det_code e
  ·exact det_ok rfl e
  ·exact det_row (hls_flat (rS_flat s.now)) e
  ·exact det_row (rS_flat s.sure) e
  ·exact det_row (rI_flat s.last) e
  ·exact det_row (rI_flat s.slast) e
  ·exact det_row (rI_flat s.fl) e
 refine fn_some (u0:=7) Try.func61 rfl rfl (gets rfl rfl rfl hd_ rfl) ?_
 clear hd_
 refine vc_seq ?_
 refine vc_region hm ?_
 refine gB (u':=8) trivial rfl rfl rfl rfl rfl rfl rfl rfl ?_
 refine gZ (u':=9) trivial rfl rfl rfl rfl rfl rfl rfl rfl ?_
 refine rg_nil nofun ?_
 refine vc_seq ?_
 refine vc_region hm ?_
 refine gM trivial (.inl rfl) rfl rfl rfl ?_
 obtain ⟨E1,hE1,x1,x1a,x1b,rfl⟩:=pick_c (k:=k) (t0:=t0) (p:=p) hl hn (by omega) (by omega) (m:=3) (by omega) (by omega)
 refine gCF (ups':=[(1,one ⟨[.slice (some ⟨0,k,none⟩) n 0,.int .i64 (p + 1)],83,2⟩)]) (as':=[]) (v':=.int .i64 x1) 9 [0,1] hE1 trivial rfl rfl rfl rfl ⟨rCode rfl rfl,rCells rfl ⟨rfl,rfl,.inr rfl⟩ rfl,trivial⟩ ⟨frOne rfl rfl,trivial⟩ trivial rfl rfl (ho1 ⟨_,rfl⟩) (hu1 rfl) rfl rfl ?_
 refine gM trivial (.inr rfl) rfl rfl rfl ?_
 refine rg_nil nofun ?_
 refine vc_seq ?_
 refine vc_region hm ?_
 refine gM trivial (.inl rfl) rfl rfl rfl ?_
 refine gM trivial (.inl rfl) rfl rfl rfl ?_
 obtain ⟨E2,hE2,x2,x2a,x2b,rfl⟩:=pick_c (k:=k) (t0:=t0) (p:=p + 1) hl hn (by omega) (by omega) (m:=4) (by omega) (by omega)
 refine gCF (ups':=[(1,one ⟨[.slice (some ⟨0,k,none⟩) n 0,.int .i64 (p + 1 + 1)],83,2⟩)]) (as':=[]) (v':=.int .i64 x2) 9 [0,1] hE2 trivial rfl rfl rfl rfl ⟨rCode rfl rfl,rCells rfl ⟨rfl,rfl,.inr rfl⟩ rfl,trivial⟩ ⟨frOne rfl rfl,trivial⟩ trivial rfl rfl (ho1 ⟨_,rfl⟩) (hu1 rfl) rfl rfl ?_
 refine gM trivial (.inl rfl) rfl rfl rfl ?_
 obtain ⟨E3,hE3,x3,x3a,x3b,rfl⟩:=pick_c (k:=k) (t0:=t0) (p:=p + 1 + 1) hl hn (by omega) (by omega) (m:=3) (by omega) (by omega)
 refine gCF (ups':=[(1,one ⟨[.slice (some ⟨0,k,none⟩) n 0,.int .i64 (p + 1 + 1 + 1)],83,2⟩)]) (as':=[]) (v':=.int .i64 x3) 9 [0,1] hE3 trivial rfl rfl rfl rfl ⟨rCode rfl rfl,rCells rfl ⟨rfl,rfl,.inr rfl⟩ rfl,trivial⟩ ⟨frOne rfl rfl,trivial⟩ trivial rfl rfl (ho1 ⟨_,rfl⟩) (hu1 rfl) rfl rfl ?_
 refine gM trivial (.inl rfl) rfl rfl rfl ?_
 obtain ⟨E4,hE4,x4,x4a,x4b,rfl⟩:=pick_c (k:=k) (t0:=t0) (p:=p + 1 + 1 + 1) hl hn (by omega) (by omega) (m:=16) (by omega) (by omega)
 refine gCF (ups':=[(1,one ⟨[.slice (some ⟨0,k,none⟩) n 0,.int .i64 (p + 1 + 1 + 1 + 1)],83,2⟩)]) (as':=[]) (v':=.int .i64 x4) 9 [0,1] hE4 trivial rfl rfl rfl rfl ⟨rCode rfl rfl,rCells rfl ⟨rfl,rfl,.inr rfl⟩ rfl,trivial⟩ ⟨frOne rfl rfl,trivial⟩ trivial rfl rfl (ho1 ⟨_,rfl⟩) (hu1 rfl) rfl rfl ?_
 refine gM trivial (.inl rfl) rfl rfl rfl ?_
 refine gR (u':=10) (out:=rS [⟨#[120]⟩,⟨#[97,98]⟩,⟨#[113,55,46]⟩,⟨#[109,110,111,112]⟩]) trivial rfl rfl rfl rfl rfl rfl rfl rfl rfl rfl rfl rfl rfl rfl ?_
 obtain ⟨E5,hE5,t5,t5a,t5b,rfl⟩:=ofS_c (k:=k) (t0:=t0) (p:=p + 1 + 1 + 1 + 1) hl hn (by omega) (by omega) (L:=[⟨#[120]⟩,⟨#[97,98]⟩,⟨#[113,55,46]⟩,⟨#[109,110,111,112]⟩]) (lo:=1) (hi:=4) (by decide) (by decide)
 refine gCF (ups':=[(1,one ⟨[.slice (some ⟨0,k,none⟩) n 0,.int .i64 (p + 1 + 1 + 1 + 1 + 1)],83,2⟩)]) (as':=[]) (v':=.string t5) 10 [0,1,9] hE5 trivial rfl rfl rfl rfl ⟨rCode rfl rfl,rCells rfl ⟨rfl,rfl,.inr rfl⟩ rfl,rFlat (rS_flat _) rfl (.inl rfl) rfl,trivial⟩ ⟨frOne rfl rfl,trivial⟩ trivial rfl rfl (ho1 ⟨_,rfl⟩) (hu1 rfl) rfl rfl ?_
 refine gU trivial rfl rfl rfl rfl rfl rfl rfl rfl ?_
 refine gZ (u':=11) trivial rfl rfl rfl rfl rfl rfl rfl rfl ?_
 refine gT trivial rfl rfl rfl rfl rfl rfl rfl rfl rfl rfl (Nat.le_of_ble_eq_true rfl) rfl ?_
 refine rg_nil nofun ?_
 refine vc_joinT (fun S_=>∃ (nu q2:Int),p≤q2∧q2≤p + 6∧S_=⟨10,[(0,.pointer (some ⟨1,0,none⟩)),(3,.pointer (some ⟨7,0,none⟩)),(4,.pointer (some ⟨8,0,none⟩)),(5,.int .i64 x1),(6,.pointer (some ⟨9,0,none⟩))],[(0,false,one ⟨hls k (rY l),t0,0⟩),(1,true,one ⟨[.slice (some ⟨0,k,none⟩) n 0,.int .i64 (q2)],83,2⟩),(2,false,one ⟨hls kk (rS s.now),9,0⟩),(3,false,one ⟨rS s.sure,9,0⟩),(4,false,one ⟨rI s.last,3,0⟩),(5,false,one ⟨rI s.slast,3,0⟩),(6,false,one ⟨rI s.fl,3,0⟩),(7,true,one ⟨[.slice (some ⟨2,kk,none⟩) s.now.length cc,.slice (some ⟨3,0,none⟩) s.sure.length 0,.slice (some ⟨4,0,none⟩) s.last.length 0,.slice (some ⟨5,0,none⟩) s.slast.length 0,.slice (some ⟨6,0,none⟩) s.fl.length 0],26,5⟩),(8,true,one ⟨[.int .i64 0,.int .i64 0,.int .i64 0,.int .i64 0,.int .i64 0,.string ⟨#[]⟩],52,6⟩),(9,true,one ⟨[.int .i64 x1,.int .i64 x2,.int .i64 nu,.int .i64 x3,.int .i64 x4,.string t5],52,6⟩)]⟩) ?_ ?_
 ·skip
  refine vc_seq ?_
  refine vc_region hm ?_
  refine gF trivial rfl rfl rfl rfl rfl ?_
  refine gL trivial rfl rfl rfl rfl rfl rfl rfl rfl ?_
  refine gK trivial rfl rfl rfl rfl rfl rfl rI_nil ?_
  refine gI trivial rfl rfl rfl rfl rfl rfl ?_
  refine rg_nil nofun ?_
  refine cI rfl (fun c23=>?_) (fun c23=>?_)
  ·skip
   have p23:=eq_of_beq c23
   refine vc_region hm ?_
   refine gF trivial rfl rfl rfl rfl rfl ?_
   refine gL trivial rfl rfl rfl rfl rfl rfl rfl rfl ?_
   refine gM trivial (.inl rfl) rfl rfl rfl ?_
   refine gX trivial rfl rfl rfl rfl rfl rfl rfl rfl (by omega) (by omega) rI_ne ?_
   refine gL trivial rfl rfl rfl rfl rfl rfl rfl (lI (by omega) (by omega)) ?_
   refine gM trivial (.inl rfl) rfl rfl rfl ?_
   refine gR (u':=12) (out:=rI [1,1,1,1,1,0,2,-1]) trivial rfl rfl rfl rfl rfl rfl rfl rfl rfl rfl rfl rfl rfl rfl ?_
   obtain ⟨E7,hE7,x7,x7a,x7b,rfl⟩:=num_c (k:=k) (t0:=t0) (p:=p + 1 + 1 + 1 + 1 + 1) hl hn (by omega) (by omega) (L:=[1,1,1,1,1,0,2,-1]) (a:=-1) (b:=2) (by decide) (by decide)
   refine gCF (ups':=[(1,one ⟨[.slice (some ⟨0,k,none⟩) n 0,.int .i64 (p + 1 + 1 + 1 + 1 + 1 + 1)],83,2⟩)]) (as':=[]) (v':=.int .i64 x7) 12 [0,1,11] hE7 trivial rfl rfl rfl rfl ⟨rCode rfl rfl,rCells rfl ⟨rfl,rfl,.inr rfl⟩ rfl,rFlat (rI_flat _) rfl (.inl rfl) rfl,trivial⟩ ⟨frOne rfl rfl,trivial⟩ trivial rfl rfl (ho1 ⟨_,rfl⟩) (hu1 rfl) rfl rfl ?_
   refine gA trivial rfl rfl rfl rfl rfl rfl (by have:=at_I hb.l (i:=x1) (by omega) (by omega);omega) ?_
   refine gF trivial rfl rfl rfl rfl rfl ?_
   refine gT trivial rfl rfl rfl rfl rfl rfl rfl rfl rfl rfl (Nat.le_of_ble_eq_true rfl) rfl ?_
   refine rg_nil (fun _=>by kernel_rfl) ?_
   exact jn_hereT ⟨((at_ s.last x1) + x7),p + 1 + 1 + 1 + 1 + 1 + 1,(by omega),(by omega),rfl⟩ (re_nil (ms:=[0,1,2,3,4,5,6,7,8,10]) (C:=999) rfl ⟨⟨⟨rfl,rfl⟩,rfl⟩,⟨⟨rfl,rfl⟩,rfl⟩,⟨⟨rfl,rfl⟩,rfl⟩,⟨⟨rfl,rfl⟩,rfl⟩,⟨⟨rfl,rfl⟩,rfl⟩,trivial⟩ ⟨ktCode rfl rfl,ktRow rfl rfl rfl (BlkW.refl _) id rfl,ktFlat (hls_flat (rS_flat _)) rfl (.inl rfl) (fun h=>nomatch h) rfl,ktFlat (rS_flat _) rfl (.inl rfl) (fun h=>nomatch h) rfl,ktFlat (rI_flat _) rfl (.inl rfl) (fun h=>nomatch h) rfl,ktFlat (rI_flat _) rfl (.inl rfl) (fun h=>nomatch h) rfl,ktFlat (rI_flat _) rfl (.inl rfl) (fun h=>nomatch h) rfl,ktRow rfl rfl rfl ⟨.inl rfl,fun _=>rfl,.inr (.inl rfl),fun q=>(by cases q)⟩ id rfl,ktRow rfl rfl rfl (BlkW.refl _) id rfl,ktRow rfl rfl rfl (BlkW.refl _) id rfl,trivial⟩ rfl rfl (rig_of rfl) rfl)
  ·skip
   have p23:=ne_of_beq_false c23
   refine vc_skip ?_
   exact jn_hereT ⟨1,p + 1 + 1 + 1 + 1 + 1,(by omega),(by omega),rfl⟩ (re_nil (ms:=[0,1,2,3,4,5,6,7,8,10]) (C:=999) rfl ⟨⟨⟨rfl,rfl⟩,rfl⟩,⟨⟨rfl,rfl⟩,rfl⟩,⟨⟨rfl,rfl⟩,rfl⟩,⟨⟨rfl,rfl⟩,rfl⟩,⟨⟨rfl,rfl⟩,rfl⟩,trivial⟩ ⟨ktCode rfl rfl,ktRow rfl rfl rfl (BlkW.refl _) id rfl,ktFlat (hls_flat (rS_flat _)) rfl (.inl rfl) (fun h=>nomatch h) rfl,ktFlat (rS_flat _) rfl (.inl rfl) (fun h=>nomatch h) rfl,ktFlat (rI_flat _) rfl (.inl rfl) (fun h=>nomatch h) rfl,ktFlat (rI_flat _) rfl (.inl rfl) (fun h=>nomatch h) rfl,ktFlat (rI_flat _) rfl (.inl rfl) (fun h=>nomatch h) rfl,ktRow rfl rfl rfl ⟨.inl rfl,fun _=>rfl,.inr (.inl rfl),fun q=>(by cases q)⟩ id rfl,ktRow rfl rfl rfl (BlkW.refl _) id rfl,ktRow rfl rfl rfl (BlkW.refl _) id rfl,trivial⟩ rfl rfl (rig_of rfl) rfl)
 ·rintro S_ ⟨nu,q2,r1,r2,rfl⟩
  refine vc_joinT (fun S_=>∃ (e3 q3:Int),p≤q3∧q3≤p + 8∧S_=⟨10,[(0,.pointer (some ⟨1,0,none⟩)),(3,.pointer (some ⟨7,0,none⟩)),(4,.pointer (some ⟨8,0,none⟩)),(5,.int .i64 x1),(6,.pointer (some ⟨9,0,none⟩))],[(0,false,one ⟨hls k (rY l),t0,0⟩),(1,true,one ⟨[.slice (some ⟨0,k,none⟩) n 0,.int .i64 (q3)],83,2⟩),(2,false,one ⟨hls kk (rS s.now),9,0⟩),(3,false,one ⟨rS s.sure,9,0⟩),(4,false,one ⟨rI s.last,3,0⟩),(5,false,one ⟨rI s.slast,3,0⟩),(6,false,one ⟨rI s.fl,3,0⟩),(7,true,one ⟨[.slice (some ⟨2,kk,none⟩) s.now.length cc,.slice (some ⟨3,0,none⟩) s.sure.length 0,.slice (some ⟨4,0,none⟩) s.last.length 0,.slice (some ⟨5,0,none⟩) s.slast.length 0,.slice (some ⟨6,0,none⟩) s.fl.length 0],26,5⟩),(8,true,one ⟨[.int .i64 0,.int .i64 0,.int .i64 0,.int .i64 0,.int .i64 0,.string ⟨#[]⟩],52,6⟩),(9,true,one ⟨[.int .i64 x1,.int .i64 e3,.int .i64 nu,.int .i64 x3,.int .i64 x4,.string t5],52,6⟩)]⟩) ?_ ?_
  ·skip
   refine vc_seq ?_
   refine vc_region hm ?_
   refine gF trivial rfl rfl rfl rfl rfl ?_
   refine gL trivial rfl rfl rfl rfl rfl rfl rfl rfl ?_
   refine gK trivial rfl rfl rfl rfl rfl rfl rI_nil ?_
   refine gI trivial rfl rfl rfl rfl rfl rfl ?_
   refine gM trivial (.inl rfl) rfl rfl rfl ?_
   refine gI2 (d:=38) rfl (fun c38=>?_) (fun c38=>?_)
   ·skip
    have p38:=eq_of_beq c38
    refine gM ⟨_,_,rfl,rfl,c38⟩ (.inl rfl) rfl rfl rfl ?_
    obtain ⟨E9,hE9,x9,x9a,x9b,rfl⟩:=pick_c (k:=k) (t0:=t0) (p:=q2) hl hn (by omega) (by omega) (m:=3) (by omega) (by omega)
    refine gCF (ups':=[(1,one ⟨[.slice (some ⟨0,k,none⟩) n 0,.int .i64 (q2 + 1)],83,2⟩)]) (as':=[]) (v':=.int .i64 x9) 10 [0,1] hE9 ⟨_,_,rfl,rfl,c38⟩ rfl rfl rfl rfl ⟨rCode rfl rfl,rCells rfl ⟨rfl,rfl,.inr rfl⟩ rfl,trivial⟩ ⟨frOne rfl rfl,trivial⟩ trivial rfl rfl (ho1 ⟨_,rfl⟩) (hu1 rfl) rfl rfl ?_
    refine gI ⟨_,_,rfl,rfl,c38⟩ rfl rfl rfl rfl rfl rfl ?_
    refine gPT trivial rfl rfl c38 rfl rfl rfl ?_
    refine rg_nil nofun ?_
    refine cI rfl (fun c42=>?_) (fun c42=>?_)
    ·skip
     have p42:=of_decide_eq_true c42
     refine vc_region hm ?_
     refine gF trivial rfl rfl rfl rfl rfl ?_
     refine gL trivial rfl rfl rfl rfl rfl rfl rfl rfl ?_
     refine gM trivial (.inl rfl) rfl rfl rfl ?_
     refine gX trivial rfl rfl rfl rfl rfl rfl rfl rfl (by omega) (by omega) rI_ne ?_
     refine gL trivial rfl rfl rfl rfl rfl rfl rfl (lI (by omega) (by omega)) ?_
     refine gM trivial (.inl rfl) rfl rfl rfl ?_
     obtain ⟨E11,hE11,x11,x11a,x11b,rfl⟩:=pick_c (k:=k) (t0:=t0) (p:=q2 + 1) hl hn (by omega) (by omega) (m:=2) (by omega) (by omega)
     refine gCF (ups':=[(1,one ⟨[.slice (some ⟨0,k,none⟩) n 0,.int .i64 (q2 + 1 + 1)],83,2⟩)]) (as':=[]) (v':=.int .i64 x11) 10 [0,1] hE11 trivial rfl rfl rfl rfl ⟨rCode rfl rfl,rCells rfl ⟨rfl,rfl,.inr rfl⟩ rfl,trivial⟩ ⟨frOne rfl rfl,trivial⟩ trivial rfl rfl (ho1 ⟨_,rfl⟩) (hu1 rfl) rfl rfl ?_
     refine gA trivial rfl rfl rfl rfl rfl rfl (by have:=at_I hb.f (i:=x1) (by omega) (by omega);omega) ?_
     refine gF trivial rfl rfl rfl rfl rfl ?_
     refine gT trivial rfl rfl rfl rfl rfl rfl rfl rfl rfl rfl (Nat.le_of_ble_eq_true rfl) rfl ?_
     refine rg_nil (fun _=>by kernel_rfl) ?_
     exact jn_hereT ⟨((at_ s.fl x1) + x11),q2 + 1 + 1,(by omega),(by omega),rfl⟩ (re_nil (ms:=[0,1,2,3,4,5,6,7,8,9]) (C:=999) rfl ⟨⟨⟨rfl,rfl⟩,rfl⟩,⟨⟨rfl,rfl⟩,rfl⟩,⟨⟨rfl,rfl⟩,rfl⟩,⟨⟨rfl,rfl⟩,rfl⟩,⟨⟨rfl,rfl⟩,rfl⟩,trivial⟩ ⟨ktCode rfl rfl,ktRow rfl rfl rfl (BlkW.refl _) id rfl,ktFlat (hls_flat (rS_flat _)) rfl (.inl rfl) (fun h=>nomatch h) rfl,ktFlat (rS_flat _) rfl (.inl rfl) (fun h=>nomatch h) rfl,ktFlat (rI_flat _) rfl (.inl rfl) (fun h=>nomatch h) rfl,ktFlat (rI_flat _) rfl (.inl rfl) (fun h=>nomatch h) rfl,ktFlat (rI_flat _) rfl (.inl rfl) (fun h=>nomatch h) rfl,ktRow rfl rfl rfl ⟨.inl rfl,fun _=>rfl,.inr (.inl rfl),fun q=>(by cases q)⟩ id rfl,ktRow rfl rfl rfl (BlkW.refl _) id rfl,ktRow rfl rfl rfl (BlkW.refl _) id rfl,trivial⟩ rfl rfl (rig_of rfl) rfl)
    ·skip
     have p42:=of_decide_eq_false c42
     refine vc_skip ?_
     exact jn_hereT ⟨x2,q2 + 1,(by omega),(by omega),rfl⟩ (re_nil (ms:=[0,1,2,3,4,5,6,7,8,9]) (C:=999) rfl ⟨⟨⟨rfl,rfl⟩,rfl⟩,⟨⟨rfl,rfl⟩,rfl⟩,⟨⟨rfl,rfl⟩,rfl⟩,⟨⟨rfl,rfl⟩,rfl⟩,⟨⟨rfl,rfl⟩,rfl⟩,trivial⟩ ⟨ktCode rfl rfl,ktRow rfl rfl rfl (BlkW.refl _) id rfl,ktFlat (hls_flat (rS_flat _)) rfl (.inl rfl) (fun h=>nomatch h) rfl,ktFlat (rS_flat _) rfl (.inl rfl) (fun h=>nomatch h) rfl,ktFlat (rI_flat _) rfl (.inl rfl) (fun h=>nomatch h) rfl,ktFlat (rI_flat _) rfl (.inl rfl) (fun h=>nomatch h) rfl,ktFlat (rI_flat _) rfl (.inl rfl) (fun h=>nomatch h) rfl,ktRow rfl rfl rfl ⟨.inl rfl,fun _=>rfl,.inr (.inl rfl),fun q=>(by cases q)⟩ id rfl,ktRow rfl rfl rfl (BlkW.refl _) id rfl,ktRow rfl rfl rfl (BlkW.refl _) id rfl,trivial⟩ rfl rfl (rig_of rfl) rfl)
   ·skip
    have p38:=ne_of_beq_false c38
    refine gO ⟨_,_,rfl,rfl,c38⟩ rfl rfl ?_
    refine gO ⟨_,_,rfl,rfl,c38⟩ rfl rfl ?_
    refine gO ⟨_,_,rfl,rfl,c38⟩ rfl rfl ?_
    refine gPF trivial rfl rfl c38 rfl rfl rfl ?_
    refine rg_nil nofun ?_
    refine cF rfl rfl ?_
    refine vc_skip ?_
    exact jn_hereT ⟨x2,q2,(by omega),(by omega),rfl⟩ (re_nil (ms:=[0,1,2,3,4,5,6,7,8,9]) (C:=999) rfl ⟨⟨⟨rfl,rfl⟩,rfl⟩,⟨⟨rfl,rfl⟩,rfl⟩,⟨⟨rfl,rfl⟩,rfl⟩,⟨⟨rfl,rfl⟩,rfl⟩,⟨⟨rfl,rfl⟩,rfl⟩,trivial⟩ ⟨ktCode rfl rfl,ktRow rfl rfl rfl (BlkW.refl _) id rfl,ktFlat (hls_flat (rS_flat _)) rfl (.inl rfl) (fun h=>nomatch h) rfl,ktFlat (rS_flat _) rfl (.inl rfl) (fun h=>nomatch h) rfl,ktFlat (rI_flat _) rfl (.inl rfl) (fun h=>nomatch h) rfl,ktFlat (rI_flat _) rfl (.inl rfl) (fun h=>nomatch h) rfl,ktFlat (rI_flat _) rfl (.inl rfl) (fun h=>nomatch h) rfl,ktRow rfl rfl rfl ⟨.inl rfl,fun _=>rfl,.inr (.inl rfl),fun q=>(by cases q)⟩ id rfl,ktRow rfl rfl rfl (BlkW.refl _) id rfl,ktRow rfl rfl rfl (BlkW.refl _) id rfl,trivial⟩ rfl rfl (rig_of rfl) rfl)
  ·rintro S_ ⟨e3,q3,r3,r4,rfl⟩
   refine vc_seq ?_
   refine vc_seq ?_
   refine vc_region hm ?_
   refine gM trivial (.inl rfl) rfl rfl rfl ?_
   obtain ⟨E12,hE12,x12,x12a,x12b,rfl⟩:=pick_c (k:=k) (t0:=t0) (p:=q3) hl hn (by omega) (by omega) (m:=50) (by omega) (by omega)
   refine gCF (ups':=[(1,one ⟨[.slice (some ⟨0,k,none⟩) n 0,.int .i64 (q3 + 1)],83,2⟩)]) (as':=[]) (v':=.int .i64 x12) 10 [0,1] hE12 trivial rfl rfl rfl rfl ⟨rCode rfl rfl,rCells rfl ⟨rfl,rfl,.inr rfl⟩ rfl,trivial⟩ ⟨frOne rfl rfl,trivial⟩ trivial rfl rfl (ho1 ⟨_,rfl⟩) (hu1 rfl) rfl rfl ?_
   refine rg_nil nofun ?_
   refine vc_block ?_
   refine vc_seq ?_
   refine vc_region hm ?_
   refine gI trivial rfl rfl rfl rfl rfl rfl ?_
   refine gM trivial (.inr rfl) rfl rfl rfl ?_
   refine rg_nil nofun ?_
   refine cI rfl (fun c54=>?_) (fun c54=>?_)
   ·skip
    have p54:=eq_of_beq c54
    refine vc_region hm ?_
    refine gM trivial (.inl rfl) rfl rfl rfl ?_
    obtain ⟨E14,hE14,w14,p14,q14a,q14b,rfl⟩:=whoDraw_c (k:=k) (t0:=t0) (p:=q3 + 1) hl hn (by omega) (by omega) 
    refine gCF (ups':=[(1,one ⟨[.slice (some ⟨0,k,none⟩) n 0,.int .i64 (p14)],83,2⟩)]) (as':=[]) (v':=.int .i64 w14) 10 [0,1] hE14 trivial rfl rfl rfl rfl ⟨rCode rfl rfl,rCells rfl ⟨rfl,rfl,.inr rfl⟩ rfl,trivial⟩ ⟨frOne rfl rfl,trivial⟩ trivial rfl rfl (ho1 ⟨_,rfl⟩) (hu1 rfl) rfl rfl ?_
    refine gF trivial rfl rfl rfl rfl rfl ?_
    refine gT trivial rfl rfl rfl rfl rfl rfl rfl rfl rfl rfl (Nat.le_of_ble_eq_true rfl) rfl ?_
    refine rg_nil nofun ?_
    refine vc_seq ?_
    refine vc_region hm ?_
    refine gL trivial rfl rfl rfl rfl rfl rfl rfl rfl ?_
    refine gT trivial rfl rfl rfl rfl rfl rfl rfl rfl rfl rfl (Nat.le_of_ble_eq_true rfl) rfl ?_
    refine rg_nil nofun ?_
    refine vc_ret ?_
    exact ⟨mkF (vRq ⟨w14,e3,nu,x3,x4,t5⟩) [0,2,3,4,5,6] [(1,one ⟨[.slice (some ⟨0,k,none⟩) n 0,.int .i64 (p14)],83,2⟩)] [],_,endsT [] (.inr rfl) ((.cell rfl rfl rfl rfl rfl .nil)) rfl rfl ⟨upOne rfl rfl rfl,trivial⟩ trivial rfl,⟨w14,e3,nu,x3,x4,t5⟩,_,(show t5.size≤16 by omega),(by omega),(by omega),rfl⟩
   ·skip
    have p54:=ne_of_beq_false c54
    refine vc_seq ?_
    refine vc_region hm ?_
    refine gI trivial rfl rfl rfl rfl rfl rfl ?_
    refine gM trivial (.inr rfl) rfl rfl rfl ?_
    refine rg_nil nofun ?_
    refine cI rfl (fun c59=>?_) (fun c59=>?_)
    ·skip
     have p59:=eq_of_beq c59
     refine vc_region hm ?_
     refine gM trivial (.inl rfl) rfl rfl rfl ?_
     refine gR (u':=11) (out:=rI [-1,3]) trivial rfl rfl rfl rfl rfl rfl rfl rfl rfl rfl rfl rfl rfl rfl ?_
     obtain ⟨E16,hE16,x16,x16a,x16b,rfl⟩:=num_c (k:=k) (t0:=t0) (p:=q3 + 1) hl hn (by omega) (by omega) (L:=[-1,3]) (a:=-1) (b:=3) (by decide) (by decide)
     refine gCF (ups':=[(1,one ⟨[.slice (some ⟨0,k,none⟩) n 0,.int .i64 (q3 + 1 + 1)],83,2⟩)]) (as':=[]) (v':=.int .i64 x16) 11 [0,1,10] hE16 trivial rfl rfl rfl rfl ⟨rCode rfl rfl,rCells rfl ⟨rfl,rfl,.inr rfl⟩ rfl,rFlat (rI_flat _) rfl (.inl rfl) rfl,trivial⟩ ⟨frOne rfl rfl,trivial⟩ trivial rfl rfl (ho1 ⟨_,rfl⟩) (hu1 rfl) rfl rfl ?_
     refine gF trivial rfl rfl rfl rfl rfl ?_
     refine gT trivial rfl rfl rfl rfl rfl rfl rfl rfl rfl rfl (Nat.le_of_ble_eq_true rfl) rfl ?_
     refine rg_nil nofun ?_
     refine vc_seq ?_
     refine vc_region hm ?_
     refine gL trivial rfl rfl rfl rfl rfl rfl rfl rfl ?_
     refine gT trivial rfl rfl rfl rfl rfl rfl rfl rfl rfl rfl (Nat.le_of_ble_eq_true rfl) rfl ?_
     refine rg_nil nofun ?_
     refine vc_ret ?_
     exact ⟨mkF (vRq ⟨x1,e3,nu,x16,x4,t5⟩) [0,2,3,4,5,6] [(1,one ⟨[.slice (some ⟨0,k,none⟩) n 0,.int .i64 (q3 + 1 + 1)],83,2⟩)] [],_,endsT [] (.inr rfl) ((.cell rfl rfl rfl rfl rfl .nil)) rfl rfl ⟨upOne rfl rfl rfl,trivial⟩ trivial rfl,⟨x1,e3,nu,x16,x4,t5⟩,_,(show t5.size≤16 by omega),(by omega),(by omega),rfl⟩
    ·skip
     have p59:=ne_of_beq_false c59
     refine vc_seq ?_
     refine vc_region hm ?_
     refine gI trivial rfl rfl rfl rfl rfl rfl ?_
     refine gM trivial (.inr rfl) rfl rfl rfl ?_
     refine rg_nil nofun ?_
     refine cI rfl (fun c65=>?_) (fun c65=>?_)
     ·skip
      have p65:=eq_of_beq c65
      refine vc_region hm ?_
      refine gM trivial (.inl rfl) rfl rfl rfl ?_
      refine gR (u':=11) (out:=rI [-1,48,9223372036854775807]) trivial rfl rfl rfl rfl rfl rfl rfl rfl rfl rfl rfl rfl rfl rfl ?_
      obtain ⟨E18,hE18,x18,x18a,x18b,rfl⟩:=num_c (k:=k) (t0:=t0) (p:=q3 + 1) hl hn (by omega) (by omega) (L:=[-1,48,9223372036854775807]) (a:=-1) (b:=9223372036854775807) (by decide) (by decide)
      refine gCF (ups':=[(1,one ⟨[.slice (some ⟨0,k,none⟩) n 0,.int .i64 (q3 + 1 + 1)],83,2⟩)]) (as':=[]) (v':=.int .i64 x18) 11 [0,1,10] hE18 trivial rfl rfl rfl rfl ⟨rCode rfl rfl,rCells rfl ⟨rfl,rfl,.inr rfl⟩ rfl,rFlat (rI_flat _) rfl (.inl rfl) rfl,trivial⟩ ⟨frOne rfl rfl,trivial⟩ trivial rfl rfl (ho1 ⟨_,rfl⟩) (hu1 rfl) rfl rfl ?_
      refine gF trivial rfl rfl rfl rfl rfl ?_
      refine gT trivial rfl rfl rfl rfl rfl rfl rfl rfl rfl rfl (Nat.le_of_ble_eq_true rfl) rfl ?_
      refine rg_nil nofun ?_
      refine vc_seq ?_
      refine vc_region hm ?_
      refine gL trivial rfl rfl rfl rfl rfl rfl rfl rfl ?_
      refine gT trivial rfl rfl rfl rfl rfl rfl rfl rfl rfl rfl (Nat.le_of_ble_eq_true rfl) rfl ?_
      refine rg_nil nofun ?_
      refine vc_ret ?_
      exact ⟨mkF (vRq ⟨x1,e3,nu,x3,x18,t5⟩) [0,2,3,4,5,6] [(1,one ⟨[.slice (some ⟨0,k,none⟩) n 0,.int .i64 (q3 + 1 + 1)],83,2⟩)] [],_,endsT [] (.inr rfl) ((.cell rfl rfl rfl rfl rfl .nil)) rfl rfl ⟨upOne rfl rfl rfl,trivial⟩ trivial rfl,⟨x1,e3,nu,x3,x18,t5⟩,_,(show t5.size≤16 by omega),(by omega),(by omega),rfl⟩
     ·skip
      have p65:=ne_of_beq_false c65
      refine vc_seq ?_
      refine vc_region hm ?_
      refine gI trivial rfl rfl rfl rfl rfl rfl ?_
      refine gM trivial (.inr rfl) rfl rfl rfl ?_
      refine rg_nil nofun ?_
      refine cI rfl (fun c71=>?_) (fun c71=>?_)
      ·skip
       have p71:=eq_of_beq c71
       refine vc_region hm ?_
       refine gM trivial (.inl rfl) rfl rfl rfl ?_
       refine gR (u':=11) (out:=rS [⟨#[]⟩,⟨#[65]⟩,⟨#[97,32,98]⟩]) trivial rfl rfl rfl rfl rfl rfl rfl rfl rfl rfl rfl rfl rfl rfl ?_
       obtain ⟨E20,hE20,t20,t20a,t20b,rfl⟩:=ofS_c (k:=k) (t0:=t0) (p:=q3 + 1) hl hn (by omega) (by omega) (L:=[⟨#[]⟩,⟨#[65]⟩,⟨#[97,32,98]⟩]) (lo:=0) (hi:=3) (by decide) (by decide)
       refine gCF (ups':=[(1,one ⟨[.slice (some ⟨0,k,none⟩) n 0,.int .i64 (q3 + 1 + 1)],83,2⟩)]) (as':=[]) (v':=.string t20) 11 [0,1,10] hE20 trivial rfl rfl rfl rfl ⟨rCode rfl rfl,rCells rfl ⟨rfl,rfl,.inr rfl⟩ rfl,rFlat (rS_flat _) rfl (.inl rfl) rfl,trivial⟩ ⟨frOne rfl rfl,trivial⟩ trivial rfl rfl (ho1 ⟨_,rfl⟩) (hu1 rfl) rfl rfl ?_
       refine gF trivial rfl rfl rfl rfl rfl ?_
       refine gT trivial rfl rfl rfl rfl rfl rfl rfl rfl rfl rfl (Nat.le_of_ble_eq_true rfl) rfl ?_
       refine rg_nil nofun ?_
       refine vc_seq ?_
       refine vc_region hm ?_
       refine gL trivial rfl rfl rfl rfl rfl rfl rfl rfl ?_
       refine gT trivial rfl rfl rfl rfl rfl rfl rfl rfl rfl rfl (Nat.le_of_ble_eq_true rfl) rfl ?_
       refine rg_nil nofun ?_
       refine vc_ret ?_
       exact ⟨mkF (vRq ⟨x1,e3,nu,x3,x4,t20⟩) [0,2,3,4,5,6] [(1,one ⟨[.slice (some ⟨0,k,none⟩) n 0,.int .i64 (q3 + 1 + 1)],83,2⟩)] [],_,endsT [] (.inr rfl) ((.cell rfl rfl rfl rfl rfl .nil)) rfl rfl ⟨upOne rfl rfl rfl,trivial⟩ trivial rfl,⟨x1,e3,nu,x3,x4,t20⟩,_,(show t20.size≤16 by omega),(by omega),(by omega),rfl⟩
      ·skip
       have p71:=ne_of_beq_false c71
       refine vc_seq ?_
       refine vc_region hm ?_
       refine gI trivial rfl rfl rfl rfl rfl rfl ?_
       refine gM trivial (.inr rfl) rfl rfl rfl ?_
       refine rg_nil nofun ?_
       refine cI rfl (fun c77=>?_) (fun c77=>?_)
       ·skip
        have p77:=eq_of_beq c77
        refine vc_region hm ?_
        refine gM trivial (.inl rfl) rfl rfl rfl ?_
        refine gR (u':=11) (out:=rI [0,-1,1001]) trivial rfl rfl rfl rfl rfl rfl rfl rfl rfl rfl rfl rfl rfl rfl ?_
        obtain ⟨E22,hE22,x22,x22a,x22b,rfl⟩:=num_c (k:=k) (t0:=t0) (p:=q3 + 1) hl hn (by omega) (by omega) (L:=[0,-1,1001]) (a:=-1) (b:=1001) (by decide) (by decide)
        refine gCF (ups':=[(1,one ⟨[.slice (some ⟨0,k,none⟩) n 0,.int .i64 (q3 + 1 + 1)],83,2⟩)]) (as':=[]) (v':=.int .i64 x22) 11 [0,1,10] hE22 trivial rfl rfl rfl rfl ⟨rCode rfl rfl,rCells rfl ⟨rfl,rfl,.inr rfl⟩ rfl,rFlat (rI_flat _) rfl (.inl rfl) rfl,trivial⟩ ⟨frOne rfl rfl,trivial⟩ trivial rfl rfl (ho1 ⟨_,rfl⟩) (hu1 rfl) rfl rfl ?_
        refine gF trivial rfl rfl rfl rfl rfl ?_
        refine gT trivial rfl rfl rfl rfl rfl rfl rfl rfl rfl rfl (Nat.le_of_ble_eq_true rfl) rfl ?_
        refine rg_nil nofun ?_
        refine vc_seq ?_
        refine vc_region hm ?_
        refine gL trivial rfl rfl rfl rfl rfl rfl rfl rfl ?_
        refine gT trivial rfl rfl rfl rfl rfl rfl rfl rfl rfl rfl (Nat.le_of_ble_eq_true rfl) rfl ?_
        refine rg_nil nofun ?_
        refine vc_ret ?_
        exact ⟨mkF (vRq ⟨x1,e3,x22,x3,x4,t5⟩) [0,2,3,4,5,6] [(1,one ⟨[.slice (some ⟨0,k,none⟩) n 0,.int .i64 (q3 + 1 + 1)],83,2⟩)] [],_,endsT [] (.inr rfl) ((.cell rfl rfl rfl rfl rfl .nil)) rfl rfl ⟨upOne rfl rfl rfl,trivial⟩ trivial rfl,⟨x1,e3,x22,x3,x4,t5⟩,_,(show t5.size≤16 by omega),(by omega),(by omega),rfl⟩
       ·skip
        have p77:=ne_of_beq_false c77
        refine vc_seq ?_
        refine vc_region hm ?_
        refine gI trivial rfl rfl rfl rfl rfl rfl ?_
        refine gM trivial (.inr rfl) rfl rfl rfl ?_
        refine rg_nil nofun ?_
        refine cI rfl (fun c83=>?_) (fun c83=>?_)
        ·skip
         have p83:=eq_of_beq c83
         refine vc_region hm ?_
         refine gM trivial (.inl rfl) rfl rfl rfl ?_
         refine gR (u':=11) (out:=rI [-1,101]) trivial rfl rfl rfl rfl rfl rfl rfl rfl rfl rfl rfl rfl rfl rfl ?_
         obtain ⟨E24,hE24,x24,x24a,x24b,rfl⟩:=num_c (k:=k) (t0:=t0) (p:=q3 + 1) hl hn (by omega) (by omega) (L:=[-1,101]) (a:=-1) (b:=101) (by decide) (by decide)
         refine gCF (ups':=[(1,one ⟨[.slice (some ⟨0,k,none⟩) n 0,.int .i64 (q3 + 1 + 1)],83,2⟩)]) (as':=[]) (v':=.int .i64 x24) 11 [0,1,10] hE24 trivial rfl rfl rfl rfl ⟨rCode rfl rfl,rCells rfl ⟨rfl,rfl,.inr rfl⟩ rfl,rFlat (rI_flat _) rfl (.inl rfl) rfl,trivial⟩ ⟨frOne rfl rfl,trivial⟩ trivial rfl rfl (ho1 ⟨_,rfl⟩) (hu1 rfl) rfl rfl ?_
         refine gF trivial rfl rfl rfl rfl rfl ?_
         refine gT trivial rfl rfl rfl rfl rfl rfl rfl rfl rfl rfl (Nat.le_of_ble_eq_true rfl) rfl ?_
         refine rg_nil nofun ?_
         refine vc_seq ?_
         refine vc_region hm ?_
         refine gL trivial rfl rfl rfl rfl rfl rfl rfl rfl ?_
         refine gT trivial rfl rfl rfl rfl rfl rfl rfl rfl rfl rfl (Nat.le_of_ble_eq_true rfl) rfl ?_
         refine rg_nil nofun ?_
         refine vc_ret ?_
         exact ⟨mkF (vRq ⟨x1,x24,nu,x3,x4,t5⟩) [0,2,3,4,5,6] [(1,one ⟨[.slice (some ⟨0,k,none⟩) n 0,.int .i64 (q3 + 1 + 1)],83,2⟩)] [],_,endsT [] (.inr rfl) ((.cell rfl rfl rfl rfl rfl .nil)) rfl rfl ⟨upOne rfl rfl rfl,trivial⟩ trivial rfl,⟨x1,x24,nu,x3,x4,t5⟩,_,(show t5.size≤16 by omega),(by omega),(by omega),rfl⟩
        ·skip
         have p83:=ne_of_beq_false c83
         refine vc_skip ?_
         refine vc_seq ?_
         refine vc_region hm ?_
         refine gL trivial rfl rfl rfl rfl rfl rfl rfl rfl ?_
         refine gT trivial rfl rfl rfl rfl rfl rfl rfl rfl rfl rfl (Nat.le_of_ble_eq_true rfl) rfl ?_
         refine rg_nil nofun ?_
         refine vc_ret ?_
         exact ⟨mkF (vRq ⟨x1,e3,nu,x3,x4,t5⟩) [0,2,3,4,5,6] [(1,one ⟨[.slice (some ⟨0,k,none⟩) n 0,.int .i64 (q3 + 1)],83,2⟩)] [],_,endsT [] (.inr rfl) ((.cell rfl rfl rfl rfl rfl .nil)) rfl rfl ⟨upOne rfl rfl rfl,trivial⟩ trivial rfl,⟨x1,e3,nu,x3,x4,t5⟩,_,(show t5.size≤16 by omega),(by omega),(by omega),rfl⟩
end Go.Proofs.Ytmekkapacbdbeaa.A

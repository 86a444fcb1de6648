/- Part 4 of the proof of FnLockBars: words, contracts of callees, plain lemmas. -/
import Derived.Test.YtbgehlihpkefmaaZLLockBars3
set_option maxHeartbeats 8000000
set_option maxRecDepth 100000
set_option linter.unusedVariables false
set_option linter.unusedSimpArgs false
namespace Go.Proofs.Ytbgehlihpkefmaa.A
open Go Go.RowKit
set_option maxHeartbeats 4000000
theorem FnLockBars_c {l:List Int} {k:Nat} (hl:ByL l) (hl9:l.length≤9223372036854775807):FDoes Try.prog 9 [.slice (some ⟨0,k,none⟩) l.length 0] (hp [(0,false,one ⟨hls k (rY l),capT + l.length,0⟩)]) { v:=.bool true,rd:=[0] }:=by
 have hm:Try.prog.follows .mixedOrders=true:=by kernel_rfl
 have hd_:∀ x_ ∈ ([(0,false,one ⟨hls k (rY l),capT + l.length,0⟩)]:List (Nat × Bool × Fam)),∀ k_ y_,x_.2.2 k_=some y_→DetB (lt 1) y_:=by
  intro x_ hx k_ y_ e
  simp only [List.mem_cons,List.not_mem_nil,or_false] at hx
  subst hx
  exact det_code e
 refine fn_exact (u0:=1) Try.func9 rfl rfl (gets rfl rfl rfl hd_ rfl) ?_
 clear hd_
 refine vc_seq ?_
 refine vc_region hm ?_
 refine gM trivial (.inr rfl) rfl rfl rfl ?_
 refine rg_nil nofun ?_
 refine vc_seq ?_
 refine vc_seq ?_
 refine vc_region hm ?_
 refine gM trivial (.inl rfl) rfl rfl rfl ?_
 refine gK trivial rfl rfl rfl rfl rfl rfl (hls_nil fun e=>rY_nil e) ?_
 refine gI trivial rfl rfl rfl rfl rfl rfl ?_
 refine rg_nil nofun ?_
 refine cI rfl (fun c15=>?_) (fun c15=>?_)
 ·skip
  have p15:=of_decide_eq_true c15
  refine vc_seq ?_
  refine vc_region hm ?_
  refine gM trivial (.inr rfl) rfl rfl rfl ?_
  refine rg_nil nofun ?_
  refine vc_ret ?_
  exact ⟨idm,ends0 (.inr rfl) rfl (eqB rfl) rfl rfl rfl⟩
 ·skip
  have p15:=of_decide_eq_false c15
  refine vc_skip ?_
  refine vc_seq ?_
  refine vc_region hm ?_
  refine gM trivial (.inl rfl) rfl rfl rfl ?_
  obtain ⟨E2,hE2,M,kk,cc,who,write,sp,ma,mb,rfl⟩:=drawBars_c (l:=l) (k:=k) hl
  have hT:M.length≤1048576:=by omega
  have hB:∀ h ∈ M,h.r.length≤1048576∧h.w.length≤1048576:=fun h hh=>by have:=mb h hh;omega
  refine gCF (ups':=[]) (as':=[(1,one ⟨hls kk (rHv (tabV 2 zo M)),46,0⟩),(2,inF zo 28 77 M)]) (v':=.tuple #[.slice (some ⟨1,kk,none⟩) M.length cc,.int .i64 who,.bool write,vSp sp]) 3 [0,1,2] hE2 trivial rfl rfl rfl rfl ⟨rCode rfl rfl,trivial⟩ trivial ⟨frTab rfl rfl rfl,frIn rfl,trivial⟩ rfl rfl (fun x hx=>nomatch hx) (fun x hx=>nomatch hx) rfl rfl ?_
  refine gM trivial (.inl rfl) rfl rfl rfl ?_
  refine gE trivial rfl rfl rfl rfl rfl rfl ?_
  refine gE trivial rfl rfl rfl rfl rfl rfl ?_
  refine gE trivial rfl rfl rfl rfl rfl rfl ?_
  refine gE trivial rfl rfl rfl rfl rfl rfl ?_
  refine gZ (u':=4) trivial rfl rfl rfl rfl rfl rfl rfl rfl ?_
  refine gM trivial (.inr rfl) rfl rfl rfl ?_
  refine gM trivial (.inr rfl) rfl rfl rfl ?_
  refine gM trivial (.inr rfl) rfl rfl rfl ?_
  refine gT trivial rfl rfl rfl rfl rfl rfl rfl rfl rfl rfl (Nat.le_of_ble_eq_true rfl) rfl ?_
  refine rg_nil nofun ?_
  refine vc_seq ?_
  refine vc_region hm ?_
  refine gM trivial (.inl rfl) rfl rfl rfl ?_
  refine gM trivial (.inl rfl) rfl rfl rfl ?_
  refine gM trivial (.inl rfl) rfl rfl rfl ?_
  refine gL trivial rfl rfl rfl rfl rfl rfl rfl rfl ?_
  refine gCT (as':=[(4,one ⟨rI (lockBars M who write sp),3,1⟩)]) (v':=.slice (some ⟨4,0,none⟩) (lockBars M who write sp).length 0) 5 [nA (nm 1 (0)),nF 2,nF 4] [1,2] (impl_LockBars_c (T:=M) (who:=who) (write:=write) (s:=sp) (kk:=kk) (cc:=cc) hT hB) trivial rfl rfl rfl rfl rfl ⟨aTab (k:=kk) rfl rfl rfl rfl (.inl rfl) (.inl rfl) rfl rfl,aIn rfl rfl (.inl rfl) (.inl rfl) rfl,trivial⟩ ⟨rFlatT (rI_flat _) rfl,trivial⟩ ⟨rfl,rfl⟩ rfl rfl rfl ?_
  refine gM trivial (.inr rfl) rfl rfl rfl ?_
  refine rg_nil nofun ?_
  refine vc_seq ?_
  refine vc_seq ?_
  refine vc_region hm ?_
  refine gM trivial (.inl rfl) rfl rfl rfl ?_
  refine gM trivial (.inl rfl) rfl rfl rfl ?_
  refine gM trivial (.inl rfl) rfl rfl rfl ?_
  refine gM trivial (.inl rfl) rfl rfl rfl ?_
  refine gL trivial rfl rfl rfl rfl rfl rfl rfl rfl ?_
  refine gCT (as':=[(5,one ⟨rI (lockBars M who write sp),3,1⟩)]) (v':=.slice (some ⟨5,0,none⟩) (lockBars M who write sp).length 0) 6 [nA (nm 1 (0)),nF 2,nF 5] [1,2] (spec_LockBars_c (T:=M) (who:=who) (write:=write) (s:=sp) (kk:=kk) (cc:=cc) hT hB) trivial rfl rfl rfl rfl rfl ⟨aTab (k:=kk) rfl rfl rfl rfl (.inl rfl) (.inl rfl) rfl rfl,aIn rfl rfl (.inl rfl) (.inl rfl) rfl,trivial⟩ ⟨rFlatT (rI_flat _) rfl,trivial⟩ ⟨rfl,rfl⟩ rfl rfl rfl ?_
  refine gCT0 [nA (nm 4 (0)),nA (nm 5 (0))] [4,5] (wpNums_c (a:=(lockBars M who write sp)) (b:=(lockBars M who write sp)) (lbars_len hT)) trivial rfl rfl rfl rfl rfl ⟨aRow rfl (rI_flat _) rfl rfl (.inl rfl) (.inl rfl) rfl,aRow rfl (rI_flat _) rfl rfl (.inl rfl) (.inl rfl) rfl,trivial⟩ rfl rfl rfl rfl ?_
  refine gN trivial rfl rfl rfl rfl ?_
  refine rg_nil nofun ?_
  refine cF rfl (notT (decide_eq_true rfl)) ?_
  refine vc_skip ?_
  refine vc_seq ?_
  refine vc_seq ?_
  refine vc_region hm ?_
  refine gM trivial (.inl rfl) rfl rfl rfl ?_
  refine gCT0 [nA (nm 1 (0)),nF 2] [1,2] (spec_LockOk_c (T:=M) (kk:=kk) (cc:=cc) hT hB) trivial rfl rfl rfl rfl rfl ⟨aTab (k:=kk) rfl rfl rfl rfl (.inl rfl) (.inl rfl) rfl rfl,aIn rfl rfl (.inl rfl) (.inl rfl) rfl,trivial⟩ rfl rfl rfl rfl ?_
  refine gN trivial rfl rfl rfl rfl ?_
  refine gM trivial (.inl rfl) rfl rfl rfl ?_
  refine gI2 (d:=39) rfl (fun c39=>?_) (fun c39=>?_)
  ·skip
   have n39:=unT c39
   refine gO ⟨_,_,rfl,rfl,c39⟩ rfl rfl ?_
   refine gO ⟨_,_,rfl,rfl,c39⟩ rfl rfl ?_
   refine gPT trivial rfl rfl c39 rfl rfl rfl ?_
   refine gM trivial (.inl rfl) rfl rfl rfl ?_
   refine gO ⟨_,_,rfl,rfl,rfl⟩ rfl rfl ?_
   refine gO ⟨_,_,rfl,rfl,rfl⟩ rfl rfl ?_
   refine gPT trivial rfl rfl rfl rfl rfl rfl ?_
   refine gM trivial (.inl rfl) rfl rfl rfl ?_
   refine gO ⟨_,_,rfl,rfl,rfl⟩ rfl rfl ?_
   refine gO ⟨_,_,rfl,rfl,rfl⟩ rfl rfl ?_
   refine gO ⟨_,_,rfl,rfl,rfl⟩ rfl rfl ?_
   refine gPT trivial rfl rfl rfl rfl rfl rfl ?_
   refine rg_nil nofun ?_
   refine cT rfl rfl ?_
   refine vc_seq ?_
   refine vc_region hm ?_
   refine gM trivial (.inl rfl) rfl rfl rfl ?_
   refine gK trivial rfl rfl rfl rfl rfl rfl rI_nil ?_
   refine gI trivial rfl rfl rfl rfl rfl rfl ?_
   refine gM trivial (.inr rfl) rfl rfl rfl ?_
   refine rg_nil nofun ?_
   refine vc_ret ?_
   exact ⟨idm,ends0 (.inr rfl) rfl (eqB (bars_no (.inl n39)).symm) rfl rfl rfl⟩
  ·skip
   have n39:=unF c39
   refine gM ⟨_,_,rfl,rfl,c39⟩ (.inl rfl) rfl rfl rfl ?_
   refine gI ⟨_,_,rfl,rfl,c39⟩ rfl rfl rfl rfl rfl rfl ?_
   refine gPF trivial rfl rfl c39 rfl rfl rfl ?_
   refine gM trivial (.inl rfl) rfl rfl rfl ?_
   refine gI2 (d:=43) rfl (fun c43=>?_) (fun c43=>?_)
   ·skip
    have p43:=of_decide_eq_true c43
    refine gO ⟨_,_,rfl,rfl,c43⟩ rfl rfl ?_
    refine gO ⟨_,_,rfl,rfl,c43⟩ rfl rfl ?_
    refine gPT trivial rfl rfl c43 rfl rfl rfl ?_
    refine gM trivial (.inl rfl) rfl rfl rfl ?_
    refine gO ⟨_,_,rfl,rfl,rfl⟩ rfl rfl ?_
    refine gO ⟨_,_,rfl,rfl,rfl⟩ rfl rfl ?_
    refine gO ⟨_,_,rfl,rfl,rfl⟩ rfl rfl ?_
    refine gPT trivial rfl rfl rfl rfl rfl rfl ?_
    refine rg_nil nofun ?_
    refine cT rfl rfl ?_
    refine vc_seq ?_
    refine vc_region hm ?_
    refine gM trivial (.inl rfl) rfl rfl rfl ?_
    refine gK trivial rfl rfl rfl rfl rfl rfl rI_nil ?_
    refine gI trivial rfl rfl rfl rfl rfl rfl ?_
    refine gM trivial (.inr rfl) rfl rfl rfl ?_
    refine rg_nil nofun ?_
    refine vc_ret ?_
    exact ⟨idm,ends0 (.inr rfl) rfl (eqB (bars_no (.inr (.inl (by omega)))).symm) rfl rfl rfl⟩
   ·skip
    have p43:=of_decide_eq_false c43
    refine gM ⟨_,_,rfl,rfl,c43⟩ (.inl rfl) rfl rfl rfl ?_
    refine gI ⟨_,_,rfl,rfl,c43⟩ rfl rfl rfl rfl rfl rfl ?_
    refine gPF trivial rfl rfl c43 rfl rfl rfl ?_
    refine gM trivial (.inl rfl) rfl rfl rfl ?_
    refine gI2 (d:=47) rfl (fun c47=>?_) (fun c47=>?_)
    ·skip
     have p47:=of_decide_eq_true c47
     refine gO ⟨_,_,rfl,rfl,c47⟩ rfl rfl ?_
     refine gO ⟨_,_,rfl,rfl,c47⟩ rfl rfl ?_
     refine gO ⟨_,_,rfl,rfl,c47⟩ rfl rfl ?_
     refine gPT trivial rfl rfl c47 rfl rfl rfl ?_
     refine rg_nil nofun ?_
     refine cT rfl rfl ?_
     refine vc_seq ?_
     refine vc_region hm ?_
     refine gM trivial (.inl rfl) rfl rfl rfl ?_
     refine gK trivial rfl rfl rfl rfl rfl rfl rI_nil ?_
     refine gI trivial rfl rfl rfl rfl rfl rfl ?_
     refine gM trivial (.inr rfl) rfl rfl rfl ?_
     refine rg_nil nofun ?_
     refine vc_ret ?_
     exact ⟨idm,ends0 (.inr rfl) rfl (eqB (bars_no (.inr (.inl (by omega)))).symm) rfl rfl rfl⟩
    ·skip
     have p47:=of_decide_eq_false c47
     refine gL ⟨_,_,rfl,rfl,c47⟩ rfl rfl rfl rfl rfl rfl rfl rfl ?_
     refine gC0 [] (spec_SpanOk_c sp) ⟨_,_,rfl,rfl,c47⟩ rfl rfl rfl rfl (by trivial) rfl rfl rfl rfl rfl ?_
     refine gN ⟨_,_,rfl,rfl,c47⟩ rfl rfl rfl rfl ?_
     refine gPF trivial rfl rfl c47 rfl rfl rfl ?_
     refine rg_nil nofun ?_
     refine cI rfl (fun c51=>?_) (fun c51=>?_)
     ·skip
      have n51:=unT c51
      refine vc_seq ?_
      refine vc_region hm ?_
      refine gM trivial (.inl rfl) rfl rfl rfl ?_
      refine gK trivial rfl rfl rfl rfl rfl rfl rI_nil ?_
      refine gI trivial rfl rfl rfl rfl rfl rfl ?_
      refine gM trivial (.inr rfl) rfl rfl rfl ?_
      refine rg_nil nofun ?_
      refine vc_ret ?_
      exact ⟨idm,ends0 (.inr rfl) rfl (eqB (bars_no (.inr (.inr n51))).symm) rfl rfl rfl⟩
     ·skip
      have n51:=unF c51
      refine vc_skip ?_
      refine vc_seq ?_
      refine vc_region hm ?_
      refine gM trivial (.inr rfl) rfl rfl rfl ?_
      refine rg_nil nofun ?_
      refine vc_seq ?_
      refine vc_region hm ?_
      refine gM trivial (.inl rfl) rfl rfl rfl ?_
      refine gM trivial (.inr rfl) rfl rfl rfl ?_
      refine rg_nil nofun ?_
      refine vc_seq ?_
      refine vc_seq ?_
      refine vc_region hm ?_
      refine gM trivial (.inr rfl) rfl rfl rfl ?_
      refine rg_nil nofun ?_
      refine vc_block ?_
      refine vc_loopT (fun n_ S_=>(∃ (n:Nat),(∀ m,m<n→barB M who write sp m=false)∧n≤3∧n_=3 - n∧S_=⟨6,[(3,.slice (some ⟨1,kk,none⟩) M.length cc),(4,.int .i64 who),(5,.bool write),(6,.pointer (some ⟨3,0,none⟩)),(7,.slice (some ⟨4,0,none⟩) (lockBars M who write sp).length 0),(8,.int .i64 ((barsL M who write sp n).length:Int)),(9,.slice (some ⟨1,kk,none⟩) M.length cc),(10,.int .i64 n)],[(0,false,one ⟨hls k (rY l),capT + l.length,0⟩),(1,true,one ⟨hls kk (rHv (tabV 2 zo M)),46,0⟩),(2,true,inF zo 28 77 M),(3,true,one ⟨[.int .i64 sp.lo,.int .i64 sp.hi],28,2⟩),(4,true,one ⟨rI (lockBars M who write sp),3,1⟩)]⟩)∨(∃ (T:List Ho) (k3 c3 n:Nat),BO M who write sp T n∧n≤3∧n_=3 - n∧S_=⟨8,[(3,.slice (some ⟨1,kk,none⟩) M.length cc),(4,.int .i64 who),(5,.bool write),(6,.pointer (some ⟨3,0,none⟩)),(7,.slice (some ⟨4,0,none⟩) (lockBars M who write sp).length 0),(8,.int .i64 ((barsL M who write sp n).length:Int)),(9,.slice (some ⟨6,k3,none⟩) T.length c3),(10,.int .i64 n)],[(0,false,one ⟨hls k (rY l),capT + l.length,0⟩),(1,true,one ⟨hls kk (rHv (tabV 2 zo M)),46,0⟩),(2,true,inF zo 28 77 M),(3,true,one ⟨[.int .i64 sp.lo,.int .i64 sp.hi],28,2⟩),(4,true,one ⟨rI (lockBars M who write sp),3,1⟩),(6,true,one ⟨hls k3 (rHv (tabV 7 zo T)),46,0⟩),(7,true,inF zo 28 77 T)]⟩)) (.inl ⟨0,(fun m hm=>absurd hm (Nat.not_lt_zero m)),(Nat.zero_le _),rfl,rfl⟩) (re_nil (ms:=[0,1,2,3,4,5]) (C:=999) rfl ⟨⟨⟨rfl,rfl⟩,rfl⟩,⟨⟨rfl,rfl⟩,rfl⟩,⟨⟨rfl,rfl⟩,rfl⟩,⟨⟨rfl,rfl⟩,rfl⟩,⟨⟨rfl,rfl⟩,rfl⟩,⟨⟨rfl,rfl⟩,rfl⟩,⟨⟨rfl,rfl⟩,rfl⟩,⟨⟨rfl,rfl⟩,rfl⟩,trivial⟩ ⟨ktCode rfl rfl,ktTab (k:=kk) rfl rfl (.inr (.inl rfl)) id rfl rfl,ktIn rfl id rfl,ktFlat rfl rfl (.inr (.inl rfl)) id rfl,ktFlat (rI_flat _) rfl (.inr (.inl rfl)) id rfl,trivial⟩ rfl rfl (rig_of rfl) rfl) ?_
      rintro n_ S_ (⟨n,hnb,hn,rfl,rfl⟩|⟨T,k3,c3,n,hbo,hn,rfl,rfl⟩)
      ·skip
       refine vc_seq ?_
       refine vc_seq ?_
       refine vc_region hm ?_
       refine gM trivial (.inl rfl) rfl rfl rfl ?_
       refine gI trivial rfl rfl rfl rfl rfl rfl ?_
       refine rg_nil nofun ?_
       refine cI rfl (fun c57=>?_) (fun c57=>?_)
       ·skip
        have p57:=of_decide_eq_true c57
        refine vc_skip ?_
        refine vc_seq ?_
        refine vc_block ?_
        refine vc_seq ?_
        refine vc_region hm ?_
        refine gM trivial (.inr rfl) rfl rfl rfl ?_
        refine rg_nil nofun ?_
        refine vc_seq ?_
        refine vc_seq ?_
        refine vc_region hm ?_
        refine gF trivial rfl rfl rfl rfl rfl ?_
        refine gL trivial rfl rfl rfl rfl rfl rfl rfl rfl ?_
        refine gM trivial (.inr rfl) rfl rfl rfl ?_
        refine rg_nil nofun ?_
        refine vc_block ?_
        refine vc_loopT (fun n_ S_=>∃ (i:Int),sp.lo≤i∧i≤sp.hi∧n_=(sp.hi - i).toNat∧S_=⟨6,[(3,.slice (some ⟨1,kk,none⟩) M.length cc),(4,.int .i64 who),(5,.bool write),(6,.pointer (some ⟨3,0,none⟩)),(7,.slice (some ⟨4,0,none⟩) (lockBars M who write sp).length 0),(8,.int .i64 ((barsL M who write sp n).length:Int)),(9,.slice (some ⟨1,kk,none⟩) M.length cc),(10,.int .i64 n),(11,.bool (ab M who write n sp i)),(12,.int .i64 i)],[(0,false,one ⟨hls k (rY l),capT + l.length,0⟩),(1,true,one ⟨hls kk (rHv (tabV 2 zo M)),46,0⟩),(2,true,inF zo 28 77 M),(3,true,one ⟨[.int .i64 sp.lo,.int .i64 sp.hi],28,2⟩),(4,true,one ⟨rI (lockBars M who write sp),3,1⟩)]⟩) ⟨sp.lo,(Int.le_refl _),(by have:=spanOk_in n51;omega),rfl,rfl⟩ (re_nil (ms:=[0,1,2,3,4,5]) (C:=999) rfl ⟨⟨⟨rfl,rfl⟩,rfl⟩,⟨⟨rfl,rfl⟩,rfl⟩,⟨⟨rfl,rfl⟩,rfl⟩,⟨⟨rfl,rfl⟩,rfl⟩,⟨⟨rfl,rfl⟩,rfl⟩,⟨⟨rfl,rfl⟩,rfl⟩,⟨⟨rfl,rfl⟩,rfl⟩,⟨⟨rfl,rfl⟩,rfl⟩,⟨⟨rfl,eqB ab_0⟩,rfl⟩,⟨⟨rfl,rfl⟩,rfl⟩,trivial⟩ ⟨ktCode rfl rfl,ktTab (k:=kk) rfl rfl (.inr (.inl rfl)) id rfl rfl,ktIn rfl id rfl,ktFlat rfl rfl (.inr (.inl rfl)) id rfl,ktFlat (rI_flat _) rfl (.inr (.inl rfl)) id rfl,trivial⟩ rfl rfl (rig_of rfl) rfl) ?_
        rintro n_ S_ ⟨i,i0,i1,rfl,rfl⟩
        have sx:=spanOk_in n51
        have s0':0≤i:=by omega
        refine vc_seq ?_
        refine vc_seq ?_
        refine vc_region hm ?_
        refine gM trivial (.inl rfl) rfl rfl rfl ?_
        refine gF trivial rfl rfl rfl rfl rfl ?_
        refine gL trivial rfl rfl rfl rfl rfl rfl rfl rfl ?_
        refine gI trivial rfl rfl rfl rfl rfl rfl ?_
        refine rg_nil nofun ?_
        refine cI rfl (fun c65=>?_) (fun c65=>?_)
        ·skip
         have p65:=of_decide_eq_true c65
         refine vc_skip ?_
         refine vc_seq ?_
         refine vc_block ?_
         refine vc_region hm ?_
         refine gM trivial (.inl rfl) rfl rfl rfl ?_
         refine gM trivial (.inl rfl) rfl rfl rfl ?_
         refine gI2 (d:=69) rfl (fun c69=>?_) (fun c69=>?_)
         ·skip
          refine gO ⟨_,_,rfl,rfl,c69⟩ rfl rfl ?_
          refine gO ⟨_,_,rfl,rfl,c69⟩ rfl rfl ?_
          refine gO ⟨_,_,rfl,rfl,c69⟩ rfl rfl ?_
          refine gO ⟨_,_,rfl,rfl,c69⟩ rfl rfl ?_
          refine gO ⟨_,_,rfl,rfl,trivial⟩ rfl rfl ?_
          refine gO ⟨_,_,rfl,rfl,trivial⟩ rfl rfl ?_
          refine gO ⟨_,_,rfl,rfl,trivial⟩ rfl rfl ?_
          refine gO ⟨_,_,rfl,rfl,trivial⟩ rfl rfl ?_
          refine gO ⟨_,_,rfl,rfl,trivial⟩ rfl rfl ?_
          refine gO ⟨_,_,rfl,rfl,trivial⟩ rfl rfl ?_
          refine gO ⟨_,_,rfl,rfl,trivial⟩ rfl rfl ?_
          refine gO ⟨_,_,rfl,rfl,trivial⟩ rfl rfl ?_
          refine gO ⟨_,_,rfl,rfl,trivial⟩ rfl rfl ?_
          refine gO ⟨_,_,rfl,rfl,trivial⟩ rfl rfl ?_
          refine gO ⟨_,_,rfl,rfl,trivial⟩ rfl rfl ?_
          refine gO ⟨_,_,rfl,rfl,trivial⟩ rfl rfl ?_
          refine gO ⟨_,_,rfl,rfl,trivial⟩ rfl rfl ?_
          refine gO ⟨_,_,rfl,rfl,trivial⟩ rfl rfl ?_
          refine gO ⟨_,_,rfl,rfl,trivial⟩ rfl rfl ?_
          refine gO ⟨_,_,rfl,rfl,c69⟩ rfl rfl ?_
          refine gPT trivial rfl rfl c69 rfl rfl rfl ?_
          refine gM trivial (.inr rfl) rfl rfl rfl ?_
          refine rg_nil nofun ?_
          refine vc_region hm ?_
          refine gM trivial (.inl rfl) rfl rfl rfl ?_
          refine gA trivial rfl rfl rfl rfl rfl rfl (by omega) ?_
          refine gM trivial (.inr rfl) rfl rfl rfl ?_
          refine rg_nil nofun ?_
          exact lp_nextT ⟨i + 1,(by omega),(by omega),rfl,rfl⟩ (by omega) (re_nil (ms:=[0,1,2,3,4,5]) (C:=999) rfl ⟨⟨⟨rfl,rfl⟩,rfl⟩,⟨⟨rfl,rfl⟩,rfl⟩,⟨⟨rfl,rfl⟩,rfl⟩,⟨⟨rfl,rfl⟩,rfl⟩,⟨⟨rfl,rfl⟩,rfl⟩,⟨⟨rfl,rfl⟩,rfl⟩,⟨⟨rfl,rfl⟩,rfl⟩,⟨⟨rfl,rfl⟩,rfl⟩,⟨⟨rfl,eqB (ab_T s0' i0 c69)⟩,rfl⟩,⟨⟨rfl,rfl⟩,rfl⟩,trivial⟩ ⟨ktCode rfl rfl,ktTab (k:=kk) rfl rfl (.inr (.inl rfl)) id rfl rfl,ktIn rfl id rfl,ktFlat rfl rfl (.inr (.inl rfl)) id rfl,ktFlat (rI_flat _) rfl (.inr (.inl rfl)) id rfl,trivial⟩ rfl rfl (rig_of rfl) rfl)
         ·skip
          refine gM ⟨_,_,rfl,rfl,c69⟩ (.inl rfl) rfl rfl rfl ?_
          refine gM ⟨_,_,rfl,rfl,c69⟩ (.inl rfl) rfl rfl rfl ?_
          refine gI ⟨_,_,rfl,rfl,c69⟩ rfl rfl rfl rfl rfl rfl ?_
          refine gM ⟨_,_,rfl,rfl,c69⟩ (.inl rfl) rfl rfl rfl ?_
          refine gI2 (d:=73) rfl (fun c73=>?_) (fun c73=>?_)
          ·skip
           have p73:=bne_iff_ne.1 c73
           refine gM ⟨_,_,rfl,rfl,c73⟩ (.inl rfl) rfl rfl rfl ?_
           refine gM ⟨_,_,rfl,rfl,c73⟩ (.inl rfl) rfl rfl rfl ?_
           refine gM ⟨_,_,rfl,rfl,c73⟩ (.inl rfl) rfl rfl rfl ?_
           refine gC0 [] (wpAt_c i (by omega) (by omega)) ⟨_,_,rfl,rfl,c73⟩ rfl rfl rfl rfl (by trivial) rfl rfl rfl rfl rfl ?_
           refine gCT0 [nA (nm 1 (0)),nF 2] [1,2] (impl_LockMay_c (T:=M) (who:=(n:Int)) (write:=true) (s:=(spAt i)) (kk:=kk) (cc:=cc) hT hB) ⟨_,_,rfl,rfl,c73⟩ rfl rfl rfl rfl rfl ⟨aTab (k:=kk) rfl rfl rfl rfl (.inl rfl) (.inl rfl) rfl rfl,aIn rfl rfl (.inl rfl) (.inl rfl) rfl,trivial⟩ rfl rfl rfl rfl ?_
           refine gM ⟨_,_,rfl,rfl,c73⟩ (.inl rfl) rfl rfl rfl ?_
           refine gI2 (d:=79) rfl (fun c79=>?_) (fun c79=>?_)
           ·skip
            refine gO ⟨_,_,rfl,rfl,c79⟩ rfl rfl ?_
            refine gO ⟨_,_,rfl,rfl,c79⟩ rfl rfl ?_
            refine gO ⟨_,_,rfl,rfl,trivial⟩ rfl rfl ?_
            refine gO ⟨_,_,rfl,rfl,trivial⟩ rfl rfl ?_
            refine gO ⟨_,_,rfl,rfl,trivial⟩ rfl rfl ?_
            refine gO ⟨_,_,rfl,rfl,trivial⟩ rfl rfl ?_
            refine gO ⟨_,_,rfl,rfl,trivial⟩ rfl rfl ?_
            refine gO ⟨_,_,rfl,rfl,c79⟩ rfl rfl ?_
            refine gPT ⟨_,_,rfl,rfl,c73⟩ rfl rfl c79 rfl rfl rfl ?_
            refine gPT ⟨_,_,rfl,rfl,c69⟩ rfl rfl c73 rfl rfl rfl ?_
            refine gPF trivial rfl rfl c69 rfl rfl rfl ?_
            refine gM trivial (.inr rfl) rfl rfl rfl ?_
            refine rg_nil nofun ?_
            refine vc_region hm ?_
            refine gM trivial (.inl rfl) rfl rfl rfl ?_
            refine gA trivial rfl rfl rfl rfl rfl rfl (by omega) ?_
            refine gM trivial (.inr rfl) rfl rfl rfl ?_
            refine rg_nil nofun ?_
            exact lp_nextT ⟨i + 1,(by omega),(by omega),rfl,rfl⟩ (by omega) (re_nil (ms:=[0,1,2,3,4,5]) (C:=999) rfl ⟨⟨⟨rfl,rfl⟩,rfl⟩,⟨⟨rfl,rfl⟩,rfl⟩,⟨⟨rfl,rfl⟩,rfl⟩,⟨⟨rfl,rfl⟩,rfl⟩,⟨⟨rfl,rfl⟩,rfl⟩,⟨⟨rfl,rfl⟩,rfl⟩,⟨⟨rfl,rfl⟩,rfl⟩,⟨⟨rfl,rfl⟩,rfl⟩,⟨⟨rfl,eqB (ab_T2 s0' i0 c69 p73 c79)⟩,rfl⟩,⟨⟨rfl,rfl⟩,rfl⟩,trivial⟩ ⟨ktCode rfl rfl,ktTab (k:=kk) rfl rfl (.inr (.inl rfl)) id rfl rfl,ktIn rfl id rfl,ktFlat rfl rfl (.inr (.inl rfl)) id rfl,ktFlat (rI_flat _) rfl (.inr (.inl rfl)) id rfl,trivial⟩ rfl rfl (rig_of rfl) rfl)
           ·skip
            refine gM ⟨_,_,rfl,rfl,c79⟩ (.inl rfl) rfl rfl rfl ?_
            refine gM ⟨_,_,rfl,rfl,c79⟩ (.inl rfl) rfl rfl rfl ?_
            refine gI2 (d:=81) rfl (fun c81=>?_) (fun c81=>?_)
            ·skip
             refine gM ⟨_,_,rfl,rfl,c81⟩ (.inl rfl) rfl rfl rfl ?_
             refine gM ⟨_,_,rfl,rfl,c81⟩ (.inl rfl) rfl rfl rfl ?_
             refine gM ⟨_,_,rfl,rfl,c81⟩ (.inl rfl) rfl rfl rfl ?_
             refine gC0 [] (wpAt_c i (by omega) (by omega)) ⟨_,_,rfl,rfl,c81⟩ rfl rfl rfl rfl (by trivial) rfl rfl rfl rfl rfl ?_
             refine gCT0 [nA (nm 1 (0)),nF 2] [1,2] (impl_LockMay_c (T:=M) (who:=(n:Int)) (write:=false) (s:=(spAt i)) (kk:=kk) (cc:=cc) hT hB) ⟨_,_,rfl,rfl,c81⟩ rfl rfl rfl rfl rfl ⟨aTab (k:=kk) rfl rfl rfl rfl (.inl rfl) (.inl rfl) rfl rfl,aIn rfl rfl (.inl rfl) (.inl rfl) rfl,trivial⟩ rfl rfl rfl rfl ?_
             refine gPT ⟨_,_,rfl,rfl,c79⟩ rfl rfl c81 rfl rfl rfl ?_
             refine gPF ⟨_,_,rfl,rfl,c73⟩ rfl rfl c79 rfl rfl rfl ?_
             refine gPT ⟨_,_,rfl,rfl,c69⟩ rfl rfl c73 rfl rfl rfl ?_
             refine gPF trivial rfl rfl c69 rfl rfl rfl ?_
             refine gM trivial (.inr rfl) rfl rfl rfl ?_
             refine rg_nil nofun ?_
             refine vc_region hm ?_
             refine gM trivial (.inl rfl) rfl rfl rfl ?_
             refine gA trivial rfl rfl rfl rfl rfl rfl (by omega) ?_
             refine gM trivial (.inr rfl) rfl rfl rfl ?_
             refine rg_nil nofun ?_
             exact lp_nextT ⟨i + 1,(by omega),(by omega),rfl,rfl⟩ (by omega) (re_nil (ms:=[0,1,2,3,4,5]) (C:=999) rfl ⟨⟨⟨rfl,rfl⟩,rfl⟩,⟨⟨rfl,rfl⟩,rfl⟩,⟨⟨rfl,rfl⟩,rfl⟩,⟨⟨rfl,rfl⟩,rfl⟩,⟨⟨rfl,rfl⟩,rfl⟩,⟨⟨rfl,rfl⟩,rfl⟩,⟨⟨rfl,rfl⟩,rfl⟩,⟨⟨rfl,rfl⟩,rfl⟩,⟨⟨rfl,eqB (ab_M s0' i0 c69 p73 c79 c81)⟩,rfl⟩,⟨⟨rfl,rfl⟩,rfl⟩,trivial⟩ ⟨ktCode rfl rfl,ktTab (k:=kk) rfl rfl (.inr (.inl rfl)) id rfl rfl,ktIn rfl id rfl,ktFlat rfl rfl (.inr (.inl rfl)) id rfl,ktFlat (rI_flat _) rfl (.inr (.inl rfl)) id rfl,trivial⟩ rfl rfl (rig_of rfl) rfl)
            ·skip
             refine gO ⟨_,_,rfl,rfl,c81⟩ rfl rfl ?_
             refine gO ⟨_,_,rfl,rfl,c81⟩ rfl rfl ?_
             refine gO ⟨_,_,rfl,rfl,c81⟩ rfl rfl ?_
             refine gO ⟨_,_,rfl,rfl,c81⟩ rfl rfl ?_
             refine gO ⟨_,_,rfl,rfl,c81⟩ rfl rfl ?_
             refine gPF ⟨_,_,rfl,rfl,c79⟩ rfl rfl c81 rfl rfl rfl ?_
             refine gPF ⟨_,_,rfl,rfl,c73⟩ rfl rfl c79 rfl rfl rfl ?_
             refine gPT ⟨_,_,rfl,rfl,c69⟩ rfl rfl c73 rfl rfl rfl ?_
             refine gPF trivial rfl rfl c69 rfl rfl rfl ?_
             refine gM trivial (.inr rfl) rfl rfl rfl ?_
             refine rg_nil nofun ?_
             refine vc_region hm ?_
             refine gM trivial (.inl rfl) rfl rfl rfl ?_
             refine gA trivial rfl rfl rfl rfl rfl rfl (by omega) ?_
             refine gM trivial (.inr rfl) rfl rfl rfl ?_
             refine rg_nil nofun ?_
             exact lp_nextT ⟨i + 1,(by omega),(by omega),rfl,rfl⟩ (by omega) (re_nil (ms:=[0,1,2,3,4,5]) (C:=999) rfl ⟨⟨⟨rfl,rfl⟩,rfl⟩,⟨⟨rfl,rfl⟩,rfl⟩,⟨⟨rfl,rfl⟩,rfl⟩,⟨⟨rfl,rfl⟩,rfl⟩,⟨⟨rfl,rfl⟩,rfl⟩,⟨⟨rfl,rfl⟩,rfl⟩,⟨⟨rfl,rfl⟩,rfl⟩,⟨⟨rfl,rfl⟩,rfl⟩,⟨⟨rfl,eqB (ab_F2 s0' i0 c69 p73 c79 c81)⟩,rfl⟩,⟨⟨rfl,rfl⟩,rfl⟩,trivial⟩ ⟨ktCode rfl rfl,ktTab (k:=kk) rfl rfl (.inr (.inl rfl)) id rfl rfl,ktIn rfl id rfl,ktFlat rfl rfl (.inr (.inl rfl)) id rfl,ktFlat (rI_flat _) rfl (.inr (.inl rfl)) id rfl,trivial⟩ rfl rfl (rig_of rfl) rfl)
          ·skip
           have p73:=bne_eq_false_iff_eq.1 c73
           refine gO ⟨_,_,rfl,rfl,c73⟩ rfl rfl ?_
           refine gO ⟨_,_,rfl,rfl,c73⟩ rfl rfl ?_
           refine gO ⟨_,_,rfl,rfl,c73⟩ rfl rfl ?_
           refine gO ⟨_,_,rfl,rfl,c73⟩ rfl rfl ?_
           refine gO ⟨_,_,rfl,rfl,c73⟩ rfl rfl ?_
           refine gO ⟨_,_,rfl,rfl,c73⟩ rfl rfl ?_
           refine gO ⟨_,_,rfl,rfl,trivial⟩ rfl rfl ?_
           refine gO ⟨_,_,rfl,rfl,trivial⟩ rfl rfl ?_
           refine gO ⟨_,_,rfl,rfl,trivial⟩ rfl rfl ?_
           refine gO ⟨_,_,rfl,rfl,trivial⟩ rfl rfl ?_
           refine gO ⟨_,_,rfl,rfl,trivial⟩ rfl rfl ?_
           refine gO ⟨_,_,rfl,rfl,trivial⟩ rfl rfl ?_
           refine gO ⟨_,_,rfl,rfl,trivial⟩ rfl rfl ?_
           refine gO ⟨_,_,rfl,rfl,trivial⟩ rfl rfl ?_
           refine gO ⟨_,_,rfl,rfl,c73⟩ rfl rfl ?_
           refine gPF ⟨_,_,rfl,rfl,c69⟩ rfl rfl c73 rfl rfl rfl ?_
           refine gPF trivial rfl rfl c69 rfl rfl rfl ?_
           refine gM trivial (.inr rfl) rfl rfl rfl ?_
           refine rg_nil nofun ?_
           refine vc_region hm ?_
           refine gM trivial (.inl rfl) rfl rfl rfl ?_
           refine gA trivial rfl rfl rfl rfl rfl rfl (by omega) ?_
           refine gM trivial (.inr rfl) rfl rfl rfl ?_
           refine rg_nil nofun ?_
           exact lp_nextT ⟨i + 1,(by omega),(by omega),rfl,rfl⟩ (by omega) (re_nil (ms:=[0,1,2,3,4,5]) (C:=999) rfl ⟨⟨⟨rfl,rfl⟩,rfl⟩,⟨⟨rfl,rfl⟩,rfl⟩,⟨⟨rfl,rfl⟩,rfl⟩,⟨⟨rfl,rfl⟩,rfl⟩,⟨⟨rfl,rfl⟩,rfl⟩,⟨⟨rfl,rfl⟩,rfl⟩,⟨⟨rfl,rfl⟩,rfl⟩,⟨⟨rfl,rfl⟩,rfl⟩,⟨⟨rfl,eqB (ab_F1 s0' i0 c69 p73)⟩,rfl⟩,⟨⟨rfl,rfl⟩,rfl⟩,trivial⟩ ⟨ktCode rfl rfl,ktTab (k:=kk) rfl rfl (.inr (.inl rfl)) id rfl rfl,ktIn rfl id rfl,ktFlat rfl rfl (.inr (.inl rfl)) id rfl,ktFlat (rI_flat _) rfl (.inr (.inl rfl)) id rfl,trivial⟩ rfl rfl (rig_of rfl) rfl)
        ·skip
         have p65:=of_decide_eq_false c65
         refine vc_exit ?_
         refine vc_seq ?_
         obtain rfl:i=sp.hi:=by omega
         have eab:=ab_bar (M:=M) (who:=who) (write:=write) (n:=n) (sp:=sp) n39 (by omega) n51
         refine vc_region hm ?_
         refine gM trivial (.inl rfl) rfl rfl rfl ?_
         refine rg_nil nofun ?_
         refine cI rfl (fun c91=>?_) (fun c91=>?_)
         ·skip
          refine vc_seq ?_
          refine vc_seq ?_
          have bar:barB M who write sp n=true:=by rw [← eab];exact c91
          refine vc_region hm ?_
          refine gM trivial (.inl rfl) rfl rfl rfl ?_
          refine gM trivial (.inl rfl) rfl rfl rfl ?_
          refine gK trivial rfl rfl rfl rfl rfl rfl rI_nil ?_
          refine gI trivial rfl rfl rfl rfl rfl rfl ?_
          refine gM trivial (.inl rfl) rfl rfl rfl ?_
          refine gM ⟨_,_,rfl,rfl,(decide_eq_false (by have:=(bar_in n39 (whoOk_mk p43 p47) n51 (by omega) bar).1;omega))⟩ (.inl rfl) rfl rfl rfl ?_
          refine gM ⟨_,_,rfl,rfl,(decide_eq_false (by have:=(bar_in n39 (whoOk_mk p43 p47) n51 (by omega) bar).1;omega))⟩ (.inl rfl) rfl rfl rfl ?_
          refine gX ⟨_,_,rfl,rfl,(decide_eq_false (by have:=(bar_in n39 (whoOk_mk p43 p47) n51 (by omega) bar).1;omega))⟩ rfl rfl rfl rfl rfl rfl rfl rfl (by omega) (bar_in n39 (whoOk_mk p43 p47) n51 (by omega) bar).1 rI_ne ?_
          refine gL ⟨_,_,rfl,rfl,(decide_eq_false (by have:=(bar_in n39 (whoOk_mk p43 p47) n51 (by omega) bar).1;omega))⟩ rfl rfl rfl rfl rfl rfl rfl (lI (by omega) (bar_in n39 (whoOk_mk p43 p47) n51 (by omega) bar).1) ?_
          refine gM ⟨_,_,rfl,rfl,(decide_eq_false (by have:=(bar_in n39 (whoOk_mk p43 p47) n51 (by omega) bar).1;omega))⟩ (.inl rfl) rfl rfl rfl ?_
          refine gI ⟨_,_,rfl,rfl,(decide_eq_false (by have:=(bar_in n39 (whoOk_mk p43 p47) n51 (by omega) bar).1;omega))⟩ rfl rfl rfl rfl rfl rfl ?_
          refine gPF trivial rfl rfl (decide_eq_false (by have:=(bar_in n39 (whoOk_mk p43 p47) n51 (by omega) bar).1;omega)) rfl rfl rfl ?_
          refine rg_nil nofun ?_
          refine cF rfl (bne_eq_false_iff_eq.2 (bar_in n39 (whoOk_mk p43 p47) n51 (by omega) bar).2) ?_
          refine vc_skip ?_
          refine vc_seq ?_
          refine vc_region hm ?_
          refine gM trivial (.inl rfl) rfl rfl rfl ?_
          refine gA trivial rfl rfl rfl rfl rfl rfl (by have:=bl_len (M:=M) (who:=who) (write:=write) (sp:=sp) (n:=n);omega) ?_
          refine gM trivial (.inr rfl) rfl rfl rfl ?_
          refine rg_nil nofun ?_
          refine vc_region hm ?_
          refine gM trivial (.inl rfl) rfl rfl rfl ?_
          refine gM trivial (.inl rfl) rfl rfl rfl ?_
          refine gCT (as':=[(6,one ⟨rHv (tabV 7 zo (resT M (goK (n:Int) ⟨0,48⟩ true) (n:Int) offH)),46,2⟩),(7,inF zo 28 77 (resT M (goK (n:Int) ⟨0,48⟩ true) (n:Int) offH))]) (v':=.tuple #[.slice (some ⟨6,0,none⟩) (resT M (goK (n:Int) ⟨0,48⟩ true) (n:Int) offH).length 0,.bool (resB M (goK (n:Int) ⟨0,48⟩ true) (n:Int) offH)]) 8 [nA (nm 1 (0)),nF 2,nF 6,nF 7] [1,2] (impl_LockOff_c (T:=M) (who:=(n:Int)) (kk:=kk) (cc:=cc) hT hB) trivial rfl rfl rfl rfl rfl ⟨aTab (k:=kk) rfl rfl rfl rfl (.inl rfl) (.inl rfl) rfl rfl,aIn rfl rfl (.inr rfl) (.inr (.inl rfl)) rfl,trivial⟩ ⟨rTab rfl rfl rfl,rIn rfl,trivial⟩ ⟨rfl,rfl⟩ rfl rfl rfl ?_
          refine gM trivial (.inl rfl) rfl rfl rfl ?_
          refine gE trivial rfl rfl rfl rfl rfl rfl ?_
          refine gE trivial rfl rfl rfl rfl rfl rfl ?_
          refine gM trivial (.inr rfl) rfl rfl rfl ?_
          refine rg_nil nofun ?_
          refine vc_region hm ?_
          refine gM trivial (.inl rfl) rfl rfl rfl ?_
          refine gA trivial rfl rfl rfl rfl rfl rfl (by omega) ?_
          refine gM trivial (.inr rfl) rfl rfl rfl ?_
          refine rg_nil nofun ?_
          exact lp_nextT (.inr ⟨(resT M (goK (n:Int) ⟨0,48⟩ true) (n:Int) offH),0,0,n + 1,(bo_T (bo_nb n39 hnb) (by omega) bar),(by omega),rfl,rfl⟩) (by omega) (re_nil (ms:=[0,1,2,3,4,5,6,7]) (C:=999) rfl ⟨⟨⟨rfl,rfl⟩,rfl⟩,⟨⟨rfl,rfl⟩,rfl⟩,⟨⟨rfl,rfl⟩,rfl⟩,⟨⟨rfl,rfl⟩,rfl⟩,⟨⟨rfl,rfl⟩,rfl⟩,⟨⟨rfl,eqI (bl_T1 bar)⟩,rfl⟩,⟨⟨rfl,rfl⟩,rfl⟩,⟨⟨rfl,rfl⟩,rfl⟩,trivial⟩ ⟨ktCode rfl rfl,ktTab (k:=kk) rfl rfl (.inr (.inl rfl)) id rfl rfl,ktIn rfl id rfl,ktFlat rfl rfl (.inr (.inl rfl)) id rfl,ktFlat (rI_flat _) rfl (.inr (.inl rfl)) id rfl,ktTab (k:=0) rfl rfl (.inl rfl) id rfl rfl,ktIn rfl id rfl,trivial⟩ rfl rfl (rig_of rfl) rfl)
         ·skip
          refine vc_skip ?_
          have nbar:barB M who write sp n=false:=by rw [← eab];exact c91
          refine vc_region hm ?_
          refine gM trivial (.inl rfl) rfl rfl rfl ?_
          refine gA trivial rfl rfl rfl rfl rfl rfl (by omega) ?_
          refine gM trivial (.inr rfl) rfl rfl rfl ?_
          refine rg_nil nofun ?_
          exact lp_nextT (.inl ⟨n + 1,(nb_next hnb nbar),(by omega),rfl,rfl⟩) (by omega) (re_nil (ms:=[0,1,2,3,4,5]) (C:=999) rfl ⟨⟨⟨rfl,rfl⟩,rfl⟩,⟨⟨rfl,rfl⟩,rfl⟩,⟨⟨rfl,rfl⟩,rfl⟩,⟨⟨rfl,rfl⟩,rfl⟩,⟨⟨rfl,rfl⟩,rfl⟩,⟨⟨rfl,eqI (bl_F1 nbar)⟩,rfl⟩,⟨⟨rfl,rfl⟩,rfl⟩,⟨⟨rfl,rfl⟩,rfl⟩,trivial⟩ ⟨ktCode rfl rfl,ktTab (k:=kk) rfl rfl (.inr (.inl rfl)) id rfl rfl,ktIn rfl id rfl,ktFlat rfl rfl (.inr (.inl rfl)) id rfl,ktFlat (rI_flat _) rfl (.inr (.inl rfl)) id rfl,trivial⟩ rfl rfl (rig_of rfl) rfl)
       ·skip
        have p57:=of_decide_eq_false c57
        refine vc_exit ?_
        refine vc_seq ?_
        obtain rfl:n=3:=by omega
        refine vc_region hm ?_
        refine gM trivial (.inl rfl) rfl rfl rfl ?_
        refine gM trivial (.inl rfl) rfl rfl rfl ?_
        refine gK trivial rfl rfl rfl rfl rfl rfl rI_nil ?_
        refine gI trivial rfl rfl rfl rfl rfl rfl ?_
        refine gM trivial (.inl rfl) rfl rfl rfl ?_
        refine gM ⟨_,_,rfl,rfl,(bar_end n39 (whoOk_mk p43 p47) n51)⟩ (.inl rfl) rfl rfl rfl ?_
        refine gM ⟨_,_,rfl,rfl,(bar_end n39 (whoOk_mk p43 p47) n51)⟩ (.inl rfl) rfl rfl rfl ?_
        refine gM ⟨_,_,rfl,rfl,(bar_end n39 (whoOk_mk p43 p47) n51)⟩ (.inl rfl) rfl rfl rfl ?_
        refine gL ⟨_,_,rfl,rfl,(bar_end n39 (whoOk_mk p43 p47) n51)⟩ rfl rfl rfl rfl rfl rfl rfl rfl ?_
        refine gCT (as':=[(6,one ⟨rI (lockBars M who write sp),3,1⟩)]) (v':=.slice (some ⟨6,0,none⟩) (lockBars M who write sp).length 0) 7 [nA (nm 1 (0)),nF 2,nF 6] [1,2] (impl_LockBars_c (T:=M) (who:=who) (write:=write) (s:=sp) (kk:=kk) (cc:=cc) hT hB) ⟨_,_,rfl,rfl,(bar_end n39 (whoOk_mk p43 p47) n51)⟩ rfl rfl rfl rfl rfl ⟨aTab (k:=kk) rfl rfl rfl rfl (.inl rfl) (.inl rfl) rfl rfl,aIn rfl rfl (.inl rfl) (.inl rfl) rfl,trivial⟩ ⟨rFlatT (rI_flat _) rfl,trivial⟩ ⟨rfl,rfl⟩ rfl rfl rfl ?_
        refine gK ⟨_,_,rfl,rfl,(bar_end n39 (whoOk_mk p43 p47) n51)⟩ rfl rfl rfl rfl rfl rfl rI_nil ?_
        refine gI ⟨_,_,rfl,rfl,(bar_end n39 (whoOk_mk p43 p47) n51)⟩ rfl rfl rfl rfl rfl rfl ?_
        refine gPT trivial rfl rfl (bar_end n39 (whoOk_mk p43 p47) n51) rfl rfl rfl ?_
        refine gM trivial (.inr rfl) rfl rfl rfl ?_
        refine rg_nil nofun ?_
        refine vc_ret ?_
        exact ⟨idm,ends0 (.inr rfl) rfl (eqB (bo_end (bo_nb n39 hnb)).symm) rfl rfl rfl⟩
      ·skip
       refine vc_seq ?_
       refine vc_seq ?_
       refine vc_region hm ?_
       refine gM trivial (.inl rfl) rfl rfl rfl ?_
       refine gI trivial rfl rfl rfl rfl rfl rfl ?_
       refine rg_nil nofun ?_
       refine cI rfl (fun c57=>?_) (fun c57=>?_)
       ·skip
        have p57:=of_decide_eq_true c57
        refine vc_skip ?_
        refine vc_seq ?_
        refine vc_block ?_
        refine vc_seq ?_
        refine vc_region hm ?_
        refine gM trivial (.inr rfl) rfl rfl rfl ?_
        refine rg_nil nofun ?_
        refine vc_seq ?_
        refine vc_seq ?_
        refine vc_region hm ?_
        refine gF trivial rfl rfl rfl rfl rfl ?_
        refine gL trivial rfl rfl rfl rfl rfl rfl rfl rfl ?_
        refine gM trivial (.inr rfl) rfl rfl rfl ?_
        refine rg_nil nofun ?_
        refine vc_block ?_
        refine vc_loopT (fun n_ S_=>∃ (i:Int),sp.lo≤i∧i≤sp.hi∧n_=(sp.hi - i).toNat∧S_=⟨8,[(3,.slice (some ⟨1,kk,none⟩) M.length cc),(4,.int .i64 who),(5,.bool write),(6,.pointer (some ⟨3,0,none⟩)),(7,.slice (some ⟨4,0,none⟩) (lockBars M who write sp).length 0),(8,.int .i64 ((barsL M who write sp n).length:Int)),(9,.slice (some ⟨6,k3,none⟩) T.length c3),(10,.int .i64 n),(11,.bool (ab M who write n sp i)),(12,.int .i64 i)],[(0,false,one ⟨hls k (rY l),capT + l.length,0⟩),(1,true,one ⟨hls kk (rHv (tabV 2 zo M)),46,0⟩),(2,true,inF zo 28 77 M),(3,true,one ⟨[.int .i64 sp.lo,.int .i64 sp.hi],28,2⟩),(4,true,one ⟨rI (lockBars M who write sp),3,1⟩),(6,true,one ⟨hls k3 (rHv (tabV 7 zo T)),46,0⟩),(7,true,inF zo 28 77 T)]⟩) ⟨sp.lo,(Int.le_refl _),(by have:=spanOk_in n51;omega),rfl,rfl⟩ (re_nil (ms:=[0,1,2,3,4,5,6,7]) (C:=999) rfl ⟨⟨⟨rfl,rfl⟩,rfl⟩,⟨⟨rfl,rfl⟩,rfl⟩,⟨⟨rfl,rfl⟩,rfl⟩,⟨⟨rfl,rfl⟩,rfl⟩,⟨⟨rfl,rfl⟩,rfl⟩,⟨⟨rfl,rfl⟩,rfl⟩,⟨⟨rfl,rfl⟩,rfl⟩,⟨⟨rfl,rfl⟩,rfl⟩,⟨⟨rfl,eqB ab_0⟩,rfl⟩,⟨⟨rfl,rfl⟩,rfl⟩,trivial⟩ ⟨ktCode rfl rfl,ktTab (k:=kk) rfl rfl (.inr (.inl rfl)) id rfl rfl,ktIn rfl id rfl,ktFlat rfl rfl (.inr (.inl rfl)) id rfl,ktFlat (rI_flat _) rfl (.inr (.inl rfl)) id rfl,ktTab (k:=k3) rfl rfl (.inl rfl) id rfl rfl,ktIn rfl id rfl,trivial⟩ rfl rfl (rig_of rfl) rfl) ?_
        rintro n_ S_ ⟨i,i0,i1,rfl,rfl⟩
        have sx:=spanOk_in n51
        have s0':0≤i:=by omega
        refine vc_seq ?_
        refine vc_seq ?_
        refine vc_region hm ?_
        refine gM trivial (.inl rfl) rfl rfl rfl ?_
        refine gF trivial rfl rfl rfl rfl rfl ?_
        refine gL trivial rfl rfl rfl rfl rfl rfl rfl rfl ?_
        refine gI trivial rfl rfl rfl rfl rfl rfl ?_
        refine rg_nil nofun ?_
        refine cI rfl (fun c65=>?_) (fun c65=>?_)
        ·skip
         have p65:=of_decide_eq_true c65
         refine vc_skip ?_
         refine vc_seq ?_
         refine vc_block ?_
         refine vc_region hm ?_
         refine gM trivial (.inl rfl) rfl rfl rfl ?_
         refine gM trivial (.inl rfl) rfl rfl rfl ?_
         refine gI2 (d:=69) rfl (fun c69=>?_) (fun c69=>?_)
         ·skip
          refine gO ⟨_,_,rfl,rfl,c69⟩ rfl rfl ?_
          refine gO ⟨_,_,rfl,rfl,c69⟩ rfl rfl ?_
          refine gO ⟨_,_,rfl,rfl,c69⟩ rfl rfl ?_
          refine gO ⟨_,_,rfl,rfl,c69⟩ rfl rfl ?_
          refine gO ⟨_,_,rfl,rfl,trivial⟩ rfl rfl ?_
          refine gO ⟨_,_,rfl,rfl,trivial⟩ rfl rfl ?_
          refine gO ⟨_,_,rfl,rfl,trivial⟩ rfl rfl ?_
          refine gO ⟨_,_,rfl,rfl,trivial⟩ rfl rfl ?_
          refine gO ⟨_,_,rfl,rfl,trivial⟩ rfl rfl ?_
          refine gO ⟨_,_,rfl,rfl,trivial⟩ rfl rfl ?_
          refine gO ⟨_,_,rfl,rfl,trivial⟩ rfl rfl ?_
          refine gO ⟨_,_,rfl,rfl,trivial⟩ rfl rfl ?_
          refine gO ⟨_,_,rfl,rfl,trivial⟩ rfl rfl ?_
          refine gO ⟨_,_,rfl,rfl,trivial⟩ rfl rfl ?_
          refine gO ⟨_,_,rfl,rfl,trivial⟩ rfl rfl ?_
          refine gO ⟨_,_,rfl,rfl,trivial⟩ rfl rfl ?_
          refine gO ⟨_,_,rfl,rfl,trivial⟩ rfl rfl ?_
          refine gO ⟨_,_,rfl,rfl,trivial⟩ rfl rfl ?_
          refine gO ⟨_,_,rfl,rfl,trivial⟩ rfl rfl ?_
          refine gO ⟨_,_,rfl,rfl,c69⟩ rfl rfl ?_
          refine gPT trivial rfl rfl c69 rfl rfl rfl ?_
          refine gM trivial (.inr rfl) rfl rfl rfl ?_
          refine rg_nil nofun ?_
          refine vc_region hm ?_
          refine gM trivial (.inl rfl) rfl rfl rfl ?_
          refine gA trivial rfl rfl rfl rfl rfl rfl (by omega) ?_
          refine gM trivial (.inr rfl) rfl rfl rfl ?_
          refine rg_nil nofun ?_
          exact lp_nextT ⟨i + 1,(by omega),(by omega),rfl,rfl⟩ (by omega) (re_nil (ms:=[0,1,2,3,4,5,6,7]) (C:=999) rfl ⟨⟨⟨rfl,rfl⟩,rfl⟩,⟨⟨rfl,rfl⟩,rfl⟩,⟨⟨rfl,rfl⟩,rfl⟩,⟨⟨rfl,rfl⟩,rfl⟩,⟨⟨rfl,rfl⟩,rfl⟩,⟨⟨rfl,rfl⟩,rfl⟩,⟨⟨rfl,rfl⟩,rfl⟩,⟨⟨rfl,rfl⟩,rfl⟩,⟨⟨rfl,eqB (ab_T s0' i0 c69)⟩,rfl⟩,⟨⟨rfl,rfl⟩,rfl⟩,trivial⟩ ⟨ktCode rfl rfl,ktTab (k:=kk) rfl rfl (.inr (.inl rfl)) id rfl rfl,ktIn rfl id rfl,ktFlat rfl rfl (.inr (.inl rfl)) id rfl,ktFlat (rI_flat _) rfl (.inr (.inl rfl)) id rfl,ktTab (k:=k3) rfl rfl (.inl rfl) id rfl rfl,ktIn rfl id rfl,trivial⟩ rfl rfl (rig_of rfl) rfl)
         ·skip
          refine gM ⟨_,_,rfl,rfl,c69⟩ (.inl rfl) rfl rfl rfl ?_
          refine gM ⟨_,_,rfl,rfl,c69⟩ (.inl rfl) rfl rfl rfl ?_
          refine gI ⟨_,_,rfl,rfl,c69⟩ rfl rfl rfl rfl rfl rfl ?_
          refine gM ⟨_,_,rfl,rfl,c69⟩ (.inl rfl) rfl rfl rfl ?_
          refine gI2 (d:=73) rfl (fun c73=>?_) (fun c73=>?_)
          ·skip
           have p73:=bne_iff_ne.1 c73
           refine gM ⟨_,_,rfl,rfl,c73⟩ (.inl rfl) rfl rfl rfl ?_
           refine gM ⟨_,_,rfl,rfl,c73⟩ (.inl rfl) rfl rfl rfl ?_
           refine gM ⟨_,_,rfl,rfl,c73⟩ (.inl rfl) rfl rfl rfl ?_
           refine gC0 [] (wpAt_c i (by omega) (by omega)) ⟨_,_,rfl,rfl,c73⟩ rfl rfl rfl rfl (by trivial) rfl rfl rfl rfl rfl ?_
           refine gCT0 [nA (nm 1 (0)),nF 2] [1,2] (impl_LockMay_c (T:=M) (who:=(n:Int)) (write:=true) (s:=(spAt i)) (kk:=kk) (cc:=cc) hT hB) ⟨_,_,rfl,rfl,c73⟩ rfl rfl rfl rfl rfl ⟨aTab (k:=kk) rfl rfl rfl rfl (.inl rfl) (.inl rfl) rfl rfl,aIn rfl rfl (.inl rfl) (.inl rfl) rfl,trivial⟩ rfl rfl rfl rfl ?_
           refine gM ⟨_,_,rfl,rfl,c73⟩ (.inl rfl) rfl rfl rfl ?_
           refine gI2 (d:=79) rfl (fun c79=>?_) (fun c79=>?_)
           ·skip
            refine gO ⟨_,_,rfl,rfl,c79⟩ rfl rfl ?_
            refine gO ⟨_,_,rfl,rfl,c79⟩ rfl rfl ?_
            refine gO ⟨_,_,rfl,rfl,trivial⟩ rfl rfl ?_
            refine gO ⟨_,_,rfl,rfl,trivial⟩ rfl rfl ?_
            refine gO ⟨_,_,rfl,rfl,trivial⟩ rfl rfl ?_
            refine gO ⟨_,_,rfl,rfl,trivial⟩ rfl rfl ?_
            refine gO ⟨_,_,rfl,rfl,trivial⟩ rfl rfl ?_
            refine gO ⟨_,_,rfl,rfl,c79⟩ rfl rfl ?_
            refine gPT ⟨_,_,rfl,rfl,c73⟩ rfl rfl c79 rfl rfl rfl ?_
            refine gPT ⟨_,_,rfl,rfl,c69⟩ rfl rfl c73 rfl rfl rfl ?_
            refine gPF trivial rfl rfl c69 rfl rfl rfl ?_
            refine gM trivial (.inr rfl) rfl rfl rfl ?_
            refine rg_nil nofun ?_
            refine vc_region hm ?_
            refine gM trivial (.inl rfl) rfl rfl rfl ?_
            refine gA trivial rfl rfl rfl rfl rfl rfl (by omega) ?_
            refine gM trivial (.inr rfl) rfl rfl rfl ?_
            refine rg_nil nofun ?_
            exact lp_nextT ⟨i + 1,(by omega),(by omega),rfl,rfl⟩ (by omega) (re_nil (ms:=[0,1,2,3,4,5,6,7]) (C:=999) rfl ⟨⟨⟨rfl,rfl⟩,rfl⟩,⟨⟨rfl,rfl⟩,rfl⟩,⟨⟨rfl,rfl⟩,rfl⟩,⟨⟨rfl,rfl⟩,rfl⟩,⟨⟨rfl,rfl⟩,rfl⟩,⟨⟨rfl,rfl⟩,rfl⟩,⟨⟨rfl,rfl⟩,rfl⟩,⟨⟨rfl,rfl⟩,rfl⟩,⟨⟨rfl,eqB (ab_T2 s0' i0 c69 p73 c79)⟩,rfl⟩,⟨⟨rfl,rfl⟩,rfl⟩,trivial⟩ ⟨ktCode rfl rfl,ktTab (k:=kk) rfl rfl (.inr (.inl rfl)) id rfl rfl,ktIn rfl id rfl,ktFlat rfl rfl (.inr (.inl rfl)) id rfl,ktFlat (rI_flat _) rfl (.inr (.inl rfl)) id rfl,ktTab (k:=k3) rfl rfl (.inl rfl) id rfl rfl,ktIn rfl id rfl,trivial⟩ rfl rfl (rig_of rfl) rfl)
           ·skip
            refine gM ⟨_,_,rfl,rfl,c79⟩ (.inl rfl) rfl rfl rfl ?_
            refine gM ⟨_,_,rfl,rfl,c79⟩ (.inl rfl) rfl rfl rfl ?_
            refine gI2 (d:=81) rfl (fun c81=>?_) (fun c81=>?_)
            ·skip
             refine gM ⟨_,_,rfl,rfl,c81⟩ (.inl rfl) rfl rfl rfl ?_
             refine gM ⟨_,_,rfl,rfl,c81⟩ (.inl rfl) rfl rfl rfl ?_
             refine gM ⟨_,_,rfl,rfl,c81⟩ (.inl rfl) rfl rfl rfl ?_
             refine gC0 [] (wpAt_c i (by omega) (by omega)) ⟨_,_,rfl,rfl,c81⟩ rfl rfl rfl rfl (by trivial) rfl rfl rfl rfl rfl ?_
             refine gCT0 [nA (nm 1 (0)),nF 2] [1,2] (impl_LockMay_c (T:=M) (who:=(n:Int)) (write:=false) (s:=(spAt i)) (kk:=kk) (cc:=cc) hT hB) ⟨_,_,rfl,rfl,c81⟩ rfl rfl rfl rfl rfl ⟨aTab (k:=kk) rfl rfl rfl rfl (.inl rfl) (.inl rfl) rfl rfl,aIn rfl rfl (.inl rfl) (.inl rfl) rfl,trivial⟩ rfl rfl rfl rfl ?_
             refine gPT ⟨_,_,rfl,rfl,c79⟩ rfl rfl c81 rfl rfl rfl ?_
             refine gPF ⟨_,_,rfl,rfl,c73⟩ rfl rfl c79 rfl rfl rfl ?_
             refine gPT ⟨_,_,rfl,rfl,c69⟩ rfl rfl c73 rfl rfl rfl ?_
             refine gPF trivial rfl rfl c69 rfl rfl rfl ?_
             refine gM trivial (.inr rfl) rfl rfl rfl ?_
             refine rg_nil nofun ?_
             refine vc_region hm ?_
             refine gM trivial (.inl rfl) rfl rfl rfl ?_
             refine gA trivial rfl rfl rfl rfl rfl rfl (by omega) ?_
             refine gM trivial (.inr rfl) rfl rfl rfl ?_
             refine rg_nil nofun ?_
             exact lp_nextT ⟨i + 1,(by omega),(by omega),rfl,rfl⟩ (by omega) (re_nil (ms:=[0,1,2,3,4,5,6,7]) (C:=999) rfl ⟨⟨⟨rfl,rfl⟩,rfl⟩,⟨⟨rfl,rfl⟩,rfl⟩,⟨⟨rfl,rfl⟩,rfl⟩,⟨⟨rfl,rfl⟩,rfl⟩,⟨⟨rfl,rfl⟩,rfl⟩,⟨⟨rfl,rfl⟩,rfl⟩,⟨⟨rfl,rfl⟩,rfl⟩,⟨⟨rfl,rfl⟩,rfl⟩,⟨⟨rfl,eqB (ab_M s0' i0 c69 p73 c79 c81)⟩,rfl⟩,⟨⟨rfl,rfl⟩,rfl⟩,trivial⟩ ⟨ktCode rfl rfl,ktTab (k:=kk) rfl rfl (.inr (.inl rfl)) id rfl rfl,ktIn rfl id rfl,ktFlat rfl rfl (.inr (.inl rfl)) id rfl,ktFlat (rI_flat _) rfl (.inr (.inl rfl)) id rfl,ktTab (k:=k3) rfl rfl (.inl rfl) id rfl rfl,ktIn rfl id rfl,trivial⟩ rfl rfl (rig_of rfl) rfl)
            ·skip
             refine gO ⟨_,_,rfl,rfl,c81⟩ rfl rfl ?_
             refine gO ⟨_,_,rfl,rfl,c81⟩ rfl rfl ?_
             refine gO ⟨_,_,rfl,rfl,c81⟩ rfl rfl ?_
             refine gO ⟨_,_,rfl,rfl,c81⟩ rfl rfl ?_
             refine gO ⟨_,_,rfl,rfl,c81⟩ rfl rfl ?_
             refine gPF ⟨_,_,rfl,rfl,c79⟩ rfl rfl c81 rfl rfl rfl ?_
             refine gPF ⟨_,_,rfl,rfl,c73⟩ rfl rfl c79 rfl rfl rfl ?_
             refine gPT ⟨_,_,rfl,rfl,c69⟩ rfl rfl c73 rfl rfl rfl ?_
             refine gPF trivial rfl rfl c69 rfl rfl rfl ?_
             refine gM trivial (.inr rfl) rfl rfl rfl ?_
             refine rg_nil nofun ?_
             refine vc_region hm ?_
             refine gM trivial (.inl rfl) rfl rfl rfl ?_
             refine gA trivial rfl rfl rfl rfl rfl rfl (by omega) ?_
             refine gM trivial (.inr rfl) rfl rfl rfl ?_
             refine rg_nil nofun ?_
             exact lp_nextT ⟨i + 1,(by omega),(by omega),rfl,rfl⟩ (by omega) (re_nil (ms:=[0,1,2,3,4,5,6,7]) (C:=999) rfl ⟨⟨⟨rfl,rfl⟩,rfl⟩,⟨⟨rfl,rfl⟩,rfl⟩,⟨⟨rfl,rfl⟩,rfl⟩,⟨⟨rfl,rfl⟩,rfl⟩,⟨⟨rfl,rfl⟩,rfl⟩,⟨⟨rfl,rfl⟩,rfl⟩,⟨⟨rfl,rfl⟩,rfl⟩,⟨⟨rfl,rfl⟩,rfl⟩,⟨⟨rfl,eqB (ab_F2 s0' i0 c69 p73 c79 c81)⟩,rfl⟩,⟨⟨rfl,rfl⟩,rfl⟩,trivial⟩ ⟨ktCode rfl rfl,ktTab (k:=kk) rfl rfl (.inr (.inl rfl)) id rfl rfl,ktIn rfl id rfl,ktFlat rfl rfl (.inr (.inl rfl)) id rfl,ktFlat (rI_flat _) rfl (.inr (.inl rfl)) id rfl,ktTab (k:=k3) rfl rfl (.inl rfl) id rfl rfl,ktIn rfl id rfl,trivial⟩ rfl rfl (rig_of rfl) rfl)
          ·skip
           have p73:=bne_eq_false_iff_eq.1 c73
           refine gO ⟨_,_,rfl,rfl,c73⟩ rfl rfl ?_
           refine gO ⟨_,_,rfl,rfl,c73⟩ rfl rfl ?_
           refine gO ⟨_,_,rfl,rfl,c73⟩ rfl rfl ?_
           refine gO ⟨_,_,rfl,rfl,c73⟩ rfl rfl ?_
           refine gO ⟨_,_,rfl,rfl,c73⟩ rfl rfl ?_
           refine gO ⟨_,_,rfl,rfl,c73⟩ rfl rfl ?_
           refine gO ⟨_,_,rfl,rfl,trivial⟩ rfl rfl ?_
           refine gO ⟨_,_,rfl,rfl,trivial⟩ rfl rfl ?_
           refine gO ⟨_,_,rfl,rfl,trivial⟩ rfl rfl ?_
           refine gO ⟨_,_,rfl,rfl,trivial⟩ rfl rfl ?_
           refine gO ⟨_,_,rfl,rfl,trivial⟩ rfl rfl ?_
           refine gO ⟨_,_,rfl,rfl,trivial⟩ rfl rfl ?_
           refine gO ⟨_,_,rfl,rfl,trivial⟩ rfl rfl ?_
           refine gO ⟨_,_,rfl,rfl,trivial⟩ rfl rfl ?_
           refine gO ⟨_,_,rfl,rfl,c73⟩ rfl rfl ?_
           refine gPF ⟨_,_,rfl,rfl,c69⟩ rfl rfl c73 rfl rfl rfl ?_
           refine gPF trivial rfl rfl c69 rfl rfl rfl ?_
           refine gM trivial (.inr rfl) rfl rfl rfl ?_
           refine rg_nil nofun ?_
           refine vc_region hm ?_
           refine gM trivial (.inl rfl) rfl rfl rfl ?_
           refine gA trivial rfl rfl rfl rfl rfl rfl (by omega) ?_
           refine gM trivial (.inr rfl) rfl rfl rfl ?_
           refine rg_nil nofun ?_
           exact lp_nextT ⟨i + 1,(by omega),(by omega),rfl,rfl⟩ (by omega) (re_nil (ms:=[0,1,2,3,4,5,6,7]) (C:=999) rfl ⟨⟨⟨rfl,rfl⟩,rfl⟩,⟨⟨rfl,rfl⟩,rfl⟩,⟨⟨rfl,rfl⟩,rfl⟩,⟨⟨rfl,rfl⟩,rfl⟩,⟨⟨rfl,rfl⟩,rfl⟩,⟨⟨rfl,rfl⟩,rfl⟩,⟨⟨rfl,rfl⟩,rfl⟩,⟨⟨rfl,rfl⟩,rfl⟩,⟨⟨rfl,eqB (ab_F1 s0' i0 c69 p73)⟩,rfl⟩,⟨⟨rfl,rfl⟩,rfl⟩,trivial⟩ ⟨ktCode rfl rfl,ktTab (k:=kk) rfl rfl (.inr (.inl rfl)) id rfl rfl,ktIn rfl id rfl,ktFlat rfl rfl (.inr (.inl rfl)) id rfl,ktFlat (rI_flat _) rfl (.inr (.inl rfl)) id rfl,ktTab (k:=k3) rfl rfl (.inl rfl) id rfl rfl,ktIn rfl id rfl,trivial⟩ rfl rfl (rig_of rfl) rfl)
        ·skip
         have p65:=of_decide_eq_false c65
         refine vc_exit ?_
         refine vc_seq ?_
         obtain rfl:i=sp.hi:=by omega
         have eab:=ab_bar (M:=M) (who:=who) (write:=write) (n:=n) (sp:=sp) n39 (by omega) n51
         refine vc_region hm ?_
         refine gM trivial (.inl rfl) rfl rfl rfl ?_
         refine rg_nil nofun ?_
         refine cI rfl (fun c91=>?_) (fun c91=>?_)
         ·skip
          refine vc_seq ?_
          refine vc_seq ?_
          have bar:barB M who write sp n=true:=by rw [← eab];exact c91
          refine vc_region hm ?_
          refine gM trivial (.inl rfl) rfl rfl rfl ?_
          refine gM trivial (.inl rfl) rfl rfl rfl ?_
          refine gK trivial rfl rfl rfl rfl rfl rfl rI_nil ?_
          refine gI trivial rfl rfl rfl rfl rfl rfl ?_
          refine gM trivial (.inl rfl) rfl rfl rfl ?_
          refine gM ⟨_,_,rfl,rfl,(decide_eq_false (by have:=(bar_in n39 (whoOk_mk p43 p47) n51 (by omega) bar).1;omega))⟩ (.inl rfl) rfl rfl rfl ?_
          refine gM ⟨_,_,rfl,rfl,(decide_eq_false (by have:=(bar_in n39 (whoOk_mk p43 p47) n51 (by omega) bar).1;omega))⟩ (.inl rfl) rfl rfl rfl ?_
          refine gX ⟨_,_,rfl,rfl,(decide_eq_false (by have:=(bar_in n39 (whoOk_mk p43 p47) n51 (by omega) bar).1;omega))⟩ rfl rfl rfl rfl rfl rfl rfl rfl (by omega) (bar_in n39 (whoOk_mk p43 p47) n51 (by omega) bar).1 rI_ne ?_
          refine gL ⟨_,_,rfl,rfl,(decide_eq_false (by have:=(bar_in n39 (whoOk_mk p43 p47) n51 (by omega) bar).1;omega))⟩ rfl rfl rfl rfl rfl rfl rfl (lI (by omega) (bar_in n39 (whoOk_mk p43 p47) n51 (by omega) bar).1) ?_
          refine gM ⟨_,_,rfl,rfl,(decide_eq_false (by have:=(bar_in n39 (whoOk_mk p43 p47) n51 (by omega) bar).1;omega))⟩ (.inl rfl) rfl rfl rfl ?_
          refine gI ⟨_,_,rfl,rfl,(decide_eq_false (by have:=(bar_in n39 (whoOk_mk p43 p47) n51 (by omega) bar).1;omega))⟩ rfl rfl rfl rfl rfl rfl ?_
          refine gPF trivial rfl rfl (decide_eq_false (by have:=(bar_in n39 (whoOk_mk p43 p47) n51 (by omega) bar).1;omega)) rfl rfl rfl ?_
          refine rg_nil nofun ?_
          refine cF rfl (bne_eq_false_iff_eq.2 (bar_in n39 (whoOk_mk p43 p47) n51 (by omega) bar).2) ?_
          refine vc_skip ?_
          refine vc_seq ?_
          refine vc_region hm ?_
          refine gM trivial (.inl rfl) rfl rfl rfl ?_
          refine gA trivial rfl rfl rfl rfl rfl rfl (by have:=bl_len (M:=M) (who:=who) (write:=write) (sp:=sp) (n:=n);omega) ?_
          refine gM trivial (.inr rfl) rfl rfl rfl ?_
          refine rg_nil nofun ?_
          refine vc_region hm ?_
          refine gM trivial (.inl rfl) rfl rfl rfl ?_
          refine gM trivial (.inl rfl) rfl rfl rfl ?_
          refine gCT (as':=[(8,one ⟨rHv (tabV 9 zo (resT T (goK (n:Int) ⟨0,48⟩ true) (n:Int) offH)),46,2⟩),(9,inF zo 28 77 (resT T (goK (n:Int) ⟨0,48⟩ true) (n:Int) offH))]) (v':=.tuple #[.slice (some ⟨8,0,none⟩) (resT T (goK (n:Int) ⟨0,48⟩ true) (n:Int) offH).length 0,.bool (resB T (goK (n:Int) ⟨0,48⟩ true) (n:Int) offH)]) 10 [nA (nm 6 (0)),nF 7,nF 8,nF 9] [6,7] (impl_LockOff_c (T:=T) (who:=(n:Int)) (kk:=k3) (cc:=c3) (lk_T hbo.1) (lk_B hbo.1)) trivial rfl rfl rfl rfl rfl ⟨aTab (k:=k3) rfl rfl rfl rfl (.inl rfl) (.inl rfl) rfl rfl,aIn rfl rfl (.inr rfl) (.inr (.inl rfl)) rfl,trivial⟩ ⟨rTab rfl rfl rfl,rIn rfl,trivial⟩ ⟨rfl,rfl⟩ rfl rfl rfl ?_
          refine gM trivial (.inl rfl) rfl rfl rfl ?_
          refine gE trivial rfl rfl rfl rfl rfl rfl ?_
          refine gE trivial rfl rfl rfl rfl rfl rfl ?_
          refine gM trivial (.inr rfl) rfl rfl rfl ?_
          refine rg_nil nofun ?_
          refine vc_region hm ?_
          refine gM trivial (.inl rfl) rfl rfl rfl ?_
          refine gA trivial rfl rfl rfl rfl rfl rfl (by omega) ?_
          refine gM trivial (.inr rfl) rfl rfl rfl ?_
          refine rg_nil nofun ?_
          exact lp_nextT (.inr ⟨(resT T (goK (n:Int) ⟨0,48⟩ true) (n:Int) offH),0,0,n + 1,(bo_T hbo (by omega) bar),(by omega),rfl,rfl⟩) (by omega) (re_nil (ms:=[0,1,2,3,4,5,8,9]) (C:=999) rfl ⟨⟨⟨rfl,rfl⟩,rfl⟩,⟨⟨rfl,rfl⟩,rfl⟩,⟨⟨rfl,rfl⟩,rfl⟩,⟨⟨rfl,rfl⟩,rfl⟩,⟨⟨rfl,rfl⟩,rfl⟩,⟨⟨rfl,eqI (bl_T1 bar)⟩,rfl⟩,⟨⟨rfl,rfl⟩,rfl⟩,⟨⟨rfl,rfl⟩,rfl⟩,trivial⟩ ⟨ktCode rfl rfl,ktTab (k:=kk) rfl rfl (.inr (.inl rfl)) id rfl rfl,ktIn rfl id rfl,ktFlat rfl rfl (.inr (.inl rfl)) id rfl,ktFlat (rI_flat _) rfl (.inr (.inl rfl)) id rfl,ktTab (k:=0) rfl rfl (.inl rfl) id rfl rfl,ktIn rfl id rfl,trivial⟩ rfl rfl (rig_of rfl) rfl)
         ·skip
          refine vc_skip ?_
          have nbar:barB M who write sp n=false:=by rw [← eab];exact c91
          refine vc_region hm ?_
          refine gM trivial (.inl rfl) rfl rfl rfl ?_
          refine gA trivial rfl rfl rfl rfl rfl rfl (by omega) ?_
          refine gM trivial (.inr rfl) rfl rfl rfl ?_
          refine rg_nil nofun ?_
          exact lp_nextT (.inr ⟨T,k3,c3,n + 1,(bo_F hbo nbar),(by omega),rfl,rfl⟩) (by omega) (re_nil (ms:=[0,1,2,3,4,5,6,7]) (C:=999) rfl ⟨⟨⟨rfl,rfl⟩,rfl⟩,⟨⟨rfl,rfl⟩,rfl⟩,⟨⟨rfl,rfl⟩,rfl⟩,⟨⟨rfl,rfl⟩,rfl⟩,⟨⟨rfl,rfl⟩,rfl⟩,⟨⟨rfl,eqI (bl_F1 nbar)⟩,rfl⟩,⟨⟨rfl,rfl⟩,rfl⟩,⟨⟨rfl,rfl⟩,rfl⟩,trivial⟩ ⟨ktCode rfl rfl,ktTab (k:=kk) rfl rfl (.inr (.inl rfl)) id rfl rfl,ktIn rfl id rfl,ktFlat rfl rfl (.inr (.inl rfl)) id rfl,ktFlat (rI_flat _) rfl (.inr (.inl rfl)) id rfl,ktTab (k:=k3) rfl rfl (.inl rfl) id rfl rfl,ktIn rfl id rfl,trivial⟩ rfl rfl (rig_of rfl) rfl)
       ·skip
        have p57:=of_decide_eq_false c57
        refine vc_exit ?_
        refine vc_seq ?_
        obtain rfl:n=3:=by omega
        refine vc_region hm ?_
        refine gM trivial (.inl rfl) rfl rfl rfl ?_
        refine gM trivial (.inl rfl) rfl rfl rfl ?_
        refine gK trivial rfl rfl rfl rfl rfl rfl rI_nil ?_
        refine gI trivial rfl rfl rfl rfl rfl rfl ?_
        refine gM trivial (.inl rfl) rfl rfl rfl ?_
        refine gM ⟨_,_,rfl,rfl,(bar_end n39 (whoOk_mk p43 p47) n51)⟩ (.inl rfl) rfl rfl rfl ?_
        refine gM ⟨_,_,rfl,rfl,(bar_end n39 (whoOk_mk p43 p47) n51)⟩ (.inl rfl) rfl rfl rfl ?_
        refine gM ⟨_,_,rfl,rfl,(bar_end n39 (whoOk_mk p43 p47) n51)⟩ (.inl rfl) rfl rfl rfl ?_
        refine gL ⟨_,_,rfl,rfl,(bar_end n39 (whoOk_mk p43 p47) n51)⟩ rfl rfl rfl rfl rfl rfl rfl rfl ?_
        refine gCT (as':=[(8,one ⟨rI (lockBars T who write sp),3,1⟩)]) (v':=.slice (some ⟨8,0,none⟩) (lockBars T who write sp).length 0) 9 [nA (nm 6 (0)),nF 7,nF 8] [6,7] (impl_LockBars_c (T:=T) (who:=who) (write:=write) (s:=sp) (kk:=k3) (cc:=c3) (lk_T hbo.1) (lk_B hbo.1)) ⟨_,_,rfl,rfl,(bar_end n39 (whoOk_mk p43 p47) n51)⟩ rfl rfl rfl rfl rfl ⟨aTab (k:=k3) rfl rfl rfl rfl (.inl rfl) (.inl rfl) rfl rfl,aIn rfl rfl (.inl rfl) (.inl rfl) rfl,trivial⟩ ⟨rFlatT (rI_flat _) rfl,trivial⟩ ⟨rfl,rfl⟩ rfl rfl rfl ?_
        refine gK ⟨_,_,rfl,rfl,(bar_end n39 (whoOk_mk p43 p47) n51)⟩ rfl rfl rfl rfl rfl rfl rI_nil ?_
        refine gI ⟨_,_,rfl,rfl,(bar_end n39 (whoOk_mk p43 p47) n51)⟩ rfl rfl rfl rfl rfl rfl ?_
        refine gPT trivial rfl rfl (bar_end n39 (whoOk_mk p43 p47) n51) rfl rfl rfl ?_
        refine gM trivial (.inr rfl) rfl rfl rfl ?_
        refine rg_nil nofun ?_
        refine vc_ret ?_
        exact ⟨idm,ends0 (.inr rfl) rfl (eqB (bo_end (hbo)).symm) rfl rfl rfl⟩
theorem FnLockBars_walk {w:World} {v0:Value} {l0:List Int} {N0:Nam} {k0:Nat} (h0:CodeArg w v0 l0 N0 k0):Calls Try.prog 9 #[v0] w fun e w'=>e = .returned (.bool true)∧Below w.heap.size w w' :=
 law_done (FnLockBars_c h0.2.2.1 h0.2.2.2) (ρ:=envL [N0]) (by simp only [List.map_cons,List.map_nil,code_r3 (ns:=[N0]) (b:=0) h0 rfl (of_blt rfl)]) ⟨code_at h0 rfl (of_blt rfl),trivial⟩
end Go.Proofs.Ytbgehlihpkefmaa.A

/- Part 4 of the proof of FnLockNone: words, contracts of callees, plain lemmas. -/
import Derived.Test.YtbgehlihpkefmaaZLLockNone3
set_option maxHeartbeats 8000000
set_option maxRecDepth 100000
set_option linter.unusedVariables false
set_option linter.unusedSimpArgs false
namespace Go.Proofs.Ytbgehlihpkefmaa.A
open Go Go.RowKit
set_option maxHeartbeats 4000000
theorem impl_LockDrop_c {T:List Ho} {who:Int} {s:Sp} {kk cc:Nat} (hT:T.length≤1048576) (hB:∀ h ∈ T,h.r.length≤1048576∧h.w.length≤1048576):FDoes Try.prog 25 [.slice (some ⟨0,kk,none⟩) T.length cc,.int .i64 who,vSp s] (hp [(0,false,one ⟨hls kk (rHv (tabV 1 zo T)),46,0⟩),(1,false,inF zo 28 77 T)]) (mkF (.tuple #[.slice (some ⟨2,0,none⟩) (resT T (goK who s true) who (dropH (at_ T who) s)).length 0,.bool (resB T (goK who s true) who (dropH (at_ T who) s))]) [0,1] [] [(2,one ⟨rHv (tabV 3 zo (resT T (goK who s true) who (dropH (at_ T who) s))),46,2⟩),(3,inF zo 28 77 (resT T (goK who s true) who (dropH (at_ T who) s)))]):=by
 have hm:Try.prog.follows .mixedOrders=true:=by kernel_rfl
 have hd_:∀ x_ ∈ ([(0,false,one ⟨hls kk (rHv (tabV 1 zo T)),46,0⟩),(1,false,inF zo 28 77 T)]:List (Nat × Bool × Fam)),∀ k_ y_,x_.2.2 k_=some y_→DetB (lt 2) y_:=by
  intro x_ hx k_ y_ e
  simp only [List.mem_cons,List.not_mem_nil,or_false] at hx
  rcases hx with rfl|rfl
  ·exact det_tab (k0:=kk) rfl e
  ·exact det_in e
 refine fn_exact (u0:=2) Try.func25 rfl rfl (gets rfl rfl rfl hd_ rfl) ?_
 clear hd_
 refine vc_seq ?_
 refine vc_region hm ?_
 refine gB (u':=3) trivial rfl rfl rfl rfl rfl rfl rfl rfl ?_
 refine gM trivial (.inr rfl) rfl rfl rfl ?_
 refine gM trivial (.inr rfl) rfl rfl rfl ?_
 refine rg_nil nofun ?_
 refine vc_seq ?_
 refine vc_region hm ?_
 refine gM trivial (.inl rfl) rfl rfl rfl ?_
 refine gM trivial (.inl rfl) rfl rfl rfl ?_
 refine gL trivial rfl rfl rfl rfl rfl rfl rfl rfl ?_
 refine gCT (as':=[(3,one ⟨rHv (tabV 4 zo (resT T (goK who s true) who (dropI (at_ T who) s))),46,2⟩),(4,inF zo 28 77 (resT T (goK who s true) who (dropI (at_ T who) s)))]) (v':=.tuple #[.slice (some ⟨3,0,none⟩) (resT T (goK who s true) who (dropI (at_ T who) s)).length 0,.bool (resB T (goK who s true) who (dropI (at_ T who) s))]) 5 [nA (nm 0 (0)),nF 1,nF 3,nF 4] [0,1] (turned_drop (T:=T) (who:=who) (s:=s) (may:=true) hT hB) trivial rfl rfl rfl rfl rfl ⟨aTab (k:=kk) rfl rfl rfl rfl (.inl rfl) (.inl rfl) rfl rfl,aIn rfl rfl (.inr rfl) (.inr (.inl rfl)) rfl,trivial⟩ ⟨rTab rfl rfl rfl,rIn rfl,trivial⟩ ⟨rfl,rfl⟩ rfl rfl rfl ?_
 refine gE trivial rfl rfl rfl rfl rfl rfl ?_
 refine gE trivial rfl rfl rfl rfl rfl rfl ?_
 refine gM trivial (.inr rfl) rfl rfl rfl ?_
 refine gM trivial (.inr rfl) rfl rfl rfl ?_
 refine rg_nil nofun ?_
 refine vc_ret ?_
 rw [show (dropH (at_ T who) s)=(dropI (at_ T who) s) from rfl]
 exact ⟨_,endsT [(2,3,one ⟨rHv (tabV 3 zo (resT T (goK who s true) who (dropI (at_ T who) s))),46,2⟩),(3,4,inF zo 28 77 (resT T (goK who s true) who (dropI (at_ T who) s)))] (.inr rfl) (.tmp rfl rfl (.tmp rfl rfl .nil)) rfl rfl trivial ⟨asTab rfl rfl rfl,asIn rfl,trivial⟩ rfl⟩
theorem impl_LockOff_c {T:List Ho} {who:Int} {kk cc:Nat} (hT:T.length≤1048576) (hB:∀ h ∈ T,h.r.length≤1048576∧h.w.length≤1048576):FDoes Try.prog 28 [.slice (some ⟨0,kk,none⟩) T.length cc,.int .i64 who] (hp [(0,false,one ⟨hls kk (rHv (tabV 1 zo T)),46,0⟩),(1,false,inF zo 28 77 T)]) (mkF (.tuple #[.slice (some ⟨2,0,none⟩) (resT T (goK who ⟨0,48⟩ true) who offH).length 0,.bool (resB T (goK who ⟨0,48⟩ true) who offH)]) [0,1] [] [(2,one ⟨rHv (tabV 3 zo (resT T (goK who ⟨0,48⟩ true) who offH)),46,2⟩),(3,inF zo 28 77 (resT T (goK who ⟨0,48⟩ true) who offH))]):=by
 have hm:Try.prog.follows .mixedOrders=true:=by kernel_rfl
 have hd_:∀ x_ ∈ ([(0,false,one ⟨hls kk (rHv (tabV 1 zo T)),46,0⟩),(1,false,inF zo 28 77 T)]:List (Nat × Bool × Fam)),∀ k_ y_,x_.2.2 k_=some y_→DetB (lt 2) y_:=by
  intro x_ hx k_ y_ e
  simp only [List.mem_cons,List.not_mem_nil,or_false] at hx
  rcases hx with rfl|rfl
  ·exact det_tab (k0:=kk) rfl e
  ·exact det_in e
 refine fn_exact (u0:=2) Try.func28 rfl rfl (gets rfl rfl rfl hd_ rfl) ?_
 clear hd_
 refine vc_seq ?_
 refine vc_region hm ?_
 refine gM trivial (.inr rfl) rfl rfl rfl ?_
 refine gM trivial (.inr rfl) rfl rfl rfl ?_
 refine rg_nil nofun ?_
 refine vc_seq ?_
 refine vc_region hm ?_
 refine gM trivial (.inl rfl) rfl rfl rfl ?_
 refine gM trivial (.inl rfl) rfl rfl rfl ?_
 refine gU (out:=eSp ⟨0,48⟩) trivial rfl rfl rfl rfl rfl rfl rfl rfl ?_
 refine gCT (as':=[(2,one ⟨rHv (tabV 3 zo (resT T (goK who ⟨0,48⟩ true) who (dropH (at_ T who) ⟨0,48⟩))),46,2⟩),(3,inF zo 28 77 (resT T (goK who ⟨0,48⟩ true) who (dropH (at_ T who) ⟨0,48⟩)))]) (v':=.tuple #[.slice (some ⟨2,0,none⟩) (resT T (goK who ⟨0,48⟩ true) who (dropH (at_ T who) ⟨0,48⟩)).length 0,.bool (resB T (goK who ⟨0,48⟩ true) who (dropH (at_ T who) ⟨0,48⟩))]) 4 [nA (nm 0 (0)),nF 1,nF 2,nF 3] [0,1] (impl_LockDrop_c (T:=T) (who:=who) (s:=⟨0,48⟩) hT hB) trivial rfl rfl rfl rfl rfl ⟨aTab (k:=kk) rfl rfl rfl rfl (.inl rfl) (.inl rfl) rfl rfl,aIn rfl rfl (.inr rfl) (.inr (.inl rfl)) rfl,trivial⟩ ⟨rTab rfl rfl rfl,rIn rfl,trivial⟩ ⟨rfl,rfl⟩ rfl rfl rfl ?_
 refine gE trivial rfl rfl rfl rfl rfl rfl ?_
 refine gE trivial rfl rfl rfl rfl rfl rfl ?_
 refine gM trivial (.inr rfl) rfl rfl rfl ?_
 refine gM trivial (.inr rfl) rfl rfl rfl ?_
 refine rg_nil nofun ?_
 refine vc_ret ?_
 rw [show offH=(dropH (at_ T who) ⟨0,48⟩) from (dropI_off _).symm]
 exact ⟨_,endsT [(2,2,one ⟨rHv (tabV 3 zo (resT T (goK who ⟨0,48⟩ true) who (dropH (at_ T who) ⟨0,48⟩))),46,2⟩),(3,3,inF zo 28 77 (resT T (goK who ⟨0,48⟩ true) who (dropH (at_ T who) ⟨0,48⟩)))] (.inr rfl) (.tmp rfl rfl (.tmp rfl rfl .nil)) rfl rfl trivial ⟨asTab rfl rfl rfl,asIn rfl,trivial⟩ rfl⟩
theorem impl_LockGive_c {T:List Ho} {who:Int} {write:Bool} {s:Sp} {kk cc:Nat} (hT:T.length≤1048576) (hB:∀ h ∈ T,h.r.length≤1048576∧h.w.length≤1048576):FDoes Try.prog 31 [.slice (some ⟨0,kk,none⟩) T.length cc,.int .i64 who,.bool write,vSp s] (hp [(0,false,one ⟨hls kk (rHv (tabV 1 zo T)),46,0⟩),(1,false,inF zo 28 77 T)]) (mkF (.tuple #[.slice (some ⟨2,0,none⟩) (resT T (goK who s (decide (((lockBars T who write s).length:Int)=0))) who (giveH (at_ T who) write s)).length 0,.bool (resB T (goK who s (decide (((lockBars T who write s).length:Int)=0))) who (giveH (at_ T who) write s))]) [0,1] [] [(2,one ⟨rHv (tabV 3 zo (resT T (goK who s (decide (((lockBars T who write s).length:Int)=0))) who (giveH (at_ T who) write s))),46,2⟩),(3,inF zo 28 77 (resT T (goK who s (decide (((lockBars T who write s).length:Int)=0))) who (giveH (at_ T who) write s)))]):=by
 have hm:Try.prog.follows .mixedOrders=true:=by kernel_rfl
 have hd_:∀ x_ ∈ ([(0,false,one ⟨hls kk (rHv (tabV 1 zo T)),46,0⟩),(1,false,inF zo 28 77 T)]:List (Nat × Bool × Fam)),∀ k_ y_,x_.2.2 k_=some y_→DetB (lt 2) y_:=by
  intro x_ hx k_ y_ e
  simp only [List.mem_cons,List.not_mem_nil,or_false] at hx
  rcases hx with rfl|rfl
  ·exact det_tab (k0:=kk) rfl e
  ·exact det_in e
 refine fn_exact (u0:=2) Try.func31 rfl rfl (gets rfl rfl rfl hd_ rfl) ?_
 clear hd_
 refine vc_seq ?_
 refine vc_region hm ?_
 refine gB (u':=3) trivial rfl rfl rfl rfl rfl rfl rfl rfl ?_
 refine gB (u':=4) trivial rfl rfl rfl rfl rfl rfl rfl rfl ?_
 refine gM trivial (.inr rfl) rfl rfl rfl ?_
 refine gM trivial (.inr rfl) rfl rfl rfl ?_
 refine rg_nil nofun ?_
 refine vc_seq ?_
 refine vc_region hm ?_
 refine gM trivial (.inl rfl) rfl rfl rfl ?_
 refine gM trivial (.inl rfl) rfl rfl rfl ?_
 refine gL trivial rfl rfl rfl rfl rfl rfl rfl rfl ?_
 refine gM trivial (.inl rfl) rfl rfl rfl ?_
 refine gM trivial (.inl rfl) rfl rfl rfl ?_
 refine gL trivial rfl rfl rfl rfl rfl rfl rfl rfl ?_
 refine gL trivial rfl rfl rfl rfl rfl rfl rfl rfl ?_
 refine gCT (as':=[(4,one ⟨rI (lockBars T who write s),3,1⟩)]) (v':=.slice (some ⟨4,0,none⟩) (lockBars T who write s).length 0) 5 [nA (nm 0 (0)),nF 1,nF 4] [0,1] (impl_LockBars_c (T:=T) (who:=who) (write:=write) (s:=s) hT hB) trivial rfl rfl rfl rfl rfl ⟨aTab (k:=kk) rfl rfl rfl rfl (.inl rfl) (.inl rfl) rfl rfl,aIn rfl rfl (.inl rfl) (.inl rfl) rfl,trivial⟩ ⟨rFlatT (rI_flat _) rfl,trivial⟩ ⟨rfl,rfl⟩ rfl rfl rfl ?_
 refine gK trivial rfl rfl rfl rfl rfl rfl rI_nil ?_
 refine gI trivial rfl rfl rfl rfl rfl rfl ?_
 refine gFn trivial rfl rfl rfl rfl rfl ?_
 refine gCT (as':=[(5,one ⟨rHv (tabV 6 zo (resT T (goK who s (decide (((lockBars T who write s).length:Int)=0))) who (giveI2 (at_ T who) write s))),46,2⟩),(6,inF zo 28 77 (resT T (goK who s (decide (((lockBars T who write s).length:Int)=0))) who (giveI2 (at_ T who) write s)))]) (v':=.tuple #[.slice (some ⟨5,0,none⟩) (resT T (goK who s (decide (((lockBars T who write s).length:Int)=0))) who (giveI2 (at_ T who) write s)).length 0,.bool (resB T (goK who s (decide (((lockBars T who write s).length:Int)=0))) who (giveI2 (at_ T who) write s))]) 7 [nA (nm 0 (0)),nF 1,nA (nm 2 (0)),nF 5,nF 6] [0,1,2] (turned_give (T:=T) (who:=who) (s:=s) (may:=(decide (((lockBars T who write s).length:Int)=0))) (write:=write) hT hB) trivial rfl rfl rfl rfl rfl ⟨aTab (k:=kk) rfl rfl rfl rfl (.inl rfl) (.inl rfl) rfl rfl,aIn rfl rfl (.inr rfl) (.inr (.inl rfl)) rfl,aRow rfl rfl rfl rfl (.inr rfl) (.inr (.inl rfl)) rfl,trivial⟩ ⟨rTab rfl rfl rfl,rIn rfl,trivial⟩ ⟨rfl,rfl⟩ rfl rfl rfl ?_
 refine gE trivial rfl rfl rfl rfl rfl rfl ?_
 refine gE trivial rfl rfl rfl rfl rfl rfl ?_
 refine gM trivial (.inr rfl) rfl rfl rfl ?_
 refine gM trivial (.inr rfl) rfl rfl rfl ?_
 refine rg_nil (fun _=>by kernel_rfl) ?_
 refine vc_ret ?_
 rw [giveR,giveRB]
 exact ⟨_,endsT [(2,5,one ⟨rHv (tabV 3 zo (resT T (goK who s (decide (((lockBars T who write s).length:Int)=0))) who (giveI2 (at_ T who) write s))),46,2⟩),(3,6,inF zo 28 77 (resT T (goK who s (decide (((lockBars T who write s).length:Int)=0))) who (giveI2 (at_ T who) write s)))] (.inr rfl) (.tmp rfl rfl (.tmp rfl rfl .nil)) rfl rfl trivial ⟨asTab rfl rfl rfl,asIn rfl,trivial⟩ rfl⟩

theorem impl_LockMay_c {T:List Ho} {who:Int} {write:Bool} {s:Sp} {kk cc:Nat} (hT:T.length≤1048576) (hB:∀ h ∈ T,h.r.length≤1048576∧h.w.length≤1048576):FDoes Try.prog 17 [.slice (some ⟨0,kk,none⟩) T.length cc,.int .i64 who,.bool write,vSp s] (hp [(0,false,one ⟨hls kk (rHv (tabV 1 zo T)),46,0⟩),(1,false,inF zo 28 0 T)]) { v:=.bool (lockMay T who write s),rd:=[0,1] }:=by
 have hm:Try.prog.follows .mixedOrders=true:=by kernel_rfl
 have hd_:∀ x_ ∈ ([(0,false,one ⟨hls kk (rHv (tabV 1 zo T)),46,0⟩),(1,false,inF zo 28 0 T)]:List (Nat × Bool × Fam)),∀ k_ y_,x_.2.2 k_=some y_→DetB (lt 2) y_:=by
  intro x_ hx k_ y_ e
  simp only [List.mem_cons,List.not_mem_nil,or_false] at hx
  rcases hx with rfl|rfl
  ·exact det_tab (k0:=kk) rfl e
  ·exact det_in e
 refine fn_exact (u0:=2) Try.func17 rfl rfl (gets rfl rfl rfl hd_ rfl) ?_
 clear hd_
 refine vc_seq ?_
 refine vc_region hm ?_
 refine gB (u':=3) trivial rfl rfl rfl rfl rfl rfl rfl rfl ?_
 refine gM trivial (.inr rfl) rfl rfl rfl ?_
 refine rg_nil nofun ?_
 refine vc_seq ?_
 refine vc_seq ?_
 refine vc_region hm ?_
 refine gM trivial (.inl rfl) rfl rfl rfl ?_
 refine gCT0 [nA (nm 0 (0)),nF 1] [0,1] (impl_LockOk_c (T:=T) hT hB) trivial rfl rfl rfl rfl rfl ⟨aTab (k:=kk) rfl rfl rfl rfl (.inl rfl) (.inl rfl) rfl rfl,aIn rfl rfl (.inl rfl) (.inl rfl) rfl,trivial⟩ rfl rfl rfl rfl ?_
 refine gN trivial rfl rfl rfl rfl ?_
 refine gM trivial (.inl rfl) rfl rfl rfl ?_
 refine gI2 (d:=13) rfl (fun c13=>?_) (fun c13=>?_)
 ·skip
  have n13:=unT c13
  refine gO ⟨_,_,rfl,rfl,c13⟩ rfl rfl ?_
  refine gO ⟨_,_,rfl,rfl,c13⟩ rfl rfl ?_
  refine gO ⟨_,_,rfl,rfl,c13⟩ rfl rfl ?_
  refine gPT trivial rfl rfl c13 rfl rfl rfl ?_
  refine gM trivial (.inl rfl) rfl rfl rfl ?_
  refine gO ⟨_,_,rfl,rfl,rfl⟩ rfl rfl ?_
  refine gO ⟨_,_,rfl,rfl,rfl⟩ rfl rfl ?_
  refine gO ⟨_,_,rfl,rfl,rfl⟩ rfl rfl ?_
  refine gPT trivial rfl rfl rfl rfl rfl rfl ?_
  refine rg_nil nofun ?_
  refine cT rfl rfl ?_
  refine vc_seq ?_
  refine vc_region hm ?_
  refine gM trivial (.inr rfl) rfl rfl rfl ?_
  refine rg_nil nofun ?_
  refine vc_ret ?_
  exact ⟨idm,ends0 (.inr rfl) rfl (eqB (by first|exact lm_1 (by assumption)|exact lm_2 (by assumption)|exact lm_3 (by assumption))) rfl rfl rfl⟩
 ·skip
  have n13:=unF c13
  refine gM ⟨_,_,rfl,rfl,c13⟩ (.inl rfl) rfl rfl rfl ?_
  refine gC0 [] (client_c who) ⟨_,_,rfl,rfl,c13⟩ rfl rfl rfl rfl (by trivial) rfl rfl rfl rfl rfl ?_
  refine gN ⟨_,_,rfl,rfl,c13⟩ rfl rfl rfl rfl ?_
  refine gPF trivial rfl rfl c13 rfl rfl rfl ?_
  refine gM trivial (.inl rfl) rfl rfl rfl ?_
  refine gI2 (d:=18) rfl (fun c18=>?_) (fun c18=>?_)
  ·skip
   have n18:=unT c18
   refine gO ⟨_,_,rfl,rfl,c18⟩ rfl rfl ?_
   refine gO ⟨_,_,rfl,rfl,c18⟩ rfl rfl ?_
   refine gO ⟨_,_,rfl,rfl,c18⟩ rfl rfl ?_
   refine gPT trivial rfl rfl c18 rfl rfl rfl ?_
   refine rg_nil nofun ?_
   refine cT rfl rfl ?_
   refine vc_seq ?_
   refine vc_region hm ?_
   refine gM trivial (.inr rfl) rfl rfl rfl ?_
   refine rg_nil nofun ?_
   refine vc_ret ?_
   exact ⟨idm,ends0 (.inr rfl) rfl (eqB (by first|exact lm_1 (by assumption)|exact lm_2 (by assumption)|exact lm_3 (by assumption))) rfl rfl rfl⟩
  ·skip
   have n18:=unF c18
   refine gL ⟨_,_,rfl,rfl,c18⟩ rfl rfl rfl rfl rfl rfl rfl rfl ?_
   refine gC0 [] (impl_SpanOk_c s) ⟨_,_,rfl,rfl,c18⟩ rfl rfl rfl rfl (by trivial) rfl rfl rfl rfl rfl ?_
   refine gN ⟨_,_,rfl,rfl,c18⟩ rfl rfl rfl rfl ?_
   refine gPF trivial rfl rfl c18 rfl rfl rfl ?_
   refine rg_nil nofun ?_
   refine cI rfl (fun c22=>?_) (fun c22=>?_)
   ·skip
    have n22:=unT c22
    refine vc_seq ?_
    refine vc_region hm ?_
    refine gM trivial (.inr rfl) rfl rfl rfl ?_
    refine rg_nil nofun ?_
    refine vc_ret ?_
    exact ⟨idm,ends0 (.inr rfl) rfl (eqB (by first|exact lm_1 (by assumption)|exact lm_2 (by assumption)|exact lm_3 (by assumption))) rfl rfl rfl⟩
   ·skip
    have n22:=unF c22
    refine vc_skip ?_
    refine vc_seq ?_
    refine vc_region hm ?_
    refine gM trivial (.inl rfl) rfl rfl rfl ?_
    refine gM trivial (.inl rfl) rfl rfl rfl ?_
    refine gX trivial rfl rfl rfl rfl rfl rfl rfl rfl (by have:=whoOk_in (who:=who) (by assumption);have:=ok_3 (T:=T) (by assumption);omega) (by have:=whoOk_in (who:=who) (by assumption);have:=ok_3 (T:=T) (by assumption);omega) (fun h=>hls_ne (tabV_ne h)) ?_
    refine gF trivial rfl rfl rfl rfl rfl ?_
    refine gL trivial rfl rfl rfl rfl rfl rfl rfl (lH1k (by have:=whoOk_in (who:=who) (by assumption);have:=ok_3 (T:=T) (by assumption);omega) (by have:=whoOk_in (who:=who) (by assumption);have:=ok_3 (T:=T) (by assumption);omega)) ?_
    refine gCT0 [nA (nm 1 (2 * (who).toNat + 1))] [1] (of_c (l:=(at_ T who).w) (inB_of (okW (by assumption) (by assumption)).2) (by have:=spansOk_len (l:=(at_ T who).w) (okW (by assumption) (by assumption)).2;omega)) trivial rfl rfl rfl rfl rfl ⟨aRow rfl (rSp_flat _) rfl (inF_1 (by have:=whoOk_in (who:=who) (by assumption);have:=ok_3 (T:=T) (by assumption);omega) (by have:=whoOk_in (who:=who) (by assumption);have:=ok_3 (T:=T) (by assumption);omega)) (.inl rfl) (.inl rfl) rfl,trivial⟩ (vPl_flat _) rfl rfl rfl ?_
    refine gZ (u':=4) trivial rfl rfl rfl rfl rfl rfl rfl (show cellsL _=plL noP from rfl) ?_
    refine gT trivial rfl rfl rfl rfl rfl rfl rfl rfl rfl rfl zPl pPl ?_
    refine rg_nil nofun ?_
    refine vc_seq ?_
    refine vc_seq ?_
    refine vc_region hm ?_
    refine gM trivial (.inl rfl) rfl rfl rfl ?_
    refine gN trivial rfl rfl rfl rfl ?_
    refine rg_nil nofun ?_
    refine cI rfl (fun c30=>?_) (fun c30=>?_)
    ·skip
     have n30:=unT c30
     refine vc_region hm ?_
     refine gL trivial rfl rfl rfl rfl rfl rfl rfl wPl ?_
     refine gM trivial (.inl rfl) rfl rfl rfl ?_
     refine gM trivial (.inl rfl) rfl rfl rfl ?_
     refine gX trivial rfl rfl rfl rfl rfl rfl rfl rfl (by have:=whoOk_in (who:=who) (by assumption);have:=ok_3 (T:=T) (by assumption);omega) (by have:=whoOk_in (who:=who) (by assumption);have:=ok_3 (T:=T) (by assumption);omega) (fun h=>hls_ne (tabV_ne h)) ?_
     refine gF trivial rfl rfl rfl rfl rfl ?_
     refine gL trivial rfl rfl rfl rfl rfl rfl rfl (lH0k (by have:=whoOk_in (who:=who) (by assumption);have:=ok_3 (T:=T) (by assumption);omega) (by have:=whoOk_in (who:=who) (by assumption);have:=ok_3 (T:=T) (by assumption);omega)) ?_
     refine gCT0 [nA (nm 1 (2 * (who).toNat))] [1] (of_c (l:=(at_ T who).r) (inB_of (okW (by assumption) (by assumption)).1) (by have:=spansOk_len (l:=(at_ T who).r) (okW (by assumption) (by assumption)).1;omega)) trivial rfl rfl rfl rfl rfl ⟨aRow rfl (rSp_flat _) rfl (inF_0 (by have:=whoOk_in (who:=who) (by assumption);have:=ok_3 (T:=T) (by assumption);omega) (by have:=whoOk_in (who:=who) (by assumption);have:=ok_3 (T:=T) (by assumption);omega)) (.inl rfl) (.inl rfl) rfl,trivial⟩ (vPl_flat _) rfl rfl rfl ?_
     refine gC0 [] (put_c (ofP (at_ T who).w) (ofP (at_ T who).r) true) trivial rfl rfl rfl rfl (by trivial) rfl rfl (vPl_flat _) rfl rfl ?_
     refine gT trivial rfl rfl rfl rfl rfl rfl rfl rfl rfl rfl zPl pPl ?_
     refine rg_nil (fun _=>by kernel_rfl) ?_
     refine vc_seq ?_
     refine vc_region hm ?_
     refine gL trivial rfl rfl rfl rfl rfl rfl rfl wPl ?_
     refine gL trivial rfl rfl rfl rfl rfl rfl rfl rfl ?_
     refine gR (u':=5) (out:=rSp [s]) trivial rfl rfl rfl rfl rfl rfl rfl rfl rfl rfl rfl rfl rfl rfl ?_
     refine gC0 [4] (of_c (l:=[s]) (inB_one' (by assumption)) (show 1≤1000000 by decide)) trivial rfl rfl rfl rfl ⟨rFlat (rSp_flat [s]) rfl (.inl rfl) rfl,trivial⟩ rfl rfl (vPl_flat _) rfl rfl ?_
     refine gC0 [] (meet_c (putP (ofP (at_ T who).w) (ofP (at_ T who).r) true) (ofP [s])) trivial rfl rfl rfl rfl (by trivial) rfl rfl (vPl_flat _) rfl rfl ?_
     refine gL trivial rfl rfl rfl rfl rfl rfl rfl rfl ?_
     refine gR (u':=6) (out:=rSp [s]) trivial rfl rfl rfl rfl rfl rfl rfl rfl rfl rfl rfl rfl rfl rfl ?_
     refine gC0 [5] (of_c (l:=[s]) (inB_one' (by assumption)) (show 1≤1000000 by decide)) trivial rfl rfl rfl rfl ⟨rFlat (rSp_flat [s]) rfl (.inl rfl) rfl,trivial⟩ rfl rfl (vPl_flat _) rfl rfl ?_
     refine gEqP trivial rfl rfl rfl rfl rfl (by kernel_rfl) rfl rfl rfl rfl ?_
     refine gM trivial (.inr rfl) rfl rfl rfl ?_
     refine rg_nil (fun _=>by kernel_rfl) ?_
     refine vc_ret ?_
     exact ⟨idm,ends0 (.inr rfl) rfl (eqB ((lm_4 (by assumption) (by assumption) (by assumption)).trans (may_eqF (by assumption)).symm)) rfl rfl rfl⟩
    ·skip
     have n30:=unF c30
     refine vc_skip ?_
     refine vc_seq ?_
     refine vc_region hm ?_
     refine gL trivial rfl rfl rfl rfl rfl rfl rfl wPl ?_
     refine gL trivial rfl rfl rfl rfl rfl rfl rfl rfl ?_
     refine gR (u':=5) (out:=rSp [s]) trivial rfl rfl rfl rfl rfl rfl rfl rfl rfl rfl rfl rfl rfl rfl ?_
     refine gC0 [4] (of_c (l:=[s]) (inB_one' (by assumption)) (show 1≤1000000 by decide)) trivial rfl rfl rfl rfl ⟨rFlat (rSp_flat [s]) rfl (.inl rfl) rfl,trivial⟩ rfl rfl (vPl_flat _) rfl rfl ?_
     refine gC0 [] (meet_c (ofP (at_ T who).w) (ofP [s])) trivial rfl rfl rfl rfl (by trivial) rfl rfl (vPl_flat _) rfl rfl ?_
     refine gL trivial rfl rfl rfl rfl rfl rfl rfl rfl ?_
     refine gR (u':=6) (out:=rSp [s]) trivial rfl rfl rfl rfl rfl rfl rfl rfl rfl rfl rfl rfl rfl rfl ?_
     refine gC0 [5] (of_c (l:=[s]) (inB_one' (by assumption)) (show 1≤1000000 by decide)) trivial rfl rfl rfl rfl ⟨rFlat (rSp_flat [s]) rfl (.inl rfl) rfl,trivial⟩ rfl rfl (vPl_flat _) rfl rfl ?_
     refine gEqP trivial rfl rfl rfl rfl rfl (by kernel_rfl) rfl rfl rfl rfl ?_
     refine gM trivial (.inr rfl) rfl rfl rfl ?_
     refine rg_nil (fun _=>by kernel_rfl) ?_
     refine vc_ret ?_
     exact ⟨idm,ends0 (.inr rfl) rfl (eqB ((lm_4 (by assumption) (by assumption) (by assumption)).trans (may_eqT (by assumption)).symm)) rfl rfl rfl⟩
end Go.Proofs.Ytbgehlihpkefmaa.A
namespace Go.Proofs.Ytbgehlihpkefmaa.A
open Go Go.RowKit
open Go.Joins Go.ChangeShapes Go.WideShapes Go.Deep
def RawN (w:World) (v:Value) (N:Nam) (k n:Nat) (cs:List Value):Prop :=
 v=(if N.nil=true then zv N.z else .slice (some ⟨N.blk,k,none⟩) n (N.cap - 0))∧(if N.nil=true then hls k cs = [] else ∃ (c:Array Value) (t:TypeId) (z:Nat × Nat),w.heap[N.blk]?=some (.cells c t z)∧∀ (i:Nat) (x:Value),(hls k cs)[i]?=some x→x ≠ hole→c[i]?=some x)
theorem raw_none {w:World}:RawN w (.slice none 0 0) ⟨0,0,true,none⟩ 0 0 []:=⟨rfl,rfl⟩
theorem raw_of' {α:Type} {enc:α→List Value} {m:Nat} (he:∀ x,(enc x).length=m) (hm:0<m) {w:World} {a:Addr} {cap:Nat} {l:List α} (h:∀ i x,(rowL enc l)[i]?=some x→w.cell? (a.add i)=some x):∃ N k,RawN w (.slice (some a) l.length cap) N k l.length (rowL enc l)∧(N.nil=false→N.cap=cap):=by
 rcases l with _|⟨x,xs⟩
 ·exact ⟨⟨0,0,true,some (a,cap)⟩,0,⟨rfl,rfl⟩,fun q=>(by cases q)⟩
 ·have hp0:0<(rowL enc (x :: xs)).length:=by rw [rowL_len he,List.length_cons];exact Nat.mul_pos (Nat.succ_pos _) hm
  have h0:=h 0 _ (List.getElem?_eq_getElem hp0)
  have h1:∃ c t z,w.heap[a.block]?=some (.cells c t z)∧a.spot=none:=by
   have e:a.add 0=a:=by simp [Addr.add]
   unfold World.cell? at h0
   rw [e] at h0
   split at h0
   ·rename_i c t z hh
    refine ⟨c,t,z,hh,?_⟩
    split at h0
    ·cases h0
    ·rename_i hs;simpa using hs
   ·cases h0
  obtain ⟨c,t,z,hh,hs⟩:=h1
  obtain ⟨b,off,sp⟩:=a
  simp only at hs hh
  subst hs
  refine ⟨⟨b,cap,false,none⟩,off,⟨rfl,(if_neg Bool.false_ne_true).mpr ⟨c,t,z,hh,fun i v hv hne=>?_⟩⟩,fun _=>rfl⟩
  unfold hls at hv
  by_cases hi:i<off
  ·rw [List.getElem?_append_left (by simpa using hi)] at hv
   have:=List.mem_of_getElem? hv
   exact absurd (List.eq_of_mem_replicate this) hne
  ·rw [List.getElem?_append_right (by simpa using hi),List.length_replicate] at hv
   have:=h (i - off) v hv
   rw [add_eq,cell_eq hh] at this
   rw [← this]
   congr 1
   omega
def envL (l:List Nam):Env:=fun n=>(l[n % 1000]?).getD ⟨0,0,true,none⟩
theorem raw_atR {w:World} {v:Value} {N:Nam} {k n:Nat} {cs:List Value} {t:TypeId} {l:List Nam} {b:Nat} (h:RawN w v N k n cs) (hf:cs.all flat1=true) (hb:l[b]?=some N) (hb':b<1000) (ht:N.nil=false→t - capT≤N.cap):famAt (envL l) w b (one ⟨hls k cs,t,0⟩):=by
 intro k' x e
 obtain ⟨rfl,rfl⟩:=one_some e
 have e1:envL l (nm b 0)=N:=by unfold envL;rw [nm_mod hb',hb];rfl
 unfold blkAt
 rw [e1]
 have h2:=h.2
 cases hn:N.nil with
 | true=>rw [hn,if_pos rfl] at h2;rw [if_pos rfl];exact ⟨h2,fun q=>absurd rfl q,(by decide:0<100)⟩
 | false =>
  rw [hn,if_neg (by decide)] at h2
  rw [if_neg (by decide),if_pos rfl]
  obtain ⟨c,t',z,h3,h4⟩:=h2
  refine ⟨c,t',z,h3,fun i v hv hne=>?_,ht hn⟩
  rw [r1_flat (List.all_eq_true.1 (hls_flat (k:=k) hf) v (List.mem_of_getElem? hv))]
  exact h4 i v hv hne
theorem raw_r1 {w:World} {v:Value} {N:Nam} {k n:Nat} {cs:List Value} {l:List Nam} {b:Nat} (h:RawN w v N k n cs) (hb:l[b]?=some N) (hb':b<1000):r1 (envL l) (.slice (some ⟨b,k,none⟩) n 0)=v:=by
 show (if (envL l b).nil=true then zv (envL l b).z else .slice (some ⟨(envL l b).blk,k,none⟩) n ((envL l b).cap - 0))=v
 have e1:envL l b=N:=by unfold envL;rw [Nat.mod_eq_of_lt hb',hb];rfl
 rw [e1,h.1]
def AtL (ρ:Env) (w:World):List (Nat × Bool × Fam)→Prop
 | []=>True
 | x :: l=>famAt ρ w x.1 x.2.2∧AtL ρ w l
theorem atL_mem {ρ:Env} {w:World}:∀ {l:List (Nat × Bool × Fam)},AtL ρ w l→∀ b o F,l.lookup b=some (o,F)→famAt ρ w b F
 | x :: l,h,b,o,F,e=>by
  obtain ⟨c,y⟩:=x
  rw [List.lookup_cons] at e
  by_cases hb:b=c
  ·subst hb
   simp at e
   subst e
   exact h.1
  ·have:(b == c)=false:=by simpa using hb
   rw [this] at e
   exact atL_mem h.2 b o F e
theorem law_done {P:Program} {f:FuncId} {args:List Value} {hl:List (Nat × Bool × Fam)} {rd:List Nat} {ρ:Env} {w:World} {vs:Array Value} (h:FDoes P f args (hp hl) { v:=.bool true,rd:=rd }) (ha:(args.map (r3 ρ)).toArray=vs) (hr:AtL ρ w hl) :
  Calls P f vs w fun e w'=>e = .returned (.bool true)∧Below w.heap.size w w':=by
 subst ha
 refine (h.run ρ w ⟨fun b _ o F e=>atL_mem hr b o F e,fun b hb=>(by cases hb)⟩).mono fun e w' ⟨ρ',hB,he⟩=>⟨he,?_⟩
 have hf:=hB.frm
 exact Frm.below ⟨hf.os,hf.tape,hf.output,hf.size,fun k hk hn=>hf.block k hk fun ⟨b,hb,_⟩=>(by cases hb)⟩
section
variable {H:Type} {enc:TypeId × Value→H} {P:Program} {w:World} {base:Nat} {spare:Nat→Bool} {held:Bool}
end
section
variable {H:Type} {enc:TypeId × Value→H} {w:World} {base:Nat} {spare:Nat→Bool} {held:Bool}
end
theorem u8_in {n:Int} (h:(Lit.int .u8 n).wf=true):0≤n∧n≤255:=by
 have e1:IntKind.u8.min=0:=by decide
 have e2:IntKind.u8.max=255:=by decide
 simp only [Lit.wf,e1,e2,Bool.and_eq_true,decide_eq_true_eq] at h
 exact h
def CodeArg (w:World) (v:Value) (l:List Int) (N:Nam) (k:Nat):Prop:=RawN w v N k l.length (rY l)∧(N.nil=false→l.length≤N.cap)∧ByL l∧l.length≤9223372036854775807
theorem code_at {w:World} {v:Value} {l:List Int} {N:Nam} {k:Nat} {ns:List Nam} {b:Nat} (h:CodeArg w v l N k) (hb:ns[b]?=some N) (hb':b<1000):famAt (envL ns) w b (one ⟨hls k (rY l),capT + l.length,0⟩) :=
 raw_atR h.1 (rY_flat l) hb hb' fun hn=>by rw [Nat.add_sub_cancel_left];exact h.2.1 hn
theorem code_r3 {w:World} {v:Value} {l:List Int} {N:Nam} {k:Nat} {ns:List Nam} {b:Nat} (h:CodeArg w v l N k) (hb:ns[b]?=some N) (hb':b<1000):r3 (envL ns) (.slice (some ⟨b,k,none⟩) l.length 0)=v:=raw_r1 h.1 hb hb'
theorem open_bytesA {H:Type} {enc:TypeId × Value→H} {w:World} {base:Nat} {spare:Nat→Bool} {held:Bool} {r:Reach} {b0:Nat} {v:Value} {d:DataW H} {p:List MemPlace} (hv:Value.okWide Try.prog w r b0 22 v) (h:DataW.Trod enc Try.prog w base spare held 22 v d p):∃ l N k,CodeArg w v l N k:=by
 obtain ⟨a1,len,cap,rfl⟩:=okWide_slice Try.underlying22 hv
 obtain ⟨fuel,hf⟩:=h
 rcases open_ints Try.underlying22 Try.underlying5 (by kernel_rfl) hf with ⟨h1,_⟩|⟨a,len',cap',zs,h1,_,hl,hm,hz,_,hcell,hw⟩
 ·simp only [Value.cells,List.cons.injEq,_root_.and_true,Value.slice.injEq] at h1
  obtain ⟨rfl,rfl,rfl⟩:=h1
  exact ⟨[],_,_,raw_none,fun q=>(by cases q),(fun _ hx=>(nomatch hx)),by decide⟩
 ·simp only [Value.cells,List.cons.injEq,_root_.and_true,Value.slice.injEq] at h1
  obtain ⟨rfl,rfl,rfl⟩:=h1
  unfold maxLen at hm
  have hlz:len≤zs.length:=by rw [hz];split <;> omega
  have hn:(zs.take len).length=len:=by rw [List.length_take,Nat.min_eq_left hlz]
  have key:∀ i x,(rY (zs.take len))[i]?=some x→w.cell? (a.add i)=some x:=fun i x hx=>by
   have hi:=(List.getElem?_eq_some_iff.1 hx).1
   rw [rowL_len (n:=1) (fun _=>rfl),hn,Nat.mul_one] at hi
   have e1:x = .int .u8 (zs.getD i 0):=by
    have hg:=rowL_get (enc:=eY) (n:=1) (fun _=>rfl) (zs.take len) i 0 (by rw [hn];exact hi) (by decide)
    rw [Nat.mul_one,Nat.add_zero,hx,List.getElem_take] at hg
    rw [List.getD_eq_getElem?_getD,List.getElem?_eq_getElem (by omega)]
    exact Option.some.inj hg
   rw [e1]
   exact hcell i (by omega)
  obtain ⟨N,k,hr,hc⟩:=raw_of' (enc:=eY) (m:=1) (fun _=>rfl) (by decide) (cap:=cap) key
  refine ⟨zs.take len,N,k,by rw [hn] at hr ⊢;exact hr,fun q=>by rw [hc q,hn];omega,fun x hx=>u8_in (hw x (List.mem_of_mem_take hx)),by rw [hn];omega⟩
end Go.Proofs.Ytbgehlihpkefmaa.A
namespace Go.Proofs.Ytbgehlihpkefmaa.A
open Go Go.RowKit
set_option maxHeartbeats 4000000
theorem FnLockNone_c {l:List Int} {k:Nat} (hl:ByL l) (hl9:l.length≤9223372036854775807):FDoes Try.prog 11 [.slice (some ⟨0,k,none⟩) l.length 0] (hp [(0,false,one ⟨hls k (rY l),capT + l.length,0⟩)]) { v:=.bool true,rd:=[0] }:=by
 have hm:Try.prog.follows .mixedOrders=true:=by kernel_rfl
 have hd_:∀ x_ ∈ ([(0,false,one ⟨hls k (rY l),capT + l.length,0⟩)]:List (Nat × Bool × Fam)),∀ k_ y_,x_.2.2 k_=some y_→DetB (lt 1) y_:=by
  intro x_ hx k_ y_ e
  simp only [List.mem_cons,List.not_mem_nil,or_false] at hx
  subst hx
  exact det_code e
 refine fn_exact (u0:=1) Try.func11 rfl rfl (gets rfl rfl rfl hd_ rfl) ?_
 clear hd_
 refine vc_seq ?_
 refine vc_region hm ?_
 refine gM trivial (.inr rfl) rfl rfl rfl ?_
 refine rg_nil nofun ?_
 refine vc_seq ?_
 refine vc_seq ?_
 refine vc_region hm ?_
 refine gM trivial (.inl rfl) rfl rfl rfl ?_
 refine gK trivial rfl rfl rfl rfl rfl rfl (hls_nil fun e=>rY_nil e) ?_
 refine gI trivial rfl rfl rfl rfl rfl rfl ?_
 refine rg_nil nofun ?_
 refine cI rfl (fun c14=>?_) (fun c14=>?_)
 ·skip
  have p14:=of_decide_eq_true c14
  refine vc_seq ?_
  refine vc_region hm ?_
  refine gM trivial (.inr rfl) rfl rfl rfl ?_
  refine rg_nil nofun ?_
  refine vc_ret ?_
  exact ⟨idm,ends0 (.inr rfl) rfl (eqB rfl) rfl rfl rfl⟩
 ·skip
  have p14:=of_decide_eq_false c14
  refine vc_skip ?_
  refine vc_seq ?_
  refine vc_region hm ?_
  refine gM trivial (.inl rfl) rfl rfl rfl ?_
  obtain ⟨E2,hE2,M,kk,cc,who,write,sp,ma,mb,rfl⟩:=drawBars_c (l:=l) (k:=k) hl
  have hT:M.length≤1048576:=by omega
  have hB:∀ h ∈ M,h.r.length≤1048576∧h.w.length≤1048576:=fun h hh=>by have:=mb h hh;omega
  refine gCF (ups':=[]) (as':=[(1,one ⟨hls kk (rHv (tabV 2 zo M)),46,0⟩),(2,inF zo 28 77 M)]) (v':=.tuple #[.slice (some ⟨1,kk,none⟩) M.length cc,.int .i64 who,.bool write,vSp sp]) 3 [0,1,2] hE2 trivial rfl rfl rfl rfl ⟨rCode rfl rfl,trivial⟩ trivial ⟨frTab rfl rfl rfl,frIn rfl,trivial⟩ rfl rfl (fun x hx=>nomatch hx) (fun x hx=>nomatch hx) rfl rfl ?_
  refine gM trivial (.inl rfl) rfl rfl rfl ?_
  refine gE trivial rfl rfl rfl rfl rfl rfl ?_
  refine gE trivial rfl rfl rfl rfl rfl rfl ?_
  refine gE trivial rfl rfl rfl rfl rfl rfl ?_
  refine gE trivial rfl rfl rfl rfl rfl rfl ?_
  refine gZ (u':=4) trivial rfl rfl rfl rfl rfl rfl rfl rfl ?_
  refine gM trivial (.inr rfl) rfl rfl rfl ?_
  refine gM trivial (.inr rfl) rfl rfl rfl ?_
  refine gM trivial (.inr rfl) rfl rfl rfl ?_
  refine gT trivial rfl rfl rfl rfl rfl rfl rfl rfl rfl rfl (Nat.le_of_ble_eq_true rfl) rfl ?_
  refine rg_nil nofun ?_
  refine vc_seq ?_
  refine vc_region hm ?_
  refine gM trivial (.inl rfl) rfl rfl rfl ?_
  refine gM trivial (.inl rfl) rfl rfl rfl ?_
  refine gM trivial (.inl rfl) rfl rfl rfl ?_
  refine gL trivial rfl rfl rfl rfl rfl rfl rfl rfl ?_
  refine gCT (as':=[(4,one ⟨rI (lockBars M who write sp),3,1⟩)]) (v':=.slice (some ⟨4,0,none⟩) (lockBars M who write sp).length 0) 5 [nA (nm 1 (0)),nF 2,nF 4] [1,2] (impl_LockBars_c (T:=M) (who:=who) (write:=write) (s:=sp) (kk:=kk) (cc:=cc) hT hB) trivial rfl rfl rfl rfl rfl ⟨aTab (k:=kk) rfl rfl rfl rfl (.inl rfl) (.inl rfl) rfl rfl,aIn rfl rfl (.inl rfl) (.inl rfl) rfl,trivial⟩ ⟨rFlatT (rI_flat _) rfl,trivial⟩ ⟨rfl,rfl⟩ rfl rfl rfl ?_
  refine gM trivial (.inr rfl) rfl rfl rfl ?_
  refine rg_nil nofun ?_
  refine vc_seq ?_
  refine vc_seq ?_
  refine vc_region hm ?_
  refine gM trivial (.inl rfl) rfl rfl rfl ?_
  refine gM trivial (.inl rfl) rfl rfl rfl ?_
  refine gM trivial (.inl rfl) rfl rfl rfl ?_
  refine gM trivial (.inl rfl) rfl rfl rfl ?_
  refine gL trivial rfl rfl rfl rfl rfl rfl rfl rfl ?_
  refine gCT (as':=[(5,one ⟨rI (lockBars M who write sp),3,1⟩)]) (v':=.slice (some ⟨5,0,none⟩) (lockBars M who write sp).length 0) 6 [nA (nm 1 (0)),nF 2,nF 5] [1,2] (spec_LockBars_c (T:=M) (who:=who) (write:=write) (s:=sp) (kk:=kk) (cc:=cc) hT hB) trivial rfl rfl rfl rfl rfl ⟨aTab (k:=kk) rfl rfl rfl rfl (.inl rfl) (.inl rfl) rfl rfl,aIn rfl rfl (.inl rfl) (.inl rfl) rfl,trivial⟩ ⟨rFlatT (rI_flat _) rfl,trivial⟩ ⟨rfl,rfl⟩ rfl rfl rfl ?_
  refine gCT0 [nA (nm 4 (0)),nA (nm 5 (0))] [4,5] (wpNums_c (a:=(lockBars M who write sp)) (b:=(lockBars M who write sp)) (lbars_len hT)) trivial rfl rfl rfl rfl rfl ⟨aRow rfl (rI_flat _) rfl rfl (.inl rfl) (.inl rfl) rfl,aRow rfl (rI_flat _) rfl rfl (.inl rfl) (.inl rfl) rfl,trivial⟩ rfl rfl rfl rfl ?_
  refine gN trivial rfl rfl rfl rfl ?_
  refine gM trivial (.inl rfl) rfl rfl rfl ?_
  refine gM ⟨_,_,rfl,rfl,(notT (decide_eq_true rfl))⟩ (.inl rfl) rfl rfl rfl ?_
  refine gCT0 [nA (nm 1 (0)),nF 2] [1,2] (spec_LockOk_c (T:=M) (kk:=kk) (cc:=cc) hT hB) ⟨_,_,rfl,rfl,(notT (decide_eq_true rfl))⟩ rfl rfl rfl rfl rfl ⟨aTab (k:=kk) rfl rfl rfl rfl (.inl rfl) (.inl rfl) rfl rfl,aIn rfl rfl (.inl rfl) (.inl rfl) rfl,trivial⟩ rfl rfl rfl rfl ?_
  refine gN ⟨_,_,rfl,rfl,(notT (decide_eq_true rfl))⟩ rfl rfl rfl rfl ?_
  refine gPF trivial rfl rfl (notT (decide_eq_true rfl)) rfl rfl rfl ?_
  refine rg_nil nofun ?_
  refine cI rfl (fun c39=>?_) (fun c39=>?_)
  ·skip
   have n39:=unT c39
   refine vc_seq ?_
   refine vc_region hm ?_
   refine gM trivial (.inl rfl) rfl rfl rfl ?_
   refine gM trivial (.inl rfl) rfl rfl rfl ?_
   refine gM trivial (.inl rfl) rfl rfl rfl ?_
   refine gM trivial (.inl rfl) rfl rfl rfl ?_
   refine gL trivial rfl rfl rfl rfl rfl rfl rfl rfl ?_
   refine gCT (as':=[(6,one ⟨rI (lockBars M who write sp),3,1⟩)]) (v':=.slice (some ⟨6,0,none⟩) (lockBars M who write sp).length 0) 7 [nA (nm 1 (0)),nF 2,nF 6] [1,2] (spec_LockBars_c (T:=M) (who:=who) (write:=write) (s:=sp) (kk:=kk) (cc:=cc) hT hB) trivial rfl rfl rfl rfl rfl ⟨aTab (k:=kk) rfl rfl rfl rfl (.inl rfl) (.inl rfl) rfl rfl,aIn rfl rfl (.inl rfl) (.inl rfl) rfl,trivial⟩ ⟨rFlatT (rI_flat _) rfl,trivial⟩ ⟨rfl,rfl⟩ rfl rfl rfl ?_
   refine gCT0 [nA (nm 4 (0)),nA (nm 6 (0))] [4,6] (wpNums_c (a:=(lockBars M who write sp)) (b:=(lockBars M who write sp)) (lbars_len hT)) trivial rfl rfl rfl rfl rfl ⟨aRow rfl (rI_flat _) rfl rfl (.inl rfl) (.inl rfl) rfl,aRow rfl (rI_flat _) rfl rfl (.inl rfl) (.inl rfl) rfl,trivial⟩ rfl rfl rfl rfl ?_
   refine gM trivial (.inr rfl) rfl rfl rfl ?_
   refine rg_nil nofun ?_
   refine vc_ret ?_
   exact ⟨idm,ends0 (.inr rfl) rfl (eqB (decide_eq_true rfl).symm) rfl rfl rfl⟩
  ·skip
   have n39:=unF c39
   refine vc_skip ?_
   refine vc_seq ?_
   refine vc_region hm ?_
   refine gM trivial (.inl rfl) rfl rfl rfl ?_
   refine gM trivial (.inr rfl) rfl rfl rfl ?_
   refine rg_nil nofun ?_
   refine vc_seq ?_
   refine vc_seq ?_
   refine vc_region hm ?_
   refine gM trivial (.inr rfl) rfl rfl rfl ?_
   refine rg_nil nofun ?_
   refine vc_block ?_
   refine vc_loopT (fun n_ S_=>∃ (T:List Ho) (k3 c3 n:Nat),lockOk T=true∧(∀ m:Nat,m<n→at_ T (m:Int)=offH)∧n≤3∧n_=3 - n∧S_=⟨6,[(4,.int .i64 who),(5,.bool write),(6,.pointer (some ⟨3,0,none⟩)),(8,.slice (some ⟨4,k3,none⟩) T.length c3),(9,.int .i64 n)],[(0,false,one ⟨hls k (rY l),capT + l.length,0⟩),(3,true,one ⟨[.int .i64 sp.lo,.int .i64 sp.hi],28,2⟩),(4,true,one ⟨hls k3 (rHv (tabV 5 zo T)),46,0⟩),(5,true,inF zo 28 77 T)]⟩) ⟨M,kk,cc,0,n39,(fun m hm=>absurd hm (Nat.not_lt_zero m)),(Nat.zero_le _),rfl,rfl⟩ (re_nil (ms:=[0,9,9,3,1,2]) (C:=999) rfl ⟨⟨⟨rfl,rfl⟩,rfl⟩,⟨⟨rfl,rfl⟩,rfl⟩,⟨⟨rfl,rfl⟩,rfl⟩,⟨⟨rfl,rfl⟩,rfl⟩,⟨⟨rfl,rfl⟩,rfl⟩,trivial⟩ ⟨ktCode rfl rfl,ktFlat rfl rfl (.inr (.inl rfl)) id rfl,ktTab (k:=kk) rfl rfl (.inl rfl) id rfl rfl,ktIn rfl id rfl,trivial⟩ rfl rfl (rig_of rfl) rfl) ?_
   rintro n_ S_ ⟨T,k3,c3,n,hk,hz,hn,rfl,rfl⟩
   refine vc_seq ?_
   refine vc_seq ?_
   refine vc_region hm ?_
   refine gM trivial (.inl rfl) rfl rfl rfl ?_
   refine gI trivial rfl rfl rfl rfl rfl rfl ?_
   refine rg_nil nofun ?_
   refine cI rfl (fun c49=>?_) (fun c49=>?_)
   ·skip
    have p49:=of_decide_eq_true c49
    refine vc_skip ?_
    refine vc_seq ?_
    refine vc_block ?_
    refine vc_region hm ?_
    refine gM trivial (.inl rfl) rfl rfl rfl ?_
    refine gM trivial (.inl rfl) rfl rfl rfl ?_
    refine gCT (as':=[(6,one ⟨rHv (tabV 7 zo (resT T (goK (n:Int) ⟨0,48⟩ true) (n:Int) offH)),46,2⟩),(7,inF zo 28 77 (resT T (goK (n:Int) ⟨0,48⟩ true) (n:Int) offH))]) (v':=.tuple #[.slice (some ⟨6,0,none⟩) (resT T (goK (n:Int) ⟨0,48⟩ true) (n:Int) offH).length 0,.bool (resB T (goK (n:Int) ⟨0,48⟩ true) (n:Int) offH)]) 8 [nA (nm 4 (0)),nF 5,nF 6,nF 7] [4,5] (impl_LockOff_c (T:=T) (who:=(n:Int)) (kk:=k3) (cc:=c3) (lk_T hk) (lk_B hk)) trivial rfl rfl rfl rfl rfl ⟨aTab (k:=k3) rfl rfl rfl rfl (.inl rfl) (.inl rfl) rfl rfl,aIn rfl rfl (.inr rfl) (.inr (.inl rfl)) rfl,trivial⟩ ⟨rTab rfl rfl rfl,rIn rfl,trivial⟩ ⟨rfl,rfl⟩ rfl rfl rfl ?_
    refine gM trivial (.inl rfl) rfl rfl rfl ?_
    refine gE trivial rfl rfl rfl rfl rfl rfl ?_
    refine gE trivial rfl rfl rfl rfl rfl rfl ?_
    refine gM trivial (.inr rfl) rfl rfl rfl ?_
    refine rg_nil nofun ?_
    refine vc_region hm ?_
    refine gM trivial (.inl rfl) rfl rfl rfl ?_
    refine gA trivial rfl rfl rfl rfl rfl rfl (by omega) ?_
    refine gM trivial (.inr rfl) rfl rfl rfl ?_
    refine rg_nil nofun ?_
    exact lp_nextT ⟨(resT T (goK (n:Int) ⟨0,48⟩ true) (n:Int) offH),0,0,n + 1,(off_step hk p49 hz).1,(off_step hk p49 hz).2,(by omega),rfl,rfl⟩ (by omega) (re_nil (ms:=[0,9,9,3,6,7]) (C:=999) rfl ⟨⟨⟨rfl,rfl⟩,rfl⟩,⟨⟨rfl,rfl⟩,rfl⟩,⟨⟨rfl,rfl⟩,rfl⟩,⟨⟨rfl,rfl⟩,rfl⟩,⟨⟨rfl,rfl⟩,rfl⟩,trivial⟩ ⟨ktCode rfl rfl,ktFlat rfl rfl (.inr (.inl rfl)) id rfl,ktTab (k:=0) rfl rfl (.inl rfl) id rfl rfl,ktIn rfl id rfl,trivial⟩ rfl rfl (rig_of rfl) rfl)
   ·skip
    have p49:=of_decide_eq_false c49
    refine vc_exit ?_
    refine vc_seq ?_
    refine vc_seq ?_
    obtain rfl:n=3:=by omega
    have hz':NoneT T:=hz
    refine vc_region hm ?_
    refine gL trivial rfl rfl rfl rfl rfl rfl rfl rfl ?_
    refine gC0 [] (spec_SpanOk_c sp) trivial rfl rfl rfl rfl (by trivial) rfl rfl rfl rfl rfl ?_
    refine gN trivial rfl rfl rfl rfl ?_
    refine gM trivial (.inl rfl) rfl rfl rfl ?_
    refine gI2 (d:=61) rfl (fun c61=>?_) (fun c61=>?_)
    ·skip
     have n61:=unT c61
     refine gO ⟨_,_,rfl,rfl,c61⟩ rfl rfl ?_
     refine gO ⟨_,_,rfl,rfl,c61⟩ rfl rfl ?_
     refine gPT trivial rfl rfl c61 rfl rfl rfl ?_
     refine gM trivial (.inl rfl) rfl rfl rfl ?_
     refine gO ⟨_,_,rfl,rfl,rfl⟩ rfl rfl ?_
     refine gO ⟨_,_,rfl,rfl,rfl⟩ rfl rfl ?_
     refine gPT trivial rfl rfl rfl rfl rfl rfl ?_
     refine rg_nil nofun ?_
     refine cT rfl rfl ?_
     refine vc_seq ?_
     refine vc_region hm ?_
     refine gM trivial (.inl rfl) rfl rfl rfl ?_
     refine gCT0 [nA (nm 4 (0)),nF 5] [4,5] (impl_LockOk_c (T:=T) (kk:=k3) (cc:=c3) (lk_T hk) (lk_B hk)) trivial rfl rfl rfl rfl rfl ⟨aTab (k:=k3) rfl rfl rfl rfl (.inl rfl) (.inl rfl) rfl rfl,aIn rfl rfl (.inl rfl) (.inl rfl) rfl,trivial⟩ rfl rfl rfl rfl ?_
     refine gM trivial (.inr rfl) rfl rfl rfl ?_
     refine rg_nil nofun ?_
     refine vc_ret ?_
     exact ⟨idm,ends0 (.inr rfl) rfl (eqB hk.symm) rfl rfl rfl⟩
    ·skip
     have n61:=unF c61
     refine gM ⟨_,_,rfl,rfl,c61⟩ (.inl rfl) rfl rfl rfl ?_
     refine gI ⟨_,_,rfl,rfl,c61⟩ rfl rfl rfl rfl rfl rfl ?_
     refine gPF trivial rfl rfl c61 rfl rfl rfl ?_
     refine gM trivial (.inl rfl) rfl rfl rfl ?_
     refine gI2 (d:=65) rfl (fun c65=>?_) (fun c65=>?_)
     ·skip
      have p65:=of_decide_eq_true c65
      refine gO ⟨_,_,rfl,rfl,c65⟩ rfl rfl ?_
      refine gO ⟨_,_,rfl,rfl,c65⟩ rfl rfl ?_
      refine gPT trivial rfl rfl c65 rfl rfl rfl ?_
      refine rg_nil nofun ?_
      refine cT rfl rfl ?_
      refine vc_seq ?_
      refine vc_region hm ?_
      refine gM trivial (.inl rfl) rfl rfl rfl ?_
      refine gCT0 [nA (nm 4 (0)),nF 5] [4,5] (impl_LockOk_c (T:=T) (kk:=k3) (cc:=c3) (lk_T hk) (lk_B hk)) trivial rfl rfl rfl rfl rfl ⟨aTab (k:=k3) rfl rfl rfl rfl (.inl rfl) (.inl rfl) rfl rfl,aIn rfl rfl (.inl rfl) (.inl rfl) rfl,trivial⟩ rfl rfl rfl rfl ?_
      refine gM trivial (.inr rfl) rfl rfl rfl ?_
      refine rg_nil nofun ?_
      refine vc_ret ?_
      exact ⟨idm,ends0 (.inr rfl) rfl (eqB hk.symm) rfl rfl rfl⟩
     ·skip
      have p65:=of_decide_eq_false c65
      refine gM ⟨_,_,rfl,rfl,c65⟩ (.inl rfl) rfl rfl rfl ?_
      refine gI ⟨_,_,rfl,rfl,c65⟩ rfl rfl rfl rfl rfl rfl ?_
      refine gPF trivial rfl rfl c65 rfl rfl rfl ?_
      refine rg_nil nofun ?_
      refine cI rfl (fun c68=>?_) (fun c68=>?_)
      ·skip
       have p68:=of_decide_eq_true c68
       refine vc_seq ?_
       refine vc_region hm ?_
       refine gM trivial (.inl rfl) rfl rfl rfl ?_
       refine gCT0 [nA (nm 4 (0)),nF 5] [4,5] (impl_LockOk_c (T:=T) (kk:=k3) (cc:=c3) (lk_T hk) (lk_B hk)) trivial rfl rfl rfl rfl rfl ⟨aTab (k:=k3) rfl rfl rfl rfl (.inl rfl) (.inl rfl) rfl rfl,aIn rfl rfl (.inl rfl) (.inl rfl) rfl,trivial⟩ rfl rfl rfl rfl ?_
       refine gM trivial (.inr rfl) rfl rfl rfl ?_
       refine rg_nil nofun ?_
       refine vc_ret ?_
       exact ⟨idm,ends0 (.inr rfl) rfl (eqB hk.symm) rfl rfl rfl⟩
      ·skip
       have p68:=of_decide_eq_false c68
       refine vc_skip ?_
       refine vc_seq ?_
       refine vc_region hm ?_
       refine gM trivial (.inl rfl) rfl rfl rfl ?_
       refine gM trivial (.inl rfl) rfl rfl rfl ?_
       refine gM trivial (.inl rfl) rfl rfl rfl ?_
       refine gL trivial rfl rfl rfl rfl rfl rfl rfl rfl ?_
       refine gCT (as':=[(6,one ⟨rHv (tabV 7 zo (resT T (goK who sp (decide (((lockBars T who write sp).length:Int)=0))) who (giveH (at_ T who) write sp))),46,2⟩),(7,inF zo 28 77 (resT T (goK who sp (decide (((lockBars T who write sp).length:Int)=0))) who (giveH (at_ T who) write sp)))]) (v':=.tuple #[.slice (some ⟨6,0,none⟩) (resT T (goK who sp (decide (((lockBars T who write sp).length:Int)=0))) who (giveH (at_ T who) write sp)).length 0,.bool (resB T (goK who sp (decide (((lockBars T who write sp).length:Int)=0))) who (giveH (at_ T who) write sp))]) 8 [nA (nm 4 (0)),nF 5,nF 6,nF 7] [4,5] (impl_LockGive_c (T:=T) (who:=who) (write:=write) (s:=sp) (kk:=k3) (cc:=c3) (lk_T hk) (lk_B hk)) trivial rfl rfl rfl rfl rfl ⟨aTab (k:=k3) rfl rfl rfl rfl (.inl rfl) (.inl rfl) rfl rfl,aIn rfl rfl (.inr rfl) (.inr (.inl rfl)) rfl,trivial⟩ ⟨rTab rfl rfl rfl,rIn rfl,trivial⟩ ⟨rfl,rfl⟩ rfl rfl rfl ?_
       refine gM trivial (.inl rfl) rfl rfl rfl ?_
       refine gE trivial rfl rfl rfl rfl rfl rfl ?_
       refine gE trivial rfl rfl rfl rfl rfl rfl ?_
       refine gM trivial (.inr rfl) rfl rfl rfl ?_
       refine gM trivial (.inr rfl) rfl rfl rfl ?_
       refine rg_nil nofun ?_
       refine vc_seq ?_
       refine vc_region hm ?_
       refine gM trivial (.inl rfl) rfl rfl rfl ?_
       refine gM trivial (.inl rfl) rfl rfl rfl ?_
       refine gM trivial (.inl rfl) rfl rfl rfl ?_
       refine gL trivial rfl rfl rfl rfl rfl rfl rfl rfl ?_
       refine gCT (as':=[(8,one ⟨rI (lockBars T who write sp),3,1⟩)]) (v':=.slice (some ⟨8,0,none⟩) (lockBars T who write sp).length 0) 9 [nA (nm 4 (0)),nF 5,nF 8] [4,5] (impl_LockBars_c (T:=T) (who:=who) (write:=write) (s:=sp) (kk:=k3) (cc:=c3) (lk_T hk) (lk_B hk)) trivial rfl rfl rfl rfl rfl ⟨aTab (k:=k3) rfl rfl rfl rfl (.inl rfl) (.inl rfl) rfl rfl,aIn rfl rfl (.inl rfl) (.inl rfl) rfl,trivial⟩ ⟨rFlatT (rI_flat _) rfl,trivial⟩ ⟨rfl,rfl⟩ rfl rfl rfl ?_
       refine gK trivial rfl rfl rfl rfl rfl rfl rI_nil ?_
       refine gI trivial rfl rfl rfl rfl rfl rfl ?_
       refine gM trivial (.inl rfl) rfl rfl rfl ?_
       refine gM ⟨_,_,rfl,rfl,(by rw [none_bars hk hz'];rfl)⟩ (.inl rfl) rfl rfl rfl ?_
       refine gPT trivial rfl rfl (by rw [none_bars hk hz'];rfl) rfl rfl rfl ?_
       refine gM trivial (.inl rfl) rfl rfl rfl ?_
       refine gM ⟨_,_,rfl,rfl,(none_give hk hz' n61 (by omega) (by omega))⟩ (.inl rfl) rfl rfl rfl ?_
       refine gM ⟨_,_,rfl,rfl,(none_give hk hz' n61 (by omega) (by omega))⟩ (.inl rfl) rfl rfl rfl ?_
       refine gM ⟨_,_,rfl,rfl,(none_give hk hz' n61 (by omega) (by omega))⟩ (.inl rfl) rfl rfl rfl ?_
       refine gL ⟨_,_,rfl,rfl,(none_give hk hz' n61 (by omega) (by omega))⟩ rfl rfl rfl rfl rfl rfl rfl rfl ?_
       refine gCT0 [nA (nm 6 (0)),nF 7] [6,7] (impl_LockMay_c (T:=(resT T (goK who sp (decide (((lockBars T who write sp).length:Int)=0))) who (giveH (at_ T who) write sp))) (who:=who) (write:=write) (s:=sp) (kk:=0) (cc:=0) res_len res_big) ⟨_,_,rfl,rfl,(none_give hk hz' n61 (by omega) (by omega))⟩ rfl rfl rfl rfl rfl ⟨aTab (k:=0) rfl rfl rfl rfl (.inl rfl) (.inl rfl) rfl rfl,aIn rfl rfl (.inl rfl) (.inl rfl) rfl,trivial⟩ rfl rfl rfl rfl ?_
       refine gPT trivial rfl rfl (none_give hk hz' n61 (by omega) (by omega)) rfl rfl rfl ?_
       refine gM trivial (.inr rfl) rfl rfl rfl ?_
       refine rg_nil nofun ?_
       refine vc_ret ?_
       exact ⟨idm,ends0 (.inr rfl) rfl (eqB (gv_may (none_give hk hz' n61 (by omega) (by omega)) (.inl rfl)).symm) rfl rfl rfl⟩
theorem FnLockNone_walk {w:World} {v0:Value} {l0:List Int} {N0:Nam} {k0:Nat} (h0:CodeArg w v0 l0 N0 k0):Calls Try.prog 11 #[v0] w fun e w'=>e = .returned (.bool true)∧Below w.heap.size w w' :=
 law_done (FnLockNone_c h0.2.2.1 h0.2.2.2) (ρ:=envL [N0]) (by simp only [List.map_cons,List.map_nil,code_r3 (ns:=[N0]) (b:=0) h0 rfl (of_blt rfl)]) ⟨code_at h0 rfl (of_blt rfl),trivial⟩
end Go.Proofs.Ytbgehlihpkefmaa.A

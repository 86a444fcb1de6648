/- Part 4 of the proof of FnLockAgain: words, contracts of callees, plain lemmas. -/
import Derived.Test.YtbgehlihpkefmaaZLLockAgain3
set_option maxHeartbeats 8000000
set_option maxRecDepth 100000
set_option linter.unusedVariables false
set_option linter.unusedSimpArgs false
namespace Go.Proofs.Ytbgehlihpkefmaa.A
open Go Go.RowKit
set_option maxHeartbeats 4000000
theorem FnLockAgain_c {l:List Int} {k:Nat} (hl:ByL l) (hl9:l.length≤9223372036854775807):FDoes Try.prog 8 [.slice (some ⟨0,k,none⟩) l.length 0] (hp [(0,false,one ⟨hls k (rY l),capT + l.length,0⟩)]) { v:=.bool true,rd:=[0] }:=by
 have hm:Try.prog.follows .mixedOrders=true:=by kernel_rfl
 have hd_:∀ x_ ∈ ([(0,false,one ⟨hls k (rY l),capT + l.length,0⟩)]:List (Nat × Bool × Fam)),∀ k_ y_,x_.2.2 k_=some y_→DetB (lt 1) y_:=by
  intro x_ hx k_ y_ e
  simp only [List.mem_cons,List.not_mem_nil,or_false] at hx
  subst hx
  exact det_code e
 refine fn_exact (u0:=1) Try.func8 rfl rfl (gets rfl rfl rfl hd_ rfl) ?_
 clear hd_
 refine vc_seq ?_
 refine vc_region hm ?_
 refine gM trivial (.inr rfl) rfl rfl rfl ?_
 refine rg_nil nofun ?_
 refine vc_seq ?_
 refine vc_seq ?_
 refine vc_region hm ?_
 refine gM trivial (.inl rfl) rfl rfl rfl ?_
 refine gK trivial rfl rfl rfl rfl rfl rfl (hls_nil fun e=>rY_nil e) ?_
 refine gI trivial rfl rfl rfl rfl rfl rfl ?_
 refine rg_nil nofun ?_
 refine cI rfl (fun c17=>?_) (fun c17=>?_)
 ·skip
  have p17:=of_decide_eq_true c17
  refine vc_seq ?_
  refine vc_region hm ?_
  refine gM trivial (.inr rfl) rfl rfl rfl ?_
  refine rg_nil nofun ?_
  refine vc_ret ?_
  exact ⟨idm,ends0 (.inr rfl) rfl (eqB rfl) rfl rfl rfl⟩
 ·skip
  have p17:=of_decide_eq_false c17
  refine vc_skip ?_
  refine vc_seq ?_
  refine vc_region hm ?_
  refine gM trivial (.inl rfl) rfl rfl rfl ?_
  obtain ⟨E2,hE2,M,kk,cc,who,write,sp,ma,mb,rfl⟩:=drawGive_c (l:=l) (k:=k) hl
  have hT:M.length≤1048576:=by omega
  have hB:∀ h ∈ M,h.r.length≤1048576∧h.w.length≤1048576:=fun h hh=>by have:=mb h hh;omega
  refine gCF (ups':=[]) (as':=[(1,one ⟨hls kk (rHv (tabV 2 zo M)),46,0⟩),(2,inF zo 28 77 M)]) (v':=.tuple #[.slice (some ⟨1,kk,none⟩) M.length cc,.int .i64 who,.bool write,vSp sp]) 3 [0,1,2] hE2 trivial rfl rfl rfl rfl ⟨rCode rfl rfl,trivial⟩ trivial ⟨frTab rfl rfl rfl,frIn rfl,trivial⟩ rfl rfl (fun x hx=>nomatch hx) (fun x hx=>nomatch hx) rfl rfl ?_
  refine gM trivial (.inl rfl) rfl rfl rfl ?_
  refine gE trivial rfl rfl rfl rfl rfl rfl ?_
  refine gE trivial rfl rfl rfl rfl rfl rfl ?_
  refine gE trivial rfl rfl rfl rfl rfl rfl ?_
  refine gE trivial rfl rfl rfl rfl rfl rfl ?_
  refine gZ (u':=4) trivial rfl rfl rfl rfl rfl rfl rfl rfl ?_
  refine gM trivial (.inr rfl) rfl rfl rfl ?_
  refine gM trivial (.inr rfl) rfl rfl rfl ?_
  refine gM trivial (.inr rfl) rfl rfl rfl ?_
  refine gT trivial rfl rfl rfl rfl rfl rfl rfl rfl rfl rfl (Nat.le_of_ble_eq_true rfl) rfl ?_
  refine rg_nil nofun ?_
  refine vc_seq ?_
  refine vc_region hm ?_
  refine gM trivial (.inl rfl) rfl rfl rfl ?_
  refine gM trivial (.inl rfl) rfl rfl rfl ?_
  refine gM trivial (.inl rfl) rfl rfl rfl ?_
  refine gL trivial rfl rfl rfl rfl rfl rfl rfl rfl ?_
  refine gCT (as':=[(4,one ⟨rHv (tabV 5 zo (resT M (goK who sp (decide (((lockBars M who write sp).length:Int)=0))) who (giveH (at_ M who) write sp))),46,2⟩),(5,inF zo 28 77 (resT M (goK who sp (decide (((lockBars M who write sp).length:Int)=0))) who (giveH (at_ M who) write sp)))]) (v':=.tuple #[.slice (some ⟨4,0,none⟩) (resT M (goK who sp (decide (((lockBars M who write sp).length:Int)=0))) who (giveH (at_ M who) write sp)).length 0,.bool (resB M (goK who sp (decide (((lockBars M who write sp).length:Int)=0))) who (giveH (at_ M who) write sp))]) 6 [nA (nm 1 (0)),nF 2,nF 4,nF 5] [1,2] (impl_LockGive_c (T:=M) (who:=who) (write:=write) (s:=sp) (kk:=kk) (cc:=cc) hT hB) trivial rfl rfl rfl rfl rfl ⟨aTab (k:=kk) rfl rfl rfl rfl (.inl rfl) (.inl rfl) rfl rfl,aIn rfl rfl (.inr rfl) (.inr (.inl rfl)) rfl,trivial⟩ ⟨rTab rfl rfl rfl,rIn rfl,trivial⟩ ⟨rfl,rfl⟩ rfl rfl rfl ?_
  refine gM trivial (.inl rfl) rfl rfl rfl ?_
  refine gE trivial rfl rfl rfl rfl rfl rfl ?_
  refine gE trivial rfl rfl rfl rfl rfl rfl ?_
  refine gM trivial (.inr rfl) rfl rfl rfl ?_
  refine gM trivial (.inr rfl) rfl rfl rfl ?_
  refine rg_nil nofun ?_
  refine vc_seq ?_
  refine vc_region hm ?_
  refine gM trivial (.inl rfl) rfl rfl rfl ?_
  refine gM trivial (.inl rfl) rfl rfl rfl ?_
  refine gM trivial (.inl rfl) rfl rfl rfl ?_
  refine gL trivial rfl rfl rfl rfl rfl rfl rfl rfl ?_
  refine gCT (as':=[(6,one ⟨rHv (tabV 7 zo (resT M (goK who sp (decide (((lockBars M who write sp).length:Int)=0))) who (giveH (at_ M who) write sp))),46,2⟩),(7,inF zo 28 77 (resT M (goK who sp (decide (((lockBars M who write sp).length:Int)=0))) who (giveH (at_ M who) write sp)))]) (v':=.tuple #[.slice (some ⟨6,0,none⟩) (resT M (goK who sp (decide (((lockBars M who write sp).length:Int)=0))) who (giveH (at_ M who) write sp)).length 0,.bool (resB M (goK who sp (decide (((lockBars M who write sp).length:Int)=0))) who (giveH (at_ M who) write sp))]) 8 [nA (nm 1 (0)),nF 2,nF 6,nF 7] [1,2] (spec_LockGive_c (T:=M) (who:=who) (write:=write) (s:=sp) (kk:=kk) (cc:=cc) hT hB) trivial rfl rfl rfl rfl rfl ⟨aTab (k:=kk) rfl rfl rfl rfl (.inl rfl) (.inl rfl) rfl rfl,aIn rfl rfl (.inl rfl) (.inl rfl) rfl,trivial⟩ ⟨rTab rfl rfl rfl,rIn rfl,trivial⟩ ⟨rfl,rfl⟩ rfl rfl rfl ?_
  refine gM trivial (.inl rfl) rfl rfl rfl ?_
  refine gE trivial rfl rfl rfl rfl rfl rfl ?_
  refine gE trivial rfl rfl rfl rfl rfl rfl ?_
  refine gM trivial (.inr rfl) rfl rfl rfl ?_
  refine gM trivial (.inr rfl) rfl rfl rfl ?_
  refine rg_nil nofun ?_
  refine vc_seq ?_
  refine vc_seq ?_
  refine vc_region hm ?_
  refine gM trivial (.inl rfl) rfl rfl rfl ?_
  refine gM trivial (.inl rfl) rfl rfl rfl ?_
  refine gBN trivial rfl rfl rfl rfl rfl rfl ?_
  refine gM trivial (.inl rfl) rfl rfl rfl ?_
  refine gM ⟨_,_,rfl,rfl,(nself _)⟩ (.inl rfl) rfl rfl rfl ?_
  refine gN ⟨_,_,rfl,rfl,(nself _)⟩ rfl rfl rfl rfl ?_
  refine gPF trivial rfl rfl (nself _) rfl rfl rfl ?_
  refine rg_nil nofun ?_
  refine cI rfl (fun c47=>?_) (fun c47=>?_)
  ·skip
   have n47:=unT c47
   refine vc_seq ?_
   refine vc_region hm ?_
   refine gM trivial (.inl rfl) rfl rfl rfl ?_
   refine gM trivial (.inl rfl) rfl rfl rfl ?_
   refine gBE trivial rfl rfl rfl rfl rfl rfl ?_
   refine gM trivial (.inr rfl) rfl rfl rfl ?_
   refine rg_nil nofun ?_
   refine vc_ret ?_
   exact ⟨idm,ends0 (.inr rfl) rfl (eqB (beq_self_eq_true _).symm) rfl rfl rfl⟩
  ·skip
   have n47:=unF c47
   refine vc_skip ?_
   refine vc_seq ?_
   refine vc_region hm ?_
   refine gM trivial (.inl rfl) rfl rfl rfl ?_
   refine gM trivial (.inl rfl) rfl rfl rfl ?_
   refine gM trivial (.inl rfl) rfl rfl rfl ?_
   refine gL trivial rfl rfl rfl rfl rfl rfl rfl rfl ?_
   refine gCT (as':=[(8,one ⟨rHv (tabV 9 zo (resT (resT M (goK who sp (decide (((lockBars M who write sp).length:Int)=0))) who (giveH (at_ M who) write sp)) (goK who sp (decide (((lockBars (resT M (goK who sp (decide (((lockBars M who write sp).length:Int)=0))) who (giveH (at_ M who) write sp)) who write sp).length:Int)=0))) who (giveH (at_ (resT M (goK who sp (decide (((lockBars M who write sp).length:Int)=0))) who (giveH (at_ M who) write sp)) who) write sp))),46,2⟩),(9,inF zo 28 77 (resT (resT M (goK who sp (decide (((lockBars M who write sp).length:Int)=0))) who (giveH (at_ M who) write sp)) (goK who sp (decide (((lockBars (resT M (goK who sp (decide (((lockBars M who write sp).length:Int)=0))) who (giveH (at_ M who) write sp)) who write sp).length:Int)=0))) who (giveH (at_ (resT M (goK who sp (decide (((lockBars M who write sp).length:Int)=0))) who (giveH (at_ M who) write sp)) who) write sp)))]) (v':=.tuple #[.slice (some ⟨8,0,none⟩) (resT (resT M (goK who sp (decide (((lockBars M who write sp).length:Int)=0))) who (giveH (at_ M who) write sp)) (goK who sp (decide (((lockBars (resT M (goK who sp (decide (((lockBars M who write sp).length:Int)=0))) who (giveH (at_ M who) write sp)) who write sp).length:Int)=0))) who (giveH (at_ (resT M (goK who sp (decide (((lockBars M who write sp).length:Int)=0))) who (giveH (at_ M who) write sp)) who) write sp)).length 0,.bool (resB (resT M (goK who sp (decide (((lockBars M who write sp).length:Int)=0))) who (giveH (at_ M who) write sp)) (goK who sp (decide (((lockBars (resT M (goK who sp (decide (((lockBars M who write sp).length:Int)=0))) who (giveH (at_ M who) write sp)) who write sp).length:Int)=0))) who (giveH (at_ (resT M (goK who sp (decide (((lockBars M who write sp).length:Int)=0))) who (giveH (at_ M who) write sp)) who) write sp))]) 10 [nA (nm 4 (0)),nF 5,nF 8,nF 9] [4,5] (impl_LockGive_c (T:=(resT M (goK who sp (decide (((lockBars M who write sp).length:Int)=0))) who (giveH (at_ M who) write sp))) (who:=who) (write:=write) (s:=sp) (kk:=0) (cc:=0) res_len res_big) trivial rfl rfl rfl rfl rfl ⟨aTab (k:=0) rfl rfl rfl rfl (.inl rfl) (.inl rfl) rfl rfl,aIn rfl rfl (.inr rfl) (.inr (.inl rfl)) rfl,trivial⟩ ⟨rTab rfl rfl rfl,rIn rfl,trivial⟩ ⟨rfl,rfl⟩ rfl rfl rfl ?_
   refine gM trivial (.inl rfl) rfl rfl rfl ?_
   refine gE trivial rfl rfl rfl rfl rfl rfl ?_
   refine gE trivial rfl rfl rfl rfl rfl rfl ?_
   refine gM trivial (.inr rfl) rfl rfl rfl ?_
   refine gM trivial (.inr rfl) rfl rfl rfl ?_
   refine rg_nil nofun ?_
   refine vc_seq ?_
   refine vc_region hm ?_
   refine gM trivial (.inl rfl) rfl rfl rfl ?_
   refine gM trivial (.inl rfl) rfl rfl rfl ?_
   refine gL trivial rfl rfl rfl rfl rfl rfl rfl rfl ?_
   refine gCT (as':=[(10,one ⟨rHv (tabV 11 zo (resT (resT M (goK who sp (decide (((lockBars M who write sp).length:Int)=0))) who (giveH (at_ M who) write sp)) (goK who sp (decide (((lockBars (resT M (goK who sp (decide (((lockBars M who write sp).length:Int)=0))) who (giveH (at_ M who) write sp)) who false sp).length:Int)=0))) who (giveH (at_ (resT M (goK who sp (decide (((lockBars M who write sp).length:Int)=0))) who (giveH (at_ M who) write sp)) who) false sp))),46,2⟩),(11,inF zo 28 77 (resT (resT M (goK who sp (decide (((lockBars M who write sp).length:Int)=0))) who (giveH (at_ M who) write sp)) (goK who sp (decide (((lockBars (resT M (goK who sp (decide (((lockBars M who write sp).length:Int)=0))) who (giveH (at_ M who) write sp)) who false sp).length:Int)=0))) who (giveH (at_ (resT M (goK who sp (decide (((lockBars M who write sp).length:Int)=0))) who (giveH (at_ M who) write sp)) who) false sp)))]) (v':=.tuple #[.slice (some ⟨10,0,none⟩) (resT (resT M (goK who sp (decide (((lockBars M who write sp).length:Int)=0))) who (giveH (at_ M who) write sp)) (goK who sp (decide (((lockBars (resT M (goK who sp (decide (((lockBars M who write sp).length:Int)=0))) who (giveH (at_ M who) write sp)) who false sp).length:Int)=0))) who (giveH (at_ (resT M (goK who sp (decide (((lockBars M who write sp).length:Int)=0))) who (giveH (at_ M who) write sp)) who) false sp)).length 0,.bool (resB (resT M (goK who sp (decide (((lockBars M who write sp).length:Int)=0))) who (giveH (at_ M who) write sp)) (goK who sp (decide (((lockBars (resT M (goK who sp (decide (((lockBars M who write sp).length:Int)=0))) who (giveH (at_ M who) write sp)) who false sp).length:Int)=0))) who (giveH (at_ (resT M (goK who sp (decide (((lockBars M who write sp).length:Int)=0))) who (giveH (at_ M who) write sp)) who) false sp))]) 12 [nA (nm 4 (0)),nF 5,nF 10,nF 11] [4,5] (impl_LockGive_c (T:=(resT M (goK who sp (decide (((lockBars M who write sp).length:Int)=0))) who (giveH (at_ M who) write sp))) (who:=who) (write:=false) (s:=sp) (kk:=0) (cc:=0) res_len res_big) trivial rfl rfl rfl rfl rfl ⟨aTab (k:=0) rfl rfl rfl rfl (.inl rfl) (.inl rfl) rfl rfl,aIn rfl rfl (.inr rfl) (.inr (.inl rfl)) rfl,trivial⟩ ⟨rTab rfl rfl rfl,rIn rfl,trivial⟩ ⟨rfl,rfl⟩ rfl rfl rfl ?_
   refine gM trivial (.inl rfl) rfl rfl rfl ?_
   refine gE trivial rfl rfl rfl rfl rfl rfl ?_
   refine gE trivial rfl rfl rfl rfl rfl rfl ?_
   refine gM trivial (.inr rfl) rfl rfl rfl ?_
   refine gM trivial (.inr rfl) rfl rfl rfl ?_
   refine rg_nil nofun ?_
   refine vc_seq ?_
   refine vc_region hm ?_
   refine gM trivial (.inl rfl) rfl rfl rfl ?_
   refine gM trivial (.inl rfl) rfl rfl rfl ?_
   refine gM ⟨_,_,rfl,rfl,(give_again n47 rfl (.inl rfl)).2⟩ (.inl rfl) rfl rfl rfl ?_
   refine gM ⟨_,_,rfl,rfl,(give_again n47 rfl (.inl rfl)).2⟩ (.inl rfl) rfl rfl rfl ?_
   refine gCT0 [nA (nm 4 (0)),nF 5,nA (nm 8 (0)),nF 9] [4,5,8,9] (impl_LockSame_c (A:=(resT M (goK who sp (decide (((lockBars M who write sp).length:Int)=0))) who (giveH (at_ M who) write sp))) (B:=(resT (resT M (goK who sp (decide (((lockBars M who write sp).length:Int)=0))) who (giveH (at_ M who) write sp)) (goK who sp (decide (((lockBars (resT M (goK who sp (decide (((lockBars M who write sp).length:Int)=0))) who (giveH (at_ M who) write sp)) who write sp).length:Int)=0))) who (giveH (at_ (resT M (goK who sp (decide (((lockBars M who write sp).length:Int)=0))) who (giveH (at_ M who) write sp)) who) write sp))) (ka:=0) (ca:=0) (kb:=0) (cb:=0) res_len res_big) ⟨_,_,rfl,rfl,(give_again n47 rfl (.inl rfl)).2⟩ rfl rfl rfl rfl rfl ⟨aTab (k:=0) rfl rfl rfl rfl (.inl rfl) (.inl rfl) rfl rfl,aIn rfl rfl (.inl rfl) (.inl rfl) rfl,aTab (k:=0) rfl rfl rfl rfl (.inl rfl) (.inl rfl) rfl rfl,aIn rfl rfl (.inl rfl) (.inl rfl) rfl,trivial⟩ rfl rfl rfl rfl ?_
   refine gPT trivial rfl rfl (give_again n47 rfl (.inl rfl)).2 rfl rfl rfl ?_
   refine gM trivial (.inl rfl) rfl rfl rfl ?_
   refine gM ⟨_,_,rfl,rfl,(decide_eq_true (give_again n47 rfl (.inl rfl)).1.symm)⟩ (.inl rfl) rfl rfl rfl ?_
   refine gPT trivial rfl rfl (decide_eq_true (give_again n47 rfl (.inl rfl)).1.symm) rfl rfl rfl ?_
   refine gM trivial (.inl rfl) rfl rfl rfl ?_
   refine gM ⟨_,_,rfl,rfl,(give_again n47 rfl (.inr rfl)).2⟩ (.inl rfl) rfl rfl rfl ?_
   refine gM ⟨_,_,rfl,rfl,(give_again n47 rfl (.inr rfl)).2⟩ (.inl rfl) rfl rfl rfl ?_
   refine gCT0 [nA (nm 4 (0)),nF 5,nA (nm 10 (0)),nF 11] [4,5,10,11] (impl_LockSame_c (A:=(resT M (goK who sp (decide (((lockBars M who write sp).length:Int)=0))) who (giveH (at_ M who) write sp))) (B:=(resT (resT M (goK who sp (decide (((lockBars M who write sp).length:Int)=0))) who (giveH (at_ M who) write sp)) (goK who sp (decide (((lockBars (resT M (goK who sp (decide (((lockBars M who write sp).length:Int)=0))) who (giveH (at_ M who) write sp)) who false sp).length:Int)=0))) who (giveH (at_ (resT M (goK who sp (decide (((lockBars M who write sp).length:Int)=0))) who (giveH (at_ M who) write sp)) who) false sp))) (ka:=0) (ca:=0) (kb:=0) (cb:=0) res_len res_big) ⟨_,_,rfl,rfl,(give_again n47 rfl (.inr rfl)).2⟩ rfl rfl rfl rfl rfl ⟨aTab (k:=0) rfl rfl rfl rfl (.inl rfl) (.inl rfl) rfl rfl,aIn rfl rfl (.inl rfl) (.inl rfl) rfl,aTab (k:=0) rfl rfl rfl rfl (.inl rfl) (.inl rfl) rfl rfl,aIn rfl rfl (.inl rfl) (.inl rfl) rfl,trivial⟩ rfl rfl rfl rfl ?_
   refine gPT trivial rfl rfl (give_again n47 rfl (.inr rfl)).2 rfl rfl rfl ?_
   refine gM trivial (.inr rfl) rfl rfl rfl ?_
   refine rg_nil nofun ?_
   refine vc_ret ?_
   exact ⟨idm,ends0 (.inr rfl) rfl (eqB (decide_eq_true (give_again n47 rfl (.inr rfl)).1.symm).symm) rfl rfl rfl⟩
theorem FnLockAgain_walk {w:World} {v0:Value} {l0:List Int} {N0:Nam} {k0:Nat} (h0:CodeArg w v0 l0 N0 k0):Calls Try.prog 8 #[v0] w fun e w'=>e = .returned (.bool true)∧Below w.heap.size w w' :=
 law_done (FnLockAgain_c h0.2.2.1 h0.2.2.2) (ρ:=envL [N0]) (by simp only [List.map_cons,List.map_nil,code_r3 (ns:=[N0]) (b:=0) h0 rfl (of_blt rfl)]) ⟨code_at h0 rfl (of_blt rfl),trivial⟩
end Go.Proofs.Ytbgehlihpkefmaa.A

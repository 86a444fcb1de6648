/- Part 3 of the proof of FnStoreReplay: words, contracts of callees, plain lemmas. -/
import Derived.Test.YtmekkapacbdbeaaZLStoreReplay2
set_option maxHeartbeats 8000000
set_option maxRecDepth 100000
set_option linter.unusedVariables false
set_option linter.unusedSimpArgs false
namespace Go.Proofs.Ytmekkapacbdbeaa.A
open Go Go.RowKit
set_option maxHeartbeats 4000000
abbrev newS:Stv:=⟨List.replicate 3 default,List.replicate 3 default,List.replicate 3 default,List.replicate 3 default,List.replicate 3 default⟩
theorem new_ok:stOk newS=true:=by decide +kernel
abbrev syncSt (s:Stv):Stv:=⟨s.now,s.now,s.last,s.last,s.fl⟩
abbrev fallSt (s:Stv):Stv:=⟨s.sure,s.sure,s.slast,s.slast,s.fl⟩
theorem sync_ok {s:Stv} (h:stOk s=true):stOk (syncSt s)=true:=by
 obtain ⟨⟨l0,l1,l2,l3,l4⟩,g0,g1,g2⟩:=stOk_in h
 refine stOk_of ⟨l0,l0,l2,l2,l4⟩ g0 g0 (List.all_eq_true.2 fun j hj=>decide_eq_true ?_)
 have:=nu_at (i:=(j:Int)) g2 (by omega) (by have:=List.mem_range.1 hj;omega)
 show 0≤at_ s.last (j:Int)∧at_ s.last (j:Int)≤at_ s.last (j:Int)∧at_ s.last (j:Int)≤1000∧0≤at_ s.fl (j:Int)∧at_ s.fl (j:Int)≤100
 omega
theorem fall_ok {s:Stv} (h:stOk s=true):stOk (fallSt s)=true:=by
 obtain ⟨⟨l0,l1,l2,l3,l4⟩,g0,g1,g2⟩:=stOk_in h
 refine stOk_of ⟨l1,l1,l3,l3,l4⟩ g1 g1 (List.all_eq_true.2 fun j hj=>decide_eq_true ?_)
 have:=nu_at (i:=(j:Int)) g2 (by omega) (by have:=List.mem_range.1 hj;omega)
 show 0≤at_ s.slast (j:Int)∧at_ s.slast (j:Int)≤at_ s.slast (j:Int)∧at_ s.slast (j:Int)≤1000∧0≤at_ s.fl (j:Int)∧at_ s.fl (j:Int)≤100
 omega
def mayN (who ep:Int):Bool:=decide ((0≤who∧who<3)∧0≤ep∧ep≤100)
abbrev fencedSt (s:Stv) (who ep:Int):Stv:=⟨s.now,s.sure,s.last,s.slast,s.fl.set who.toNat (mxI (at_ s.fl who) ep)⟩
def fenceD (s:Stv) (who ep:Int):Stv × Bool:=if mayN who ep=true then (fencedSt s who ep,true) else (s,false)
theorem fence_T {s:Stv} {who ep:Int} (h:(0≤who∧who<3)∧0≤ep∧ep≤100):fenceD s who ep=(fencedSt s who ep,true):=if_pos (decide_eq_true h)
theorem fence_F {s:Stv} {who ep:Int} (h:¬ ((0≤who∧who<3)∧0≤ep∧ep≤100)):fenceD s who ep=(s,false):=if_neg (by unfold mayN;rw [decide_eq_false h];decide)
theorem fenced_n {s:Stv} {who ep:Int}:(fencedSt s who ep).fl.length=s.fl.length:=List.length_set ..
theorem fenced_ok {s:Stv} {who ep:Int} (h:stOk s=true) (h1:(0≤who∧who<3)∧0≤ep∧ep≤100):stOk (fencedSt s who ep)=true:=by
 obtain ⟨⟨l0,l1,l2,l3,l4⟩,g0,g1,g2⟩:=stOk_in h
 refine stOk_of ⟨l0,l1,l2,l3,fenced_n.trans l4⟩ g0 g1 (List.all_eq_true.2 fun j hj=>decide_eq_true ?_)
 have hj:=List.mem_range.1 hj
 have:=nu_at (i:=(j:Int)) g2 (by omega) (by omega)
 have h2:=nu_at (i:=who) g2 h1.1.1 h1.1.2
 show 0≤at_ s.slast (j:Int)∧at_ s.slast (j:Int)≤at_ s.last (j:Int)∧at_ s.last (j:Int)≤1000∧0≤at_ (s.fl.set _ _) (j:Int)∧at_ (s.fl.set _ _) (j:Int)≤100
 rw [at_setI h1.1.1 (by omega) (by omega)]
 unfold mxI
 split
 ·split <;> omega
 ·exact this
theorem fence_ok {s x:Stv} {who ep:Int} {b:Bool} (hf:fenceD s who ep=(x,b)) (h:stOk s=true):stOk x=true:=by
 by_cases e:(0≤who∧who<3)∧0≤ep∧ep≤100
 ·rw [fence_T e] at hf;cases hf;exact fenced_ok h e
 ·rw [fence_F e] at hf;cases hf;exact h
theorem spec_StoreNew_c : FDoes Try.prog 29 [] (hp []) (mkE (.agg #[.slice (some ⟨0,0,none⟩) newS.now.length 0,.slice (some ⟨1,0,none⟩) newS.sure.length 0,.slice (some ⟨2,0,none⟩) newS.last.length 0,.slice (some ⟨3,0,none⟩) newS.slast.length 0,.slice (some ⟨4,0,none⟩) newS.fl.length 0]) [] [] [(0,⟨rS newS.now,9,101⟩),(1,⟨rS newS.sure,9,101⟩),(2,⟨rI newS.last,3,101⟩),(3,⟨rI newS.slast,3,101⟩),(4,⟨rI newS.fl,3,101⟩)]):=by
 have hm:Try.prog.follows .mixedOrders=true:=by kernel_rfl
 have hd_:∀ x ∈ ([]:List (Nat × Bool × Fam)),∀ k y,x.2.2 k=some y→DetB (lt 0) y:=fun x_ hx=>(by cases hx)
 refine fn_exact (u0:=0) Try.func29 rfl rfl (gets rfl rfl rfl hd_ rfl) ?_
 clear hd_
 refine vc_seq ?_
 refine vc_region hm ?_
 refine gZ (u':=1) trivial rfl rfl rfl rfl rfl rfl rfl rfl ?_
 refine rg_nil nofun ?_
 refine vc_seq ?_
 refine vc_region hm ?_
 refine gMk (u':=2) trivial rfl rfl rfl rfl rfl rfl rfl rfl rfl rfl rfl rfl rfl rfl ⟨by decide,by decide⟩ (zeros_row (enc:=eS) (n:=1) (fun _=>rfl) (by decide) rfl 3) ?_
 refine gMk (u':=3) trivial rfl rfl rfl rfl rfl rfl rfl rfl rfl rfl rfl rfl rfl rfl ⟨by decide,by decide⟩ (zeros_row (enc:=eS) (n:=1) (fun _=>rfl) (by decide) rfl 3) ?_
 refine gMk (u':=4) trivial rfl rfl rfl rfl rfl rfl rfl rfl rfl rfl rfl rfl rfl rfl ⟨by decide,by decide⟩ (zeros_row (enc:=eI) (n:=1) (fun _=>rfl) (by decide) rfl 3) ?_
 refine gMk (u':=5) trivial rfl rfl rfl rfl rfl rfl rfl rfl rfl rfl rfl rfl rfl rfl ⟨by decide,by decide⟩ (zeros_row (enc:=eI) (n:=1) (fun _=>rfl) (by decide) rfl 3) ?_
 refine gMk (u':=6) trivial rfl rfl rfl rfl rfl rfl rfl rfl rfl rfl rfl rfl rfl rfl ⟨by decide,by decide⟩ (zeros_row (enc:=eI) (n:=1) (fun _=>rfl) (by decide) rfl 3) ?_
 refine gU trivial rfl rfl rfl rfl rfl rfl rfl rfl ?_
 refine gT trivial rfl rfl rfl rfl rfl rfl rfl rfl rfl rfl (Nat.le_of_ble_eq_true rfl) rfl ?_
 refine rg_nil (fun _=>by kernel_rfl) ?_
 refine vc_ret ?_
 exact ⟨_,endsG [(0,1,⟨rS newS.now,9,101⟩),(1,2,⟨rS newS.sure,9,101⟩),(2,3,⟨rI newS.last,3,101⟩),(3,4,⟨rI newS.slast,3,101⟩),(4,5,⟨rI newS.fl,3,101⟩)] (.inr rfl) (.cell rfl rfl rfl rfl rfl .nil) rfl rfl trivial ⟨⟨rfl,(rS_flat newS.now)⟩,⟨rfl,(rS_flat newS.sure)⟩,⟨rfl,(rI_flat newS.last)⟩,⟨rfl,(rI_flat newS.slast)⟩,⟨rfl,(rI_flat newS.fl)⟩,trivial⟩ rfl⟩
theorem spec_StoreSync_c {s:Stv} {kk cc:Nat} (h:stOk s=true):FDoes Try.prog 36 [.agg #[.slice (some ⟨0,kk,none⟩) s.now.length cc,.slice (some ⟨1,0,none⟩) s.sure.length 0,.slice (some ⟨2,0,none⟩) s.last.length 0,.slice (some ⟨3,0,none⟩) s.slast.length 0,.slice (some ⟨4,0,none⟩) s.fl.length 0]] (hp [(0,false,one ⟨hls kk (rS s.now),9,0⟩),(1,false,one ⟨rS s.sure,9,0⟩),(2,false,one ⟨rI s.last,3,0⟩),(3,false,one ⟨rI s.slast,3,0⟩),(4,false,one ⟨rI s.fl,3,0⟩)]) (mkE (.agg #[.slice (some ⟨5,0,none⟩) (syncSt s).now.length 0,.slice (some ⟨6,0,none⟩) (syncSt s).sure.length 0,.slice (some ⟨7,0,none⟩) (syncSt s).last.length 0,.slice (some ⟨8,0,none⟩) (syncSt s).slast.length 0,.slice (some ⟨9,0,none⟩) (syncSt s).fl.length 0]) [0,1,2,3,4] [] [(5,⟨rS (syncSt s).now,9,1⟩),(6,⟨rS (syncSt s).sure,9,1⟩),(7,⟨rI (syncSt s).last,3,1⟩),(8,⟨rI (syncSt s).slast,3,1⟩),(9,⟨rI (syncSt s).fl,3,1⟩)]):=by
 have hm:Try.prog.follows .mixedOrders=true:=by kernel_rfl
 have hd_:∀ x_ ∈ ([(0,false,one ⟨hls kk (rS s.now),9,0⟩),(1,false,one ⟨rS s.sure,9,0⟩),(2,false,one ⟨rI s.last,3,0⟩),(3,false,one ⟨rI s.slast,3,0⟩),(4,false,one ⟨rI s.fl,3,0⟩)]:List (Nat × Bool × Fam)),∀ k_ y_,x_.2.2 k_=some y_→DetB (lt 5) y_:=by
  intro x_ hx k_ y_ e
  simp only [List.mem_cons,List.not_mem_nil,or_false] at hx
  rcases hx with rfl|rfl|rfl|rfl|rfl
  ·exact det_row (hls_flat (rS_flat s.now)) e
  ·exact det_row (rS_flat s.sure) e
  ·exact det_row (rI_flat s.last) e
  ·exact det_row (rI_flat s.slast) e
  ·exact det_row (rI_flat s.fl) e
 obtain ⟨⟨l0,l1,l2,l3,l4⟩,g0,g1,g2⟩:=stOk_in h
 refine fn_exact (u0:=5) Try.func36 rfl rfl (gets rfl rfl rfl hd_ rfl) ?_
 clear hd_
 refine vc_seq ?_
 refine vc_region hm ?_
 refine gB (u':=6) trivial rfl rfl rfl rfl rfl rfl rfl rfl ?_
 refine gZ (u':=7) trivial rfl rfl rfl rfl rfl rfl rfl rfl ?_
 refine rg_nil nofun ?_
 refine vc_seq ?_
 refine vc_seq ?_
 refine vc_region hm ?_
 refine gL trivial rfl rfl rfl rfl rfl rfl rfl rfl ?_
 refine gC0 [0,1,2,3,4] (spec_StoreOk_c (s:=s) (kk:=kk) (cc:=cc) (sz_ok h)) trivial rfl rfl rfl rfl ⟨rFlat (hls_flat (rS_flat s.now)) rfl (.inl rfl) rfl,rFlat (rS_flat s.sure) rfl (.inl rfl) rfl,rFlat (rI_flat s.last) rfl (.inl rfl) rfl,rFlat (rI_flat s.slast) rfl (.inl rfl) rfl,rFlat (rI_flat s.fl) rfl (.inl rfl) rfl,trivial⟩ rfl rfl rfl rfl rfl ?_
 refine gN trivial rfl rfl rfl rfl ?_
 refine rg_nil nofun ?_
 refine cF rfl (notT h) ?_
 refine vc_skip ?_
 refine vc_seq ?_
 refine vc_region hm ?_
 refine gL trivial rfl rfl rfl rfl rfl rfl rfl rfl ?_
 refine gCn 12 [0,1,2,3,4,7,8,9,10,11] (l5Copy_c (s:=s) (kk:=kk) (cc:=cc) (sz_ok h)) trivial rfl rfl rfl rfl ⟨rFlat (hls_flat (rS_flat s.now)) rfl (.inl rfl) rfl,rFlat (rS_flat s.sure) rfl (.inl rfl) rfl,rFlat (rI_flat s.last) rfl (.inl rfl) rfl,rFlat (rI_flat s.slast) rfl (.inl rfl) rfl,rFlat (rI_flat s.fl) rfl (.inl rfl) rfl,trivial⟩ ⟨rS_flat s.now,rS_flat s.sure,rI_flat s.last,rI_flat s.slast,rI_flat s.fl,trivial⟩ rfl rfl rfl rfl ?_
 refine gZ (u':=13) trivial rfl rfl rfl rfl rfl rfl rfl rfl ?_
 refine gT trivial rfl rfl rfl rfl rfl rfl rfl rfl rfl rfl (Nat.le_of_ble_eq_true rfl) rfl ?_
 refine rg_nil nofun ?_
 refine vc_seq ?_
 refine vc_region hm ?_
 refine gR (u':=14) (out:=rS []) trivial rfl rfl rfl rfl rfl rfl rfl rfl rfl rfl rfl rfl rfl rfl ?_
 refine gF trivial rfl rfl rfl rfl rfl ?_
 refine gL trivial rfl rfl rfl rfl rfl rfl rfl rfl ?_
 refine gAp (u':=15) trivial rfl rfl rfl rfl rfl rfl rfl rfl rfl rfl rfl rfl rfl (cq_len (n:=1) (fun _=>rfl) kk s.now) (cqS_leaf kk _) (show (0 + s.now.length) * (16 + 1)≤140737488355328 by omega) (cqS_eq kk _) (Nat.zero_add _) ?_
 refine gF trivial rfl rfl rfl rfl rfl ?_
 refine gT trivial rfl rfl rfl rfl rfl rfl rfl rfl rfl rfl (Nat.le_of_ble_eq_true rfl) rfl ?_
 refine rg_nil nofun ?_
 refine vc_seq ?_
 refine vc_region hm ?_
 refine gR (u':=16) (out:=rI []) trivial rfl rfl rfl rfl rfl rfl rfl rfl rfl rfl rfl rfl rfl rfl ?_
 refine gF trivial rfl rfl rfl rfl rfl ?_
 refine gL trivial rfl rfl rfl rfl rfl rfl rfl rfl ?_
 refine gAp (u':=17) trivial rfl rfl rfl rfl rfl rfl rfl rfl rfl rfl rfl rfl rfl (cq_len (n:=1) (fun _=>rfl) 0 s.last) (cqI_leaf 0 _) (show (0 + s.last.length) * (8 + 1)≤140737488355328 by omega) (cqI_eq 0 _) (Nat.zero_add _) ?_
 refine gF trivial rfl rfl rfl rfl rfl ?_
 refine gT trivial rfl rfl rfl rfl rfl rfl rfl rfl rfl rfl (Nat.le_of_ble_eq_true rfl) rfl ?_
 refine rg_nil nofun ?_
 refine vc_seq ?_
 refine vc_region hm ?_
 refine gL trivial rfl rfl rfl rfl rfl rfl rfl rfl ?_
 refine gT trivial rfl rfl rfl rfl rfl rfl rfl rfl rfl rfl (Nat.le_of_ble_eq_true rfl) rfl ?_
 refine rg_nil nofun ?_
 refine vc_ret ?_
 exact ⟨_,endsG [(5,7,⟨rS (syncSt s).now,9,1⟩),(6,14,⟨rS (syncSt s).sure,9,1⟩),(7,9,⟨rI (syncSt s).last,3,1⟩),(8,16,⟨rI (syncSt s).slast,3,1⟩),(9,11,⟨rI (syncSt s).fl,3,1⟩)] (.inr rfl) (.cell rfl rfl rfl rfl rfl .nil) rfl rfl trivial ⟨⟨rfl,(rS_flat (syncSt s).now)⟩,⟨rfl,(rS_flat (syncSt s).sure)⟩,⟨rfl,(rI_flat (syncSt s).last)⟩,⟨rfl,(rI_flat (syncSt s).slast)⟩,⟨rfl,(rI_flat (syncSt s).fl)⟩,trivial⟩ rfl⟩
theorem impl_StoreSync_c {s:Stv} {kk cc:Nat} (h:stOk s=true):FDoes Try.prog 21 [.agg #[.slice (some ⟨0,kk,none⟩) s.now.length cc,.slice (some ⟨1,0,none⟩) s.sure.length 0,.slice (some ⟨2,0,none⟩) s.last.length 0,.slice (some ⟨3,0,none⟩) s.slast.length 0,.slice (some ⟨4,0,none⟩) s.fl.length 0]] (hp [(0,false,one ⟨hls kk (rS s.now),9,0⟩),(1,false,one ⟨rS s.sure,9,0⟩),(2,false,one ⟨rI s.last,3,0⟩),(3,false,one ⟨rI s.slast,3,0⟩),(4,false,one ⟨rI s.fl,3,0⟩)]) (mkE (.agg #[.slice (some ⟨5,0,none⟩) (syncSt s).now.length 0,.slice (some ⟨6,0,none⟩) (syncSt s).sure.length 0,.slice (some ⟨7,0,none⟩) (syncSt s).last.length 0,.slice (some ⟨8,0,none⟩) (syncSt s).slast.length 0,.slice (some ⟨9,0,none⟩) (syncSt s).fl.length 0]) [0,1,2,3,4] [] [(5,⟨rS (syncSt s).now,9,1⟩),(6,⟨rS (syncSt s).sure,9,1⟩),(7,⟨rI (syncSt s).last,3,1⟩),(8,⟨rI (syncSt s).slast,3,1⟩),(9,⟨rI (syncSt s).fl,3,1⟩)]):=by
 have hm:Try.prog.follows .mixedOrders=true:=by kernel_rfl
 have hd_:∀ x_ ∈ ([(0,false,one ⟨hls kk (rS s.now),9,0⟩),(1,false,one ⟨rS s.sure,9,0⟩),(2,false,one ⟨rI s.last,3,0⟩),(3,false,one ⟨rI s.slast,3,0⟩),(4,false,one ⟨rI s.fl,3,0⟩)]:List (Nat × Bool × Fam)),∀ k_ y_,x_.2.2 k_=some y_→DetB (lt 5) y_:=by
  intro x_ hx k_ y_ e
  simp only [List.mem_cons,List.not_mem_nil,or_false] at hx
  rcases hx with rfl|rfl|rfl|rfl|rfl
  ·exact det_row (hls_flat (rS_flat s.now)) e
  ·exact det_row (rS_flat s.sure) e
  ·exact det_row (rI_flat s.last) e
  ·exact det_row (rI_flat s.slast) e
  ·exact det_row (rI_flat s.fl) e
 obtain ⟨⟨l0,l1,l2,l3,l4⟩,g0,g1,g2⟩:=stOk_in h
 refine fn_exact (u0:=5) Try.func21 rfl rfl (gets rfl rfl rfl hd_ rfl) ?_
 clear hd_
 refine vc_seq ?_
 refine vc_region hm ?_
 refine gB (u':=6) trivial rfl rfl rfl rfl rfl rfl rfl rfl ?_
 refine gZ (u':=7) trivial rfl rfl rfl rfl rfl rfl rfl rfl ?_
 refine rg_nil nofun ?_
 refine vc_seq ?_
 refine vc_seq ?_
 refine vc_region hm ?_
 refine gL trivial rfl rfl rfl rfl rfl rfl rfl rfl ?_
 refine gC0 [0,1,2,3,4] (impl_StoreOk_c (s:=s) (kk:=kk) (cc:=cc) (sz_ok h)) trivial rfl rfl rfl rfl ⟨rFlat (hls_flat (rS_flat s.now)) rfl (.inl rfl) rfl,rFlat (rS_flat s.sure) rfl (.inl rfl) rfl,rFlat (rI_flat s.last) rfl (.inl rfl) rfl,rFlat (rI_flat s.slast) rfl (.inl rfl) rfl,rFlat (rI_flat s.fl) rfl (.inl rfl) rfl,trivial⟩ rfl rfl rfl rfl rfl ?_
 refine gN trivial rfl rfl rfl rfl ?_
 refine rg_nil nofun ?_
 refine cF rfl (notT h) ?_
 refine vc_skip ?_
 refine vc_seq ?_
 refine vc_region hm ?_
 refine gL trivial rfl rfl rfl rfl rfl rfl rfl rfl ?_
 refine gCn 12 [0,1,2,3,4,7,8,9,10,11] (again_c (s:=s) (kk:=kk) (cc:=cc) (sz_ok h) (stOk_in h).1) trivial rfl rfl rfl rfl ⟨rFlat (hls_flat (rS_flat s.now)) rfl (.inl rfl) rfl,rFlat (rS_flat s.sure) rfl (.inl rfl) rfl,rFlat (rI_flat s.last) rfl (.inl rfl) rfl,rFlat (rI_flat s.slast) rfl (.inl rfl) rfl,rFlat (rI_flat s.fl) rfl (.inl rfl) rfl,trivial⟩ ⟨rS_flat s.now,rS_flat s.sure,rI_flat s.last,rI_flat s.slast,rI_flat s.fl,trivial⟩ rfl rfl rfl rfl ?_
 refine gT trivial rfl rfl rfl rfl rfl rfl rfl rfl rfl rfl (Nat.le_of_ble_eq_true rfl) rfl ?_
 refine rg_nil nofun ?_
 refine vc_seq ?_
 refine vc_region hm ?_
 refine gF trivial rfl rfl rfl rfl rfl ?_
 refine gL trivial rfl rfl rfl rfl rfl rfl rfl rfl ?_
 refine gCn 13 [7,12] (cloneS_c (l:=s.now) (k:=0) (c:=0) (by omega) (by omega)) trivial rfl rfl rfl rfl ⟨rFlat (hls_flat (rS_flat _)) rfl (.inl rfl) rfl,trivial⟩ ⟨rS_flat _,trivial⟩ rfl rfl rfl rfl ?_
 refine gF trivial rfl rfl rfl rfl rfl ?_
 refine gL trivial rfl rfl rfl rfl rfl rfl rfl rfl ?_
 refine gCn 14 [9,13] (cloneI_c (l:=s.last) (k:=0) (c:=0) (by omega) (by omega)) trivial rfl rfl rfl rfl ⟨rFlat (hls_flat (rI_flat _)) rfl (.inl rfl) rfl,trivial⟩ ⟨rI_flat _,trivial⟩ rfl rfl rfl rfl ?_
 refine gF trivial rfl rfl rfl rfl rfl ?_
 refine gT trivial rfl rfl rfl rfl rfl rfl rfl rfl rfl rfl (Nat.le_of_ble_eq_true rfl) rfl ?_
 refine gF trivial rfl rfl rfl rfl rfl ?_
 refine gT trivial rfl rfl rfl rfl rfl rfl rfl rfl rfl rfl (Nat.le_of_ble_eq_true rfl) rfl ?_
 refine rg_nil (fun _=>by kernel_rfl) ?_
 refine vc_seq ?_
 refine vc_region hm ?_
 refine gL trivial rfl rfl rfl rfl rfl rfl rfl rfl ?_
 refine gT trivial rfl rfl rfl rfl rfl rfl rfl rfl rfl rfl (Nat.le_of_ble_eq_true rfl) rfl ?_
 refine rg_nil nofun ?_
 refine vc_ret ?_
 exact ⟨_,endsG [(5,7,⟨rS (syncSt s).now,9,1⟩),(6,12,⟨rS (syncSt s).sure,9,1⟩),(7,9,⟨rI (syncSt s).last,3,1⟩),(8,13,⟨rI (syncSt s).slast,3,1⟩),(9,11,⟨rI (syncSt s).fl,3,1⟩)] (.inr rfl) (.cell rfl rfl rfl rfl rfl .nil) rfl rfl trivial ⟨⟨rfl,(rS_flat (syncSt s).now)⟩,⟨rfl,(rS_flat (syncSt s).sure)⟩,⟨rfl,(rI_flat (syncSt s).last)⟩,⟨rfl,(rI_flat (syncSt s).slast)⟩,⟨rfl,(rI_flat (syncSt s).fl)⟩,trivial⟩ rfl⟩
theorem spec_StoreFall_c {s:Stv} {kk cc:Nat} (h:stOk s=true):FDoes Try.prog 35 [.agg #[.slice (some ⟨0,kk,none⟩) s.now.length cc,.slice (some ⟨1,0,none⟩) s.sure.length 0,.slice (some ⟨2,0,none⟩) s.last.length 0,.slice (some ⟨3,0,none⟩) s.slast.length 0,.slice (some ⟨4,0,none⟩) s.fl.length 0]] (hp [(0,false,one ⟨hls kk (rS s.now),9,0⟩),(1,false,one ⟨rS s.sure,9,0⟩),(2,false,one ⟨rI s.last,3,0⟩),(3,false,one ⟨rI s.slast,3,0⟩),(4,false,one ⟨rI s.fl,3,0⟩)]) (mkE (.agg #[.slice (some ⟨5,0,none⟩) (fallSt s).now.length 0,.slice (some ⟨6,0,none⟩) (fallSt s).sure.length 0,.slice (some ⟨7,0,none⟩) (fallSt s).last.length 0,.slice (some ⟨8,0,none⟩) (fallSt s).slast.length 0,.slice (some ⟨9,0,none⟩) (fallSt s).fl.length 0]) [0,1,2,3,4] [] [(5,⟨rS (fallSt s).now,9,1⟩),(6,⟨rS (fallSt s).sure,9,1⟩),(7,⟨rI (fallSt s).last,3,1⟩),(8,⟨rI (fallSt s).slast,3,1⟩),(9,⟨rI (fallSt s).fl,3,1⟩)]):=by
 have hm:Try.prog.follows .mixedOrders=true:=by kernel_rfl
 have hd_:∀ x_ ∈ ([(0,false,one ⟨hls kk (rS s.now),9,0⟩),(1,false,one ⟨rS s.sure,9,0⟩),(2,false,one ⟨rI s.last,3,0⟩),(3,false,one ⟨rI s.slast,3,0⟩),(4,false,one ⟨rI s.fl,3,0⟩)]:List (Nat × Bool × Fam)),∀ k_ y_,x_.2.2 k_=some y_→DetB (lt 5) y_:=by
  intro x_ hx k_ y_ e
  simp only [List.mem_cons,List.not_mem_nil,or_false] at hx
  rcases hx with rfl|rfl|rfl|rfl|rfl
  ·exact det_row (hls_flat (rS_flat s.now)) e
  ·exact det_row (rS_flat s.sure) e
  ·exact det_row (rI_flat s.last) e
  ·exact det_row (rI_flat s.slast) e
  ·exact det_row (rI_flat s.fl) e
 obtain ⟨⟨l0,l1,l2,l3,l4⟩,g0,g1,g2⟩:=stOk_in h
 refine fn_exact (u0:=5) Try.func35 rfl rfl (gets rfl rfl rfl hd_ rfl) ?_
 clear hd_
 refine vc_seq ?_
 refine vc_region hm ?_
 refine gB (u':=6) trivial rfl rfl rfl rfl rfl rfl rfl rfl ?_
 refine gZ (u':=7) trivial rfl rfl rfl rfl rfl rfl rfl rfl ?_
 refine rg_nil nofun ?_
 refine vc_seq ?_
 refine vc_seq ?_
 refine vc_region hm ?_
 refine gL trivial rfl rfl rfl rfl rfl rfl rfl rfl ?_
 refine gC0 [0,1,2,3,4] (spec_StoreOk_c (s:=s) (kk:=kk) (cc:=cc) (sz_ok h)) trivial rfl rfl rfl rfl ⟨rFlat (hls_flat (rS_flat s.now)) rfl (.inl rfl) rfl,rFlat (rS_flat s.sure) rfl (.inl rfl) rfl,rFlat (rI_flat s.last) rfl (.inl rfl) rfl,rFlat (rI_flat s.slast) rfl (.inl rfl) rfl,rFlat (rI_flat s.fl) rfl (.inl rfl) rfl,trivial⟩ rfl rfl rfl rfl rfl ?_
 refine gN trivial rfl rfl rfl rfl ?_
 refine rg_nil nofun ?_
 refine cF rfl (notT h) ?_
 refine vc_skip ?_
 refine vc_seq ?_
 refine vc_region hm ?_
 refine gL trivial rfl rfl rfl rfl rfl rfl rfl rfl ?_
 refine gCn 12 [0,1,2,3,4,7,8,9,10,11] (l5Copy_c (s:=s) (kk:=kk) (cc:=cc) (sz_ok h)) trivial rfl rfl rfl rfl ⟨rFlat (hls_flat (rS_flat s.now)) rfl (.inl rfl) rfl,rFlat (rS_flat s.sure) rfl (.inl rfl) rfl,rFlat (rI_flat s.last) rfl (.inl rfl) rfl,rFlat (rI_flat s.slast) rfl (.inl rfl) rfl,rFlat (rI_flat s.fl) rfl (.inl rfl) rfl,trivial⟩ ⟨rS_flat s.now,rS_flat s.sure,rI_flat s.last,rI_flat s.slast,rI_flat s.fl,trivial⟩ rfl rfl rfl rfl ?_
 refine gZ (u':=13) trivial rfl rfl rfl rfl rfl rfl rfl rfl ?_
 refine gT trivial rfl rfl rfl rfl rfl rfl rfl rfl rfl rfl (Nat.le_of_ble_eq_true rfl) rfl ?_
 refine rg_nil nofun ?_
 refine vc_seq ?_
 refine vc_region hm ?_
 refine gR (u':=14) (out:=rS []) trivial rfl rfl rfl rfl rfl rfl rfl rfl rfl rfl rfl rfl rfl rfl ?_
 refine gF trivial rfl rfl rfl rfl rfl ?_
 refine gL trivial rfl rfl rfl rfl rfl rfl rfl rfl ?_
 refine gAp (u':=15) trivial rfl rfl rfl rfl rfl rfl rfl rfl rfl rfl rfl rfl rfl (cq_len (n:=1) (fun _=>rfl) 0 s.sure) (cqS_leaf 0 _) (show (0 + s.sure.length) * (16 + 1)≤140737488355328 by omega) (cqS_eq 0 _) (Nat.zero_add _) ?_
 refine gF trivial rfl rfl rfl rfl rfl ?_
 refine gT trivial rfl rfl rfl rfl rfl rfl rfl rfl rfl rfl (Nat.le_of_ble_eq_true rfl) rfl ?_
 refine rg_nil nofun ?_
 refine vc_seq ?_
 refine vc_region hm ?_
 refine gR (u':=16) (out:=rI []) trivial rfl rfl rfl rfl rfl rfl rfl rfl rfl rfl rfl rfl rfl rfl ?_
 refine gF trivial rfl rfl rfl rfl rfl ?_
 refine gL trivial rfl rfl rfl rfl rfl rfl rfl rfl ?_
 refine gAp (u':=17) trivial rfl rfl rfl rfl rfl rfl rfl rfl rfl rfl rfl rfl rfl (cq_len (n:=1) (fun _=>rfl) 0 s.slast) (cqI_leaf 0 _) (show (0 + s.slast.length) * (8 + 1)≤140737488355328 by omega) (cqI_eq 0 _) (Nat.zero_add _) ?_
 refine gF trivial rfl rfl rfl rfl rfl ?_
 refine gT trivial rfl rfl rfl rfl rfl rfl rfl rfl rfl rfl (Nat.le_of_ble_eq_true rfl) rfl ?_
 refine rg_nil nofun ?_
 refine vc_seq ?_
 refine vc_region hm ?_
 refine gL trivial rfl rfl rfl rfl rfl rfl rfl rfl ?_
 refine gT trivial rfl rfl rfl rfl rfl rfl rfl rfl rfl rfl (Nat.le_of_ble_eq_true rfl) rfl ?_
 refine rg_nil nofun ?_
 refine vc_ret ?_
 exact ⟨_,endsG [(5,14,⟨rS (fallSt s).now,9,1⟩),(6,8,⟨rS (fallSt s).sure,9,1⟩),(7,16,⟨rI (fallSt s).last,3,1⟩),(8,10,⟨rI (fallSt s).slast,3,1⟩),(9,11,⟨rI (fallSt s).fl,3,1⟩)] (.inr rfl) (.cell rfl rfl rfl rfl rfl .nil) rfl rfl trivial ⟨⟨rfl,(rS_flat (fallSt s).now)⟩,⟨rfl,(rS_flat (fallSt s).sure)⟩,⟨rfl,(rI_flat (fallSt s).last)⟩,⟨rfl,(rI_flat (fallSt s).slast)⟩,⟨rfl,(rI_flat (fallSt s).fl)⟩,trivial⟩ rfl⟩
theorem impl_StoreFall_c {s:Stv} {kk cc:Nat} (h:stOk s=true):FDoes Try.prog 20 [.agg #[.slice (some ⟨0,kk,none⟩) s.now.length cc,.slice (some ⟨1,0,none⟩) s.sure.length 0,.slice (some ⟨2,0,none⟩) s.last.length 0,.slice (some ⟨3,0,none⟩) s.slast.length 0,.slice (some ⟨4,0,none⟩) s.fl.length 0]] (hp [(0,false,one ⟨hls kk (rS s.now),9,0⟩),(1,false,one ⟨rS s.sure,9,0⟩),(2,false,one ⟨rI s.last,3,0⟩),(3,false,one ⟨rI s.slast,3,0⟩),(4,false,one ⟨rI s.fl,3,0⟩)]) (mkE (.agg #[.slice (some ⟨5,0,none⟩) (fallSt s).now.length 0,.slice (some ⟨6,0,none⟩) (fallSt s).sure.length 0,.slice (some ⟨7,0,none⟩) (fallSt s).last.length 0,.slice (some ⟨8,0,none⟩) (fallSt s).slast.length 0,.slice (some ⟨9,0,none⟩) (fallSt s).fl.length 0]) [0,1,2,3,4] [] [(5,⟨rS (fallSt s).now,9,1⟩),(6,⟨rS (fallSt s).sure,9,1⟩),(7,⟨rI (fallSt s).last,3,1⟩),(8,⟨rI (fallSt s).slast,3,1⟩),(9,⟨rI (fallSt s).fl,3,1⟩)]):=by
 have hm:Try.prog.follows .mixedOrders=true:=by kernel_rfl
 have hd_:∀ x_ ∈ ([(0,false,one ⟨hls kk (rS s.now),9,0⟩),(1,false,one ⟨rS s.sure,9,0⟩),(2,false,one ⟨rI s.last,3,0⟩),(3,false,one ⟨rI s.slast,3,0⟩),(4,false,one ⟨rI s.fl,3,0⟩)]:List (Nat × Bool × Fam)),∀ k_ y_,x_.2.2 k_=some y_→DetB (lt 5) y_:=by
  intro x_ hx k_ y_ e
  simp only [List.mem_cons,List.not_mem_nil,or_false] at hx
  rcases hx with rfl|rfl|rfl|rfl|rfl
  ·exact det_row (hls_flat (rS_flat s.now)) e
  ·exact det_row (rS_flat s.sure) e
  ·exact det_row (rI_flat s.last) e
  ·exact det_row (rI_flat s.slast) e
  ·exact det_row (rI_flat s.fl) e
 obtain ⟨⟨l0,l1,l2,l3,l4⟩,g0,g1,g2⟩:=stOk_in h
 refine fn_exact (u0:=5) Try.func20 rfl rfl (gets rfl rfl rfl hd_ rfl) ?_
 clear hd_
 refine vc_seq ?_
 refine vc_region hm ?_
 refine gB (u':=6) trivial rfl rfl rfl rfl rfl rfl rfl rfl ?_
 refine gZ (u':=7) trivial rfl rfl rfl rfl rfl rfl rfl rfl ?_
 refine rg_nil nofun ?_
 refine vc_seq ?_
 refine vc_seq ?_
 refine vc_region hm ?_
 refine gL trivial rfl rfl rfl rfl rfl rfl rfl rfl ?_
 refine gC0 [0,1,2,3,4] (impl_StoreOk_c (s:=s) (kk:=kk) (cc:=cc) (sz_ok h)) trivial rfl rfl rfl rfl ⟨rFlat (hls_flat (rS_flat s.now)) rfl (.inl rfl) rfl,rFlat (rS_flat s.sure) rfl (.inl rfl) rfl,rFlat (rI_flat s.last) rfl (.inl rfl) rfl,rFlat (rI_flat s.slast) rfl (.inl rfl) rfl,rFlat (rI_flat s.fl) rfl (.inl rfl) rfl,trivial⟩ rfl rfl rfl rfl rfl ?_
 refine gN trivial rfl rfl rfl rfl ?_
 refine rg_nil nofun ?_
 refine cF rfl (notT h) ?_
 refine vc_skip ?_
 refine vc_seq ?_
 refine vc_region hm ?_
 refine gL trivial rfl rfl rfl rfl rfl rfl rfl rfl ?_
 refine gCn 12 [0,1,2,3,4,7,8,9,10,11] (again_c (s:=s) (kk:=kk) (cc:=cc) (sz_ok h) (stOk_in h).1) trivial rfl rfl rfl rfl ⟨rFlat (hls_flat (rS_flat s.now)) rfl (.inl rfl) rfl,rFlat (rS_flat s.sure) rfl (.inl rfl) rfl,rFlat (rI_flat s.last) rfl (.inl rfl) rfl,rFlat (rI_flat s.slast) rfl (.inl rfl) rfl,rFlat (rI_flat s.fl) rfl (.inl rfl) rfl,trivial⟩ ⟨rS_flat s.now,rS_flat s.sure,rI_flat s.last,rI_flat s.slast,rI_flat s.fl,trivial⟩ rfl rfl rfl rfl ?_
 refine gT trivial rfl rfl rfl rfl rfl rfl rfl rfl rfl rfl (Nat.le_of_ble_eq_true rfl) rfl ?_
 refine rg_nil nofun ?_
 refine vc_seq ?_
 refine vc_region hm ?_
 refine gF trivial rfl rfl rfl rfl rfl ?_
 refine gL trivial rfl rfl rfl rfl rfl rfl rfl rfl ?_
 refine gCn 13 [8,12] (cloneS_c (l:=s.sure) (k:=0) (c:=0) (by omega) (by omega)) trivial rfl rfl rfl rfl ⟨rFlat (hls_flat (rS_flat _)) rfl (.inl rfl) rfl,trivial⟩ ⟨rS_flat _,trivial⟩ rfl rfl rfl rfl ?_
 refine gF trivial rfl rfl rfl rfl rfl ?_
 refine gL trivial rfl rfl rfl rfl rfl rfl rfl rfl ?_
 refine gCn 14 [10,13] (cloneI_c (l:=s.slast) (k:=0) (c:=0) (by omega) (by omega)) trivial rfl rfl rfl rfl ⟨rFlat (hls_flat (rI_flat _)) rfl (.inl rfl) rfl,trivial⟩ ⟨rI_flat _,trivial⟩ rfl rfl rfl rfl ?_
 refine gF trivial rfl rfl rfl rfl rfl ?_
 refine gT trivial rfl rfl rfl rfl rfl rfl rfl rfl rfl rfl (Nat.le_of_ble_eq_true rfl) rfl ?_
 refine gF trivial rfl rfl rfl rfl rfl ?_
 refine gT trivial rfl rfl rfl rfl rfl rfl rfl rfl rfl rfl (Nat.le_of_ble_eq_true rfl) rfl ?_
 refine rg_nil (fun _=>by kernel_rfl) ?_
 refine vc_seq ?_
 refine vc_region hm ?_
 refine gL trivial rfl rfl rfl rfl rfl rfl rfl rfl ?_
 refine gT trivial rfl rfl rfl rfl rfl rfl rfl rfl rfl rfl (Nat.le_of_ble_eq_true rfl) rfl ?_
 refine rg_nil nofun ?_
 refine vc_ret ?_
 exact ⟨_,endsG [(5,12,⟨rS (fallSt s).now,9,1⟩),(6,8,⟨rS (fallSt s).sure,9,1⟩),(7,13,⟨rI (fallSt s).last,3,1⟩),(8,10,⟨rI (fallSt s).slast,3,1⟩),(9,11,⟨rI (fallSt s).fl,3,1⟩)] (.inr rfl) (.cell rfl rfl rfl rfl rfl .nil) rfl rfl trivial ⟨⟨rfl,(rS_flat (fallSt s).now)⟩,⟨rfl,(rS_flat (fallSt s).sure)⟩,⟨rfl,(rI_flat (fallSt s).last)⟩,⟨rfl,(rI_flat (fallSt s).slast)⟩,⟨rfl,(rI_flat (fallSt s).fl)⟩,trivial⟩ rfl⟩
theorem spec_StoreFence_c {s:Stv} {kk cc:Nat} {who ep:Int} (h:stOk s=true):∃ E,FDoes Try.prog 43 [.agg #[.slice (some ⟨0,kk,none⟩) s.now.length cc,.slice (some ⟨1,0,none⟩) s.sure.length 0,.slice (some ⟨2,0,none⟩) s.last.length 0,.slice (some ⟨3,0,none⟩) s.slast.length 0,.slice (some ⟨4,0,none⟩) s.fl.length 0],.int .i64 who,.int .i64 ep] (hp [(0,false,one ⟨hls kk (rS s.now),9,0⟩),(1,false,one ⟨rS s.sure,9,0⟩),(2,false,one ⟨rI s.last,3,0⟩),(3,false,one ⟨rI s.slast,3,0⟩),(4,false,one ⟨rI s.fl,3,0⟩)]) E∧∃ (x:Stv) (b:Bool),fenceD s who ep=(x,b)∧E=mkF (.tuple #[.agg #[.slice (some ⟨5,0,none⟩) x.now.length 0,.slice (some ⟨6,0,none⟩) x.sure.length 0,.slice (some ⟨7,0,none⟩) x.last.length 0,.slice (some ⟨8,0,none⟩) x.slast.length 0,.slice (some ⟨9,0,none⟩) x.fl.length 0],.bool b]) [0,1,2,3,4] [] [(5,one ⟨rS x.now,9,1⟩),(6,one ⟨rS x.sure,9,1⟩),(7,one ⟨rI x.last,3,1⟩),(8,one ⟨rI x.slast,3,1⟩),(9,one ⟨rI x.fl,3,1⟩)]:=by
 have hm:Try.prog.follows .mixedOrders=true:=by kernel_rfl
 have hd_:∀ x_ ∈ ([(0,false,one ⟨hls kk (rS s.now),9,0⟩),(1,false,one ⟨rS s.sure,9,0⟩),(2,false,one ⟨rI s.last,3,0⟩),(3,false,one ⟨rI s.slast,3,0⟩),(4,false,one ⟨rI s.fl,3,0⟩)]:List (Nat × Bool × Fam)),∀ k_ y_,x_.2.2 k_=some y_→DetB (lt 5) y_:=by
  intro x_ hx k_ y_ e
  simp only [List.mem_cons,List.not_mem_nil,or_false] at hx
  rcases hx with rfl|rfl|rfl|rfl|rfl
  ·exact det_row (hls_flat (rS_flat s.now)) e
  ·exact det_row (rS_flat s.sure) e
  ·exact det_row (rI_flat s.last) e
  ·exact det_row (rI_flat s.slast) e
  ·exact det_row (rI_flat s.fl) e
 obtain ⟨⟨l0,l1,l2,l3,l4⟩,g0,g1,g2⟩:=stOk_in h
 refine fn_some (u0:=5) Try.func43 rfl rfl (gets rfl rfl rfl hd_ rfl) ?_
 clear hd_
 refine vc_seq ?_
 refine vc_region hm ?_
 refine gB (u':=6) trivial rfl rfl rfl rfl rfl rfl rfl rfl ?_
 refine gZ (u':=7) trivial rfl rfl rfl rfl rfl rfl rfl rfl ?_
 refine gM trivial (.inr rfl) rfl rfl rfl ?_
 refine rg_nil nofun ?_
 refine vc_seq ?_
 refine vc_seq ?_
 refine vc_region hm ?_
 refine gL trivial rfl rfl rfl rfl rfl rfl rfl rfl ?_
 refine gC0 [0,1,2,3,4] (spec_StoreOk_c (s:=s) (kk:=kk) (cc:=cc) (sz_ok h)) trivial rfl rfl rfl rfl ⟨rFlat (hls_flat (rS_flat s.now)) rfl (.inl rfl) rfl,rFlat (rS_flat s.sure) rfl (.inl rfl) rfl,rFlat (rI_flat s.last) rfl (.inl rfl) rfl,rFlat (rI_flat s.slast) rfl (.inl rfl) rfl,rFlat (rI_flat s.fl) rfl (.inl rfl) rfl,trivial⟩ rfl rfl rfl rfl rfl ?_
 refine gN trivial rfl rfl rfl rfl ?_
 refine rg_nil nofun ?_
 refine cF rfl (notT h) ?_
 refine vc_skip ?_
 refine vc_seq ?_
 refine vc_region hm ?_
 refine gL trivial rfl rfl rfl rfl rfl rfl rfl rfl ?_
 refine gCn 12 [0,1,2,3,4,7,8,9,10,11] (l5Copy_c (s:=s) (kk:=kk) (cc:=cc) (sz_ok h)) trivial rfl rfl rfl rfl ⟨rFlat (hls_flat (rS_flat s.now)) rfl (.inl rfl) rfl,rFlat (rS_flat s.sure) rfl (.inl rfl) rfl,rFlat (rI_flat s.last) rfl (.inl rfl) rfl,rFlat (rI_flat s.slast) rfl (.inl rfl) rfl,rFlat (rI_flat s.fl) rfl (.inl rfl) rfl,trivial⟩ ⟨rS_flat s.now,rS_flat s.sure,rI_flat s.last,rI_flat s.slast,rI_flat s.fl,trivial⟩ rfl rfl rfl rfl ?_
 refine gZ (u':=13) trivial rfl rfl rfl rfl rfl rfl rfl rfl ?_
 refine gT trivial rfl rfl rfl rfl rfl rfl rfl rfl rfl rfl (Nat.le_of_ble_eq_true rfl) rfl ?_
 refine rg_nil nofun ?_
 refine vc_seq ?_
 refine vc_seq ?_
 refine vc_region hm ?_
 refine gM trivial (.inl rfl) rfl rfl rfl ?_
 refine gC0 [] (spec_l4Who_c who) trivial rfl rfl rfl rfl (by trivial) rfl rfl rfl rfl rfl ?_
 refine gN trivial rfl rfl rfl rfl ?_
 refine gM trivial (.inl rfl) rfl rfl rfl ?_
 refine gI2 (d:=18) rfl (fun c18=>?_) (fun c18=>?_)
 ·skip
  have n18:=unT c18
  refine gO ⟨_,_,rfl,rfl,c18⟩ rfl rfl ?_
  refine gO ⟨_,_,rfl,rfl,c18⟩ rfl rfl ?_
  refine gPT trivial rfl rfl c18 rfl rfl rfl ?_
  refine gM trivial (.inl rfl) rfl rfl rfl ?_
  refine gO ⟨_,_,rfl,rfl,rfl⟩ rfl rfl ?_
  refine gO ⟨_,_,rfl,rfl,rfl⟩ rfl rfl ?_
  refine gPT trivial rfl rfl rfl rfl rfl rfl ?_
  refine rg_nil nofun ?_
  refine cT rfl rfl ?_
  refine vc_seq ?_
  refine vc_region hm ?_
  refine gL trivial rfl rfl rfl rfl rfl rfl rfl rfl ?_
  refine gT trivial rfl rfl rfl rfl rfl rfl rfl rfl rfl rfl (Nat.le_of_ble_eq_true rfl) rfl ?_
  refine gM trivial (.inr rfl) rfl rfl rfl ?_
  refine rg_nil nofun ?_
  refine vc_ret ?_
  exact ⟨mkF (.tuple #[.agg #[.slice (some ⟨5,0,none⟩) s.now.length 0,.slice (some ⟨6,0,none⟩) s.sure.length 0,.slice (some ⟨7,0,none⟩) s.last.length 0,.slice (some ⟨8,0,none⟩) s.slast.length 0,.slice (some ⟨9,0,none⟩) s.fl.length 0],.bool false]) [0,1,2,3,4] [] [(5,one ⟨rS s.now,9,1⟩),(6,one ⟨rS s.sure,9,1⟩),(7,one ⟨rI s.last,3,1⟩),(8,one ⟨rI s.slast,3,1⟩),(9,one ⟨rI s.fl,3,1⟩)],_,endsT [(5,7,one ⟨rS s.now,9,1⟩),(6,8,one ⟨rS s.sure,9,1⟩),(7,9,one ⟨rI s.last,3,1⟩),(8,10,one ⟨rI s.slast,3,1⟩),(9,11,one ⟨rI s.fl,3,1⟩)] (.inr rfl) (.cell rfl rfl rfl rfl rfl (.tmp rfl rfl .nil)) rfl rfl trivial ⟨asFlat rfl (rS_flat s.now),asFlat rfl (rS_flat s.sure),asFlat rfl (rI_flat s.last),asFlat rfl (rI_flat s.slast),asFlat rfl (rI_flat s.fl),trivial⟩ rfl,s,false,fence_F (fun e=>(whoF n18) e.1),rfl⟩
 ·skip
  have n18:=unF c18
  refine gM ⟨_,_,rfl,rfl,c18⟩ (.inl rfl) rfl rfl rfl ?_
  refine gI ⟨_,_,rfl,rfl,c18⟩ rfl rfl rfl rfl rfl rfl ?_
  refine gPF trivial rfl rfl c18 rfl rfl rfl ?_
  refine gM trivial (.inl rfl) rfl rfl rfl ?_
  refine gI2 (d:=22) rfl (fun c22=>?_) (fun c22=>?_)
  ·skip
   have p22:=of_decide_eq_true c22
   refine gO ⟨_,_,rfl,rfl,c22⟩ rfl rfl ?_
   refine gO ⟨_,_,rfl,rfl,c22⟩ rfl rfl ?_
   refine gPT trivial rfl rfl c22 rfl rfl rfl ?_
   refine rg_nil nofun ?_
   refine cT rfl rfl ?_
   refine vc_seq ?_
   refine vc_region hm ?_
   refine gL trivial rfl rfl rfl rfl rfl rfl rfl rfl ?_
   refine gT trivial rfl rfl rfl rfl rfl rfl rfl rfl rfl rfl (Nat.le_of_ble_eq_true rfl) rfl ?_
   refine gM trivial (.inr rfl) rfl rfl rfl ?_
   refine rg_nil nofun ?_
   refine vc_ret ?_
   exact ⟨mkF (.tuple #[.agg #[.slice (some ⟨5,0,none⟩) s.now.length 0,.slice (some ⟨6,0,none⟩) s.sure.length 0,.slice (some ⟨7,0,none⟩) s.last.length 0,.slice (some ⟨8,0,none⟩) s.slast.length 0,.slice (some ⟨9,0,none⟩) s.fl.length 0],.bool false]) [0,1,2,3,4] [] [(5,one ⟨rS s.now,9,1⟩),(6,one ⟨rS s.sure,9,1⟩),(7,one ⟨rI s.last,3,1⟩),(8,one ⟨rI s.slast,3,1⟩),(9,one ⟨rI s.fl,3,1⟩)],_,endsT [(5,7,one ⟨rS s.now,9,1⟩),(6,8,one ⟨rS s.sure,9,1⟩),(7,9,one ⟨rI s.last,3,1⟩),(8,10,one ⟨rI s.slast,3,1⟩),(9,11,one ⟨rI s.fl,3,1⟩)] (.inr rfl) (.cell rfl rfl rfl rfl rfl (.tmp rfl rfl .nil)) rfl rfl trivial ⟨asFlat rfl (rS_flat s.now),asFlat rfl (rS_flat s.sure),asFlat rfl (rI_flat s.last),asFlat rfl (rI_flat s.slast),asFlat rfl (rI_flat s.fl),trivial⟩ rfl,s,false,fence_F (by omega),rfl⟩
  ·skip
   have p22:=of_decide_eq_false c22
   refine gM ⟨_,_,rfl,rfl,c22⟩ (.inl rfl) rfl rfl rfl ?_
   refine gI ⟨_,_,rfl,rfl,c22⟩ rfl rfl rfl rfl rfl rfl ?_
   refine gPF trivial rfl rfl c22 rfl rfl rfl ?_
   refine rg_nil nofun ?_
   refine cI rfl (fun c25=>?_) (fun c25=>?_)
   ·skip
    have p25:=of_decide_eq_true c25
    refine vc_seq ?_
    refine vc_region hm ?_
    refine gL trivial rfl rfl rfl rfl rfl rfl rfl rfl ?_
    refine gT trivial rfl rfl rfl rfl rfl rfl rfl rfl rfl rfl (Nat.le_of_ble_eq_true rfl) rfl ?_
    refine gM trivial (.inr rfl) rfl rfl rfl ?_
    refine rg_nil nofun ?_
    refine vc_ret ?_
    exact ⟨mkF (.tuple #[.agg #[.slice (some ⟨5,0,none⟩) s.now.length 0,.slice (some ⟨6,0,none⟩) s.sure.length 0,.slice (some ⟨7,0,none⟩) s.last.length 0,.slice (some ⟨8,0,none⟩) s.slast.length 0,.slice (some ⟨9,0,none⟩) s.fl.length 0],.bool false]) [0,1,2,3,4] [] [(5,one ⟨rS s.now,9,1⟩),(6,one ⟨rS s.sure,9,1⟩),(7,one ⟨rI s.last,3,1⟩),(8,one ⟨rI s.slast,3,1⟩),(9,one ⟨rI s.fl,3,1⟩)],_,endsT [(5,7,one ⟨rS s.now,9,1⟩),(6,8,one ⟨rS s.sure,9,1⟩),(7,9,one ⟨rI s.last,3,1⟩),(8,10,one ⟨rI s.slast,3,1⟩),(9,11,one ⟨rI s.fl,3,1⟩)] (.inr rfl) (.cell rfl rfl rfl rfl rfl (.tmp rfl rfl .nil)) rfl rfl trivial ⟨asFlat rfl (rS_flat s.now),asFlat rfl (rS_flat s.sure),asFlat rfl (rI_flat s.last),asFlat rfl (rI_flat s.slast),asFlat rfl (rI_flat s.fl),trivial⟩ rfl,s,false,fence_F (by omega),rfl⟩
   ·skip
    have p25:=of_decide_eq_false c25
    refine vc_skip ?_
    refine vc_seq ?_
    refine vc_region hm ?_
    refine gF trivial rfl rfl rfl rfl rfl ?_
    refine gL trivial rfl rfl rfl rfl rfl rfl rfl rfl ?_
    refine gM trivial (.inl rfl) rfl rfl rfl ?_
    refine gF trivial rfl rfl rfl rfl rfl ?_
    refine gL trivial rfl rfl rfl rfl rfl rfl rfl rfl ?_
    refine gM trivial (.inl rfl) rfl rfl rfl ?_
    refine gX trivial rfl rfl rfl rfl rfl rfl rfl rfl (whoT n18).1 (by have:=whoT n18;omega) rI_ne ?_
    refine gL trivial rfl rfl rfl rfl rfl rfl rfl (lI (whoT n18).1 (by have:=whoT n18;omega)) ?_
    refine gM trivial (.inl rfl) rfl rfl rfl ?_
    refine gC0 [] (spec_l1Max_c (at_ s.fl who) ep) trivial rfl rfl rfl rfl (by trivial) rfl rfl rfl rfl rfl ?_
    refine gX trivial rfl rfl rfl rfl rfl rfl rfl rfl (whoT n18).1 (by have:=whoT n18;omega) rI_ne ?_
    refine gT trivial rfl rfl rfl rfl rfl rfl rfl rfl rfl rfl (kI (whoT n18).1 (by have:=whoT n18;omega)) (sI (whoT n18).1 (by have:=whoT n18;omega)) ?_
    refine rg_nil (fun _=>by kernel_rfl) ?_
    refine vc_seq ?_
    refine vc_region hm ?_
    refine gL trivial rfl rfl rfl rfl rfl rfl rfl rfl ?_
    refine gT trivial rfl rfl rfl rfl rfl rfl rfl rfl rfl rfl (Nat.le_of_ble_eq_true rfl) rfl ?_
    refine gM trivial (.inr rfl) rfl rfl rfl ?_
    refine rg_nil nofun ?_
    refine vc_ret ?_
    exact ⟨mkF (.tuple #[.agg #[.slice (some ⟨5,0,none⟩) (fencedSt s who ep).now.length 0,.slice (some ⟨6,0,none⟩) (fencedSt s who ep).sure.length 0,.slice (some ⟨7,0,none⟩) (fencedSt s who ep).last.length 0,.slice (some ⟨8,0,none⟩) (fencedSt s who ep).slast.length 0,.slice (some ⟨9,0,none⟩) (fencedSt s who ep).fl.length 0],.bool true]) [0,1,2,3,4] [] [(5,one ⟨rS (fencedSt s who ep).now,9,1⟩),(6,one ⟨rS (fencedSt s who ep).sure,9,1⟩),(7,one ⟨rI (fencedSt s who ep).last,3,1⟩),(8,one ⟨rI (fencedSt s who ep).slast,3,1⟩),(9,one ⟨rI (fencedSt s who ep).fl,3,1⟩)],_,endsT [(5,7,one ⟨rS (fencedSt s who ep).now,9,1⟩),(6,8,one ⟨rS (fencedSt s who ep).sure,9,1⟩),(7,9,one ⟨rI (fencedSt s who ep).last,3,1⟩),(8,10,one ⟨rI (fencedSt s who ep).slast,3,1⟩),(9,11,one ⟨rI (fencedSt s who ep).fl,3,1⟩)] (.inr rfl) (.cell rfl rfl rfl rfl rfl (.tmp rfl rfl .nil)) (by rw [fenced_n];rfl) rfl trivial ⟨asFlat rfl (rS_flat (fencedSt s who ep).now),asFlat rfl (rS_flat (fencedSt s who ep).sure),asFlat rfl (rI_flat (fencedSt s who ep).last),asFlat rfl (rI_flat (fencedSt s who ep).slast),asFlat rfl (rI_flat (fencedSt s who ep).fl),trivial⟩ rfl,(fencedSt s who ep),true,fence_T ⟨whoT n18,by omega⟩,rfl⟩
theorem det_code {u k t e n:Nat} {l:List Int} {y:Blk} (h:one ⟨hls k (rY l),t,e⟩ n=some y):DetB (lt u) y:=det_row (hls_flat (rY_flat l)) h
theorem pick_c {l:List Int} {k n t0:Nat} {p:Int} (hl:ByL l) (hn:n≤l.length) (hp0:0≤p) (hp1:p≤1000000) {m:Int} (h1:1≤m) (h2:m≤1000000):∃ E,FDoes Try.prog 60 [.pointer (some ⟨1,0,none⟩),.int .i64 m] (hp [(0,false,one ⟨hls k (rY l),t0,0⟩),(1,true,one ⟨[.slice (some ⟨0,k,none⟩) n 0,.int .i64 (p)],83,2⟩)]) E∧∃ x:Int,0≤x∧x<m∧E=mkF (.int .i64 x) [0] [(1,one ⟨[.slice (some ⟨0,k,none⟩) n 0,.int .i64 (p + 1)],83,2⟩)] []:=by
 have hm:Try.prog.follows .mixedOrders=true:=by kernel_rfl
 have hd_:∀ x_ ∈ ([(0,false,one ⟨hls k (rY l),t0,0⟩),(1,true,one ⟨[.slice (some ⟨0,k,none⟩) n 0,.int .i64 (p)],83,2⟩)]:List (Nat × Bool × Fam)),∀ k_ y_,x_.2.2 k_=some y_→DetB (lt 2) y_:=by
  intro x_ hx k_ y_ e
  simp only [List.mem_cons,List.not_mem_nil,or_false] at hx
  rcases hx with rfl|rfl
  ·exact det_code e
  ·exact det_ok rfl e
 refine fn_some (u0:=2) Try.func60 rfl rfl (gets rfl rfl rfl hd_ rfl) ?_
 clear hd_
 refine vc_seq ?_
 refine vc_region hm ?_
 refine gM trivial (.inr rfl) rfl rfl rfl ?_
 refine rg_nil nofun ?_
 refine vc_seq ?_
 refine vc_region hm ?_
 refine gM trivial (.inl rfl) rfl rfl rfl ?_
 refine gM trivial (.inl rfl) rfl rfl rfl ?_
 refine gNilP trivial rfl rfl rfl rfl ?_
 refine gF trivial rfl rfl rfl rfl rfl ?_
 refine gL trivial rfl rfl rfl rfl rfl rfl rfl rfl ?_
 refine gA trivial rfl rfl rfl rfl rfl rfl (by omega) ?_
 refine gNilP trivial rfl rfl rfl rfl ?_
 refine gF trivial rfl rfl rfl rfl rfl ?_
 refine gT trivial rfl rfl rfl rfl rfl rfl rfl rfl rfl rfl (Nat.le_of_ble_eq_true rfl) rfl ?_
 refine rg_nil nofun ?_
 refine vc_seq ?_
 refine vc_seq ?_
 refine vc_region hm ?_
 refine gM trivial (.inl rfl) rfl rfl rfl ?_
 refine gI trivial rfl rfl rfl rfl rfl rfl ?_
 refine gM trivial (.inl rfl) rfl rfl rfl ?_
 refine gM ⟨_,_,rfl,rfl,(decide_eq_false (by omega))⟩ (.inl rfl) rfl rfl rfl ?_
 refine gNilP ⟨_,_,rfl,rfl,(decide_eq_false (by omega))⟩ rfl rfl rfl rfl ?_
 refine gF ⟨_,_,rfl,rfl,(decide_eq_false (by omega))⟩ rfl rfl rfl rfl rfl ?_
 refine gL ⟨_,_,rfl,rfl,(decide_eq_false (by omega))⟩ rfl rfl rfl rfl rfl rfl rfl rfl ?_
 refine gK ⟨_,_,rfl,rfl,(decide_eq_false (by omega))⟩ rfl rfl rfl rfl rfl rfl (hls_nil fun e=>(by have:=rY_nil e;omega)) ?_
 refine gI ⟨_,_,rfl,rfl,(decide_eq_false (by omega))⟩ rfl rfl rfl rfl rfl rfl ?_
 refine gPF trivial rfl rfl (decide_eq_false (by omega)) rfl rfl rfl ?_
 refine rg_nil nofun ?_
 refine cI rfl (fun c24=>?_) (fun c24=>?_)
 ·skip
  have p24:=eq_of_beq c24
  refine vc_seq ?_
  refine vc_region hm ?_
  refine gM trivial (.inr rfl) rfl rfl rfl ?_
  refine rg_nil nofun ?_
  refine vc_ret ?_
  exact ⟨mkF (.int .i64 (0)) [0] [(1,one ⟨[.slice (some ⟨0,k,none⟩) n 0,.int .i64 (p + 1)],83,2⟩)] [],_,endsT [] (.inr rfl) (.tmp rfl rfl .nil) rfl rfl ⟨upOne rfl rfl rfl,trivial⟩ trivial rfl,_,(by omega),(by omega),rfl⟩
 ·skip
  have p24:=ne_of_beq_false c24
  refine vc_skip ?_
  refine vc_seq ?_
  refine vc_region hm ?_
  refine gM trivial (.inl rfl) rfl rfl rfl ?_
  refine gNilP trivial rfl rfl rfl rfl ?_
  refine gF trivial rfl rfl rfl rfl rfl ?_
  refine gL trivial rfl rfl rfl rfl rfl rfl rfl rfl ?_
  refine gA trivial rfl rfl rfl rfl rfl rfl (by omega) ?_
  refine gM trivial (.inr rfl) rfl rfl rfl ?_
  refine rg_nil nofun ?_
  refine vc_seq ?_
  refine vc_seq ?_
  refine vc_region hm ?_
  refine gM trivial (.inl rfl) rfl rfl rfl ?_
  refine gM trivial (.inl rfl) rfl rfl rfl ?_
  refine gNilP trivial rfl rfl rfl rfl ?_
  refine gF trivial rfl rfl rfl rfl rfl ?_
  refine gL trivial rfl rfl rfl rfl rfl rfl rfl rfl ?_
  refine gK trivial rfl rfl rfl rfl rfl rfl (hls_nil fun e=>(by have:=rY_nil e;omega)) ?_
  refine gI trivial rfl rfl rfl rfl rfl rfl ?_
  refine rg_nil nofun ?_
  refine cI rfl (fun c36=>?_) (fun c36=>?_)
  ·skip
   have p36:=of_decide_eq_true c36
   refine vc_seq ?_
   refine vc_region hm ?_
   refine gM trivial (.inl rfl) rfl rfl rfl ?_
   refine gNilP trivial rfl rfl rfl rfl ?_
   refine gF trivial rfl rfl rfl rfl rfl ?_
   refine gL trivial rfl rfl rfl rfl rfl rfl rfl rfl ?_
   refine gM trivial (.inl rfl) rfl rfl rfl ?_
   refine gX trivial rfl rfl rfl rfl rfl rfl rfl rfl (by omega) p36 (fun h=>hls_ne (rY_ne (by omega))) ?_
   refine gL trivial rfl rfl rfl rfl rfl rfl rfl (wR (lY (by omega) (by omega)) rfl) ?_
   refine gCvB trivial rfl rfl rfl rfl rfl rfl (by have:=byL_at hl (i:=p + 1 - 1) (by omega) (by omega);omega) ?_
   refine gM trivial (.inl rfl) rfl rfl rfl ?_
   refine gRem trivial rfl rfl rfl rfl rfl (by omega) ?_
   refine gM trivial (.inr rfl) rfl rfl rfl ?_
   refine rg_nil nofun ?_
   refine vc_ret ?_
   exact ⟨mkF (.int .i64 (Int.tmod (at_ l (p + 1 - 1)) m)) [0] [(1,one ⟨[.slice (some ⟨0,k,none⟩) n 0,.int .i64 (p + 1)],83,2⟩)] [],_,endsT [] (.inr rfl) (.tmp rfl rfl .nil) rfl rfl ⟨upOne rfl rfl rfl,trivial⟩ trivial rfl,_,(tmod_in (byL_at hl (by omega) (by omega)).1 (by omega)).1,(tmod_in (byL_at hl (by omega) (by omega)).1 (by omega)).2,rfl⟩
  ·skip
   have p36:=of_decide_eq_false c36
   refine vc_skip ?_
   refine vc_seq ?_
   refine vc_region hm ?_
   refine gM trivial (.inl rfl) rfl rfl rfl ?_
   refine gNilP trivial rfl rfl rfl rfl ?_
   refine gF trivial rfl rfl rfl rfl rfl ?_
   refine gL trivial rfl rfl rfl rfl rfl rfl rfl rfl ?_
   refine gM trivial (.inl rfl) rfl rfl rfl ?_
   refine gM trivial (.inl rfl) rfl rfl rfl ?_
   refine gNilP trivial rfl rfl rfl rfl ?_
   refine gF trivial rfl rfl rfl rfl rfl ?_
   refine gL trivial rfl rfl rfl rfl rfl rfl rfl rfl ?_
   refine gK trivial rfl rfl rfl rfl rfl rfl (hls_nil fun e=>(by have:=rY_nil e;omega)) ?_
   refine gRem trivial rfl rfl rfl rfl rfl (by omega) ?_
   refine gX trivial rfl rfl rfl rfl rfl rfl rfl rfl (tmod_in (x:=p + 1 - 1) (n:=n) (by omega) (by omega)).1 (tmod_in (x:=p + 1 - 1) (n:=n) (by omega) (by omega)).2 (fun h=>hls_ne (rY_ne (by omega))) ?_
   refine gL trivial rfl rfl rfl rfl rfl rfl rfl (wR (lY (tmod_in (x:=p + 1 - 1) (n:=n) (by omega) (by omega)).1 (Int.lt_of_lt_of_le (tmod_in (x:=p + 1 - 1) (n:=n) (by omega) (by omega)).2 (by omega))) rfl) ?_
   refine gCvB trivial rfl rfl rfl rfl rfl rfl (by have:=byL_at hl (i:=Int.tmod (p + 1 - 1) n) (tmod_in (x:=p + 1 - 1) (n:=n) (by omega) (by omega)).1 (Int.lt_of_lt_of_le (tmod_in (x:=p + 1 - 1) (n:=n) (by omega) (by omega)).2 (by omega));omega) ?_
   refine gA trivial rfl rfl rfl rfl rfl rfl (by have b1:=byL_at hl (i:=Int.tmod (p + 1 - 1) n) (tmod_in (x:=p + 1 - 1) (n:=n) (by omega) (by omega)).1 (Int.lt_of_lt_of_le (tmod_in (x:=p + 1 - 1) (n:=n) (by omega) (by omega)).2 (by omega));have b2:=byL_at hl (i:=Int.tmod ((p + 1 - 1) * 7 + 3) n) (tmod_in (x:=(p + 1 - 1) * 7 + 3) (n:=n) (by omega) (by omega)).1 (Int.lt_of_lt_of_le (tmod_in (x:=(p + 1 - 1) * 7 + 3) (n:=n) (by omega) (by omega)).2 (by omega));have b3:=tdiv_in (x:=p + 1 - 1) (n:=n) (by omega) (by omega);omega) ?_
   refine gM trivial (.inl rfl) rfl rfl rfl ?_
   refine gNilP trivial rfl rfl rfl rfl ?_
   refine gF trivial rfl rfl rfl rfl rfl ?_
   refine gL trivial rfl rfl rfl rfl rfl rfl rfl rfl ?_
   refine gM trivial (.inl rfl) rfl rfl rfl ?_
   refine gA trivial rfl rfl rfl rfl rfl rfl (by omega) ?_
   refine gA trivial rfl rfl rfl rfl rfl rfl (by omega) ?_
   refine gM trivial (.inl rfl) rfl rfl rfl ?_
   refine gNilP trivial rfl rfl rfl rfl ?_
   refine gF trivial rfl rfl rfl rfl rfl ?_
   refine gL trivial rfl rfl rfl rfl rfl rfl rfl rfl ?_
   refine gK trivial rfl rfl rfl rfl rfl rfl (hls_nil fun e=>(by have:=rY_nil e;omega)) ?_
   refine gRem trivial rfl rfl rfl rfl rfl (by omega) ?_
   refine gX trivial rfl rfl rfl rfl rfl rfl rfl rfl (tmod_in (x:=(p + 1 - 1) * 7 + 3) (n:=n) (by omega) (by omega)).1 (tmod_in (x:=(p + 1 - 1) * 7 + 3) (n:=n) (by omega) (by omega)).2 (fun h=>hls_ne (rY_ne (by omega))) ?_
   refine gL trivial rfl rfl rfl rfl rfl rfl rfl (wR (lY (tmod_in (x:=(p + 1 - 1) * 7 + 3) (n:=n) (by omega) (by omega)).1 (Int.lt_of_lt_of_le (tmod_in (x:=(p + 1 - 1) * 7 + 3) (n:=n) (by omega) (by omega)).2 (by omega))) rfl) ?_
   refine gCvB trivial rfl rfl rfl rfl rfl rfl (by have:=byL_at hl (i:=Int.tmod ((p + 1 - 1) * 7 + 3) n) (tmod_in (x:=(p + 1 - 1) * 7 + 3) (n:=n) (by omega) (by omega)).1 (Int.lt_of_lt_of_le (tmod_in (x:=(p + 1 - 1) * 7 + 3) (n:=n) (by omega) (by omega)).2 (by omega));omega) ?_
   refine gA trivial rfl rfl rfl rfl rfl rfl (by have b1:=byL_at hl (i:=Int.tmod (p + 1 - 1) n) (tmod_in (x:=p + 1 - 1) (n:=n) (by omega) (by omega)).1 (Int.lt_of_lt_of_le (tmod_in (x:=p + 1 - 1) (n:=n) (by omega) (by omega)).2 (by omega));have b2:=byL_at hl (i:=Int.tmod ((p + 1 - 1) * 7 + 3) n) (tmod_in (x:=(p + 1 - 1) * 7 + 3) (n:=n) (by omega) (by omega)).1 (Int.lt_of_lt_of_le (tmod_in (x:=(p + 1 - 1) * 7 + 3) (n:=n) (by omega) (by omega)).2 (by omega));have b3:=tdiv_in (x:=p + 1 - 1) (n:=n) (by omega) (by omega);omega) ?_
   refine gA trivial rfl rfl rfl rfl rfl rfl (by have b1:=byL_at hl (i:=Int.tmod (p + 1 - 1) n) (tmod_in (x:=p + 1 - 1) (n:=n) (by omega) (by omega)).1 (Int.lt_of_lt_of_le (tmod_in (x:=p + 1 - 1) (n:=n) (by omega) (by omega)).2 (by omega));have b2:=byL_at hl (i:=Int.tmod ((p + 1 - 1) * 7 + 3) n) (tmod_in (x:=(p + 1 - 1) * 7 + 3) (n:=n) (by omega) (by omega)).1 (Int.lt_of_lt_of_le (tmod_in (x:=(p + 1 - 1) * 7 + 3) (n:=n) (by omega) (by omega)).2 (by omega));have b3:=tdiv_in (x:=p + 1 - 1) (n:=n) (by omega) (by omega);omega) ?_
   refine gM trivial (.inl rfl) rfl rfl rfl ?_
   refine gA trivial rfl rfl rfl rfl rfl rfl (by omega) ?_
   refine gA trivial rfl rfl rfl rfl rfl rfl (by have b1:=byL_at hl (i:=Int.tmod (p + 1 - 1) n) (tmod_in (x:=p + 1 - 1) (n:=n) (by omega) (by omega)).1 (Int.lt_of_lt_of_le (tmod_in (x:=p + 1 - 1) (n:=n) (by omega) (by omega)).2 (by omega));have b2:=byL_at hl (i:=Int.tmod ((p + 1 - 1) * 7 + 3) n) (tmod_in (x:=(p + 1 - 1) * 7 + 3) (n:=n) (by omega) (by omega)).1 (Int.lt_of_lt_of_le (tmod_in (x:=(p + 1 - 1) * 7 + 3) (n:=n) (by omega) (by omega)).2 (by omega));have b3:=tdiv_in (x:=p + 1 - 1) (n:=n) (by omega) (by omega);omega) ?_
   refine gM trivial (.inl rfl) rfl rfl rfl ?_
   refine gM trivial (.inl rfl) rfl rfl rfl ?_
   refine gNilP trivial rfl rfl rfl rfl ?_
   refine gF trivial rfl rfl rfl rfl rfl ?_
   refine gL trivial rfl rfl rfl rfl rfl rfl rfl rfl ?_
   refine gK trivial rfl rfl rfl rfl rfl rfl (hls_nil fun e=>(by have:=rY_nil e;omega)) ?_
   refine gQuo trivial rfl rfl rfl rfl rfl (by omega) rfl (by have b1:=byL_at hl (i:=Int.tmod (p + 1 - 1) n) (tmod_in (x:=p + 1 - 1) (n:=n) (by omega) (by omega)).1 (Int.lt_of_lt_of_le (tmod_in (x:=p + 1 - 1) (n:=n) (by omega) (by omega)).2 (by omega));have b2:=byL_at hl (i:=Int.tmod ((p + 1 - 1) * 7 + 3) n) (tmod_in (x:=(p + 1 - 1) * 7 + 3) (n:=n) (by omega) (by omega)).1 (Int.lt_of_lt_of_le (tmod_in (x:=(p + 1 - 1) * 7 + 3) (n:=n) (by omega) (by omega)).2 (by omega));have b3:=tdiv_in (x:=p + 1 - 1) (n:=n) (by omega) (by omega);omega) ?_
   refine gA trivial rfl rfl rfl rfl rfl rfl (by have b1:=byL_at hl (i:=Int.tmod (p + 1 - 1) n) (tmod_in (x:=p + 1 - 1) (n:=n) (by omega) (by omega)).1 (Int.lt_of_lt_of_le (tmod_in (x:=p + 1 - 1) (n:=n) (by omega) (by omega)).2 (by omega));have b2:=byL_at hl (i:=Int.tmod ((p + 1 - 1) * 7 + 3) n) (tmod_in (x:=(p + 1 - 1) * 7 + 3) (n:=n) (by omega) (by omega)).1 (Int.lt_of_lt_of_le (tmod_in (x:=(p + 1 - 1) * 7 + 3) (n:=n) (by omega) (by omega)).2 (by omega));have b3:=tdiv_in (x:=p + 1 - 1) (n:=n) (by omega) (by omega);omega) ?_
   refine gA trivial rfl rfl rfl rfl rfl rfl (by have b1:=byL_at hl (i:=Int.tmod (p + 1 - 1) n) (tmod_in (x:=p + 1 - 1) (n:=n) (by omega) (by omega)).1 (Int.lt_of_lt_of_le (tmod_in (x:=p + 1 - 1) (n:=n) (by omega) (by omega)).2 (by omega));have b2:=byL_at hl (i:=Int.tmod ((p + 1 - 1) * 7 + 3) n) (tmod_in (x:=(p + 1 - 1) * 7 + 3) (n:=n) (by omega) (by omega)).1 (Int.lt_of_lt_of_le (tmod_in (x:=(p + 1 - 1) * 7 + 3) (n:=n) (by omega) (by omega)).2 (by omega));have b3:=tdiv_in (x:=p + 1 - 1) (n:=n) (by omega) (by omega);omega) ?_
   refine gM trivial (.inr rfl) rfl rfl rfl ?_
   refine rg_nil (fun _=>by kernel_rfl) ?_
   refine vc_seq ?_
   refine vc_region hm ?_
   refine gM trivial (.inl rfl) rfl rfl rfl ?_
   refine gM trivial (.inl rfl) rfl rfl rfl ?_
   refine gQuo trivial rfl rfl rfl rfl rfl (by decide) rfl (by have b1:=byL_at hl (i:=Int.tmod (p + 1 - 1) n) (tmod_in (x:=p + 1 - 1) (n:=n) (by omega) (by omega)).1 (Int.lt_of_lt_of_le (tmod_in (x:=p + 1 - 1) (n:=n) (by omega) (by omega)).2 (by omega));have b2:=byL_at hl (i:=Int.tmod ((p + 1 - 1) * 7 + 3) n) (tmod_in (x:=(p + 1 - 1) * 7 + 3) (n:=n) (by omega) (by omega)).1 (Int.lt_of_lt_of_le (tmod_in (x:=(p + 1 - 1) * 7 + 3) (n:=n) (by omega) (by omega)).2 (by omega));have b3:=tdiv_in (x:=p + 1 - 1) (n:=n) (by omega) (by omega);have:=tdiv_in (x:=((at_ l (Int.tmod (p + 1 - 1) n)) * 131 + (at_ l (Int.tmod ((p + 1 - 1) * 7 + 3) n)) * 1117 + (p + 1 - 1) * 29 + Int.tdiv (p + 1 - 1) n * 53)) (n:=64) (by omega) (by omega);omega) ?_
   refine gXor trivial rfl rfl rfl rfl rfl ?_
   refine gM trivial (.inr rfl) rfl rfl rfl ?_
   refine rg_nil nofun ?_
   refine vc_seq ?_
   refine vc_region hm ?_
   refine gM trivial (.inl rfl) rfl rfl rfl ?_
   refine gM trivial (.inl rfl) rfl rfl rfl ?_
   refine gRem trivial rfl rfl rfl rfl rfl (by omega) ?_
   refine gM trivial (.inr rfl) rfl rfl rfl ?_
   refine rg_nil nofun ?_
   refine vc_ret ?_
   exact ⟨mkF (.int .i64 (Int.tmod (xorI ((at_ l (Int.tmod (p + 1 - 1) n)) * 131 + (at_ l (Int.tmod ((p + 1 - 1) * 7 + 3) n)) * 1117 + (p + 1 - 1) * 29 + Int.tdiv (p + 1 - 1) n * 53) (Int.tdiv ((at_ l (Int.tmod (p + 1 - 1) n)) * 131 + (at_ l (Int.tmod ((p + 1 - 1) * 7 + 3) n)) * 1117 + (p + 1 - 1) * 29 + Int.tdiv (p + 1 - 1) n * 53) 64)) m)) [0] [(1,one ⟨[.slice (some ⟨0,k,none⟩) n 0,.int .i64 (p + 1)],83,2⟩)] [],_,endsT [] (.inr rfl) (.tmp rfl rfl .nil) rfl rfl ⟨upOne rfl rfl rfl,trivial⟩ trivial rfl,_,(tmod_in (by have b1:=byL_at hl (i:=Int.tmod (p + 1 - 1) n) (tmod_in (x:=p + 1 - 1) (n:=n) (by omega) (by omega)).1 (Int.lt_of_lt_of_le (tmod_in (x:=p + 1 - 1) (n:=n) (by omega) (by omega)).2 (by omega));have b2:=byL_at hl (i:=Int.tmod ((p + 1 - 1) * 7 + 3) n) (tmod_in (x:=(p + 1 - 1) * 7 + 3) (n:=n) (by omega) (by omega)).1 (Int.lt_of_lt_of_le (tmod_in (x:=(p + 1 - 1) * 7 + 3) (n:=n) (by omega) (by omega)).2 (by omega));have b3:=tdiv_in (x:=p + 1 - 1) (n:=n) (by omega) (by omega);have b4:=tdiv_in (x:=((at_ l (Int.tmod (p + 1 - 1) n)) * 131 + (at_ l (Int.tmod ((p + 1 - 1) * 7 + 3) n)) * 1117 + (p + 1 - 1) * 29 + Int.tdiv (p + 1 - 1) n * 53)) (n:=64) (by omega) (by omega);exact xor_nn (by omega) (by omega) b4.1 (by omega)) (by omega)).1,(tmod_in (by have b1:=byL_at hl (i:=Int.tmod (p + 1 - 1) n) (tmod_in (x:=p + 1 - 1) (n:=n) (by omega) (by omega)).1 (Int.lt_of_lt_of_le (tmod_in (x:=p + 1 - 1) (n:=n) (by omega) (by omega)).2 (by omega));have b2:=byL_at hl (i:=Int.tmod ((p + 1 - 1) * 7 + 3) n) (tmod_in (x:=(p + 1 - 1) * 7 + 3) (n:=n) (by omega) (by omega)).1 (Int.lt_of_lt_of_le (tmod_in (x:=(p + 1 - 1) * 7 + 3) (n:=n) (by omega) (by omega)).2 (by omega));have b3:=tdiv_in (x:=p + 1 - 1) (n:=n) (by omega) (by omega);have b4:=tdiv_in (x:=((at_ l (Int.tmod (p + 1 - 1) n)) * 131 + (at_ l (Int.tmod ((p + 1 - 1) * 7 + 3) n)) * 1117 + (p + 1 - 1) * 29 + Int.tdiv (p + 1 - 1) n * 53)) (n:=64) (by omega) (by omega);exact xor_nn (by omega) (by omega) b4.1 (by omega)) (by omega)).2,rfl⟩
section
variable {P:Program} {nt:Nat} {ops:Array Oper} {draw:Bool} {rest:List Oper} {u d:Nat} {t:List (Nat × Value)} {h:List (Nat × Bool × Fam)} {acc:List Eff} {K:St→Prop} {o:Oper}
theorem gTailO {ty e:TypeId} {x y:Operand} {n len sz:Nat} {i:Int} {b:Blk} (hw:wantT (tl t) ops o) (hop:o.op = .slice ty x (some y) none none) (hu:P.underlying ty=some (.slice e)) (hz:szP P e=some sz) (hx:ev t x=some (.slice (some ⟨n,0,none⟩) len 0)) (hy:ev t y=some (.int .i64 i)) (hb:hat (hp h) n=some b) (h0:(Nat.blt 0 sz && Nat.blt sz 77 && b.e == sz)=true) (hs:o.dst=some d) (hn:Nat.blt d nt=true) (hl:b.cs.length=len * sz) (hi0:0≤i) (hi1:i<len)
  (k:RG P nt ops draw rest ⟨u,(d,.slice (some ⟨n,i.toNat * sz,none⟩) (len - i.toNat) i.toNat) :: t,h⟩ (acc ++ [{ v:=.slice (some ⟨n,i.toNat * sz,none⟩) (len - i.toNat) i.toNat,rd:=[n % 1000] }]) K):RG P nt ops draw (o :: rest) ⟨u,t,h⟩ acc K:=by
 simp only [Bool.and_eq_true,beq_iff_eq] at h0
 obtain ⟨⟨h0,h77⟩,he⟩:=h0
 have h0:=of_blt h0
 have h77:=of_blt h77
 refine gV (does_val hw (fun ρ ac w ht hah=>?_) fun U hU=>?_) hs hn k
 ·have hbl:=hat_at hb hah (.inl (.head _))
  have hne:b.cs ≠ []:=fun e=>by
   rw [e] at hl
   have:0<len * sz:=Nat.mul_pos (by omega) h0
   simp at hl
   omega
  obtain ⟨hnil,sl,z,_,_,hcap,_⟩:=blkAt_some hbl hne (by omega)
  have hcap:=(hcap (by omega)).2.1
  rw [hl,he] at hcap
  have hcap:len≤(ρ n).cap:=Nat.le_of_mul_le_mul_right (show len * sz≤(ρ n).cap * sz by omega) h0
  have e1:ac.eval x=r3 ρ (.slice (some ⟨n,0,none⟩) len 0):=ev_sound (ρ:=ρ) (by rw [hop];simp [Op.operands]) ht hx
  have e1:ac.eval x = .slice (some ⟨(ρ n).blk,0,none⟩) len (ρ n).cap:=by rw [e1];show (if (ρ n).nil=true then zv _ else _)=_;rw [if_neg (by rw [hnil];decide)];rfl
  have e2:ac.eval y = .int .i64 i:=ev_sound (ρ:=ρ) (by rw [hop];simp [Op.operands]) ht hy
  have e3:(Instr.sliceBounds true len (ρ n).cap (some (.int .i64 i)) none none).run P w = .ok (i.toNat,len,(ρ n).cap) w:=by
   simp [Instr.sliceBounds,Instr.sliceBound,asIntOf,hi0,show i≤(len:Int) by omega,Sem.run_pure,Sem.run_bind,Result.andThen_ok]
  have e4:¬ (ρ n).cap=i.toNat:=by omega
  have e5:r3 ρ (.slice (some ⟨n,i.toNat * sz,none⟩) (len - i.toNat) i.toNat) = .slice (some ⟨(ρ n).blk,i.toNat * sz,none⟩) (len - i.toNat) ((ρ n).cap - i.toNat):=by
   show (if (ρ n).nil=true then zv _ else _)=_
   rw [if_neg (by rw [hnil];decide)]
  rw [e5]
  simp [execOp,hop,e1,e2,Instr.sliceAt,Instr.slice,run_underlying hu,run_sizeOf hz,e3,e4,add_eq,Sem.run_pure,Sem.run_bind,Result.andThen_ok]
 ·intro ρ ρ' hρ
  have:=hρ n (hat_det hb hU (.inl (.head _))).1
  simp [r3,r2,r1,this]
theorem behind_nil {ρ:Env} {w:World} {h:HF} {u t:Nat} {v:Value} {rd:List Nat} {z:Option (Addr × Nat)} (hu:u<1000):Behind ρ w h { v:=v,rd:=rd,asg:=[(u,one ⟨[],t,0⟩)] } (updE ρ u ⟨0,0,true,z⟩) w:=by
 refine ⟨fun n hn=>updE_ne (by simpa [Eff.nw] using hn),fun y hy k x e=>?_,fun y hy=>(by cases hy),fun y hy k x e q=>?_,fun y hy y' hy' k k' x x' e e' q _ _=>?_,Frm.refl _ _⟩
 ·obtain rfl:=List.mem_singleton.1 hy
  obtain ⟨rfl,rfl⟩:=one_some e
  show blkAt _ _ (nm u 0) _
  unfold blkAt
  rw [updE_at hu]
  exact (if_pos rfl).mpr ⟨rfl,fun h=>absurd rfl h,by show 0<100;decide⟩
 ·obtain rfl:=List.mem_singleton.1 hy
  obtain ⟨rfl,rfl⟩:=one_some e
  have q:(updE ρ u ⟨0,0,true,z⟩ (nm u 0)).nil=false:=q
  rw [updE_at hu] at q
  cases q
 ·obtain rfl:=List.mem_singleton.1 hy
  obtain ⟨rfl,rfl⟩:=one_some e
  have q:(updE ρ u ⟨0,0,true,z⟩ (nm u 0)).nil=false:=q
  rw [updE_at hu] at q
  cases q
theorem gTailE {ty e:TypeId} {x y:Operand} {n len sz u':Nat} {i:Int} {b:Blk} (hw:wantT (tl t) ops o) (hop:o.op = .slice ty x (some y) none none) (hu:P.underlying ty=some (.slice e)) (hz:szP P e=some sz) (hx:ev t x=some (.slice (some ⟨n,0,none⟩) len 0)) (hy:ev t y=some (.int .i64 i)) (hb:hat (hp h) n=some b) (h0:(Nat.blt 0 sz && Nat.blt sz 77 && b.e == sz)=true) (hu1:Nat.blt u 1000=true) (hu':u + 1=u') (hs:o.dst=some d) (hn:Nat.blt d nt=true) (hl:b.cs.length=len * sz) (hi:i=len)
  (k:RG P nt ops draw rest ⟨u',(d,.slice (some ⟨u,0,none⟩) 0 0) :: t,(u,true,one ⟨[],e,0⟩) :: h⟩ (acc ++ [{ v:=.slice (some ⟨u,0,none⟩) 0 0,rd:=[n % 1000],asg:=[(u,one ⟨[],e,0⟩)] }]) K):RG P nt ops draw (o :: rest) ⟨u,t,h⟩ acc K:=by
 simp only [Bool.and_eq_true,beq_iff_eq] at h0
 obtain ⟨⟨h0,h77⟩,he⟩:=h0
 have h0:=of_blt h0
 have h77:=of_blt h77
 have hu1:=of_blt hu1
 refine gW (x:=⟨[],e,0⟩) (does_mk hw (fun ρ ac w K Q U hk hnu ht ha hK=>?_) fun U hU=>⟨(det_slc hu1).mono fun n hn=>.inr (by subst hn;exact .head _),fun y hy k z e=>?_,fun y hy=>(by cases hy)⟩) hu1 hu' hs hn k
 ·have hbl:=hat_at hb ha (.inl (.head _))
  have e1:ac.eval x=r3 ρ (.slice (some ⟨n,0,none⟩) len 0):=ev_sound (ρ:=ρ) (by rw [hop];simp [Op.operands]) ht hx
  have e2:ac.eval y = .int .i64 i:=ev_sound (ρ:=ρ) (by rw [hop];simp [Op.operands]) ht hy
  have fin:∀ z,(execOp ac.eval o).run P w = .ok (.value (zv z)) w→o.wp P ac w K Q:=fun z hr=>by
   unfold Oper.wp
   rw [hr]
   have:=hK _ _ (behind_nil (ρ:=ρ) (w:=w) (h:=hp h) (u:=u) (t:=e) (v:=.slice (some ⟨u,0,none⟩) 0 0) (rd:=[n % 1000]) (z:=z) hu1)
   have e5:r3 (updE ρ u ⟨0,0,true,z⟩) (.slice (some ⟨u,0,none⟩) 0 0)=zv z:=by
    show (if (updE ρ u ⟨0,0,true,z⟩ u).nil=true then zv (updE ρ u ⟨0,0,true,z⟩ u).z else _)=_
    rw [updE_self hu1];rfl
   rw [← e5]
   exact this
  cases hnil:(ρ n).nil with
  | true =>
   unfold blkAt at hbl
   rw [hnil,if_pos rfl] at hbl
   have hl0:len=0:=by
    rw [hbl.1] at hl
    rcases Nat.eq_zero_or_pos len with q|q
    ·exact q
    ·have:=Nat.mul_pos q h0
     simp at hl;omega
   have e9:ac.eval x = .slice none 0 0:=by rw [e1];show (if (ρ n).nil=true then zv (ρ n).z else _)=_;rw [if_pos hnil,hbl.2.1 (by omega)];rfl
   clear e1
   subst hl0
   refine fin none ?_
   have e3:(Instr.sliceBounds true 0 0 (some (.int .i64 i)) none none).run P w = .ok (0,0,0) w:=by
    simp [Instr.sliceBounds,Instr.sliceBound,asIntOf,hi,Sem.run_pure,Sem.run_bind,Result.andThen_ok]
   simp [execOp,hop,e9,e2,Instr.sliceAt,Instr.slice,run_underlying hu,run_sizeOf hz,e3,zv,Sem.run_pure,Sem.run_bind,Result.andThen_ok]
  | false =>
   unfold blkAt at hbl
   rw [hnil,if_neg (by decide),if_neg (by omega)] at hbl
   obtain ⟨sl,z,_,_,hcap,_⟩:=hbl
   have hcap:=(hcap (by omega)).2.1
   rw [hl,he] at hcap
   have hcap:len≤(ρ n).cap:=Nat.le_of_mul_le_mul_right (show len * sz≤(ρ n).cap * sz by omega) h0
   have e1:ac.eval x = .slice (some ⟨(ρ n).blk,0,none⟩) len (ρ n).cap:=by rw [e1];show (if (ρ n).nil=true then zv _ else _)=_;rw [if_neg (by rw [hnil];decide)];rfl
   have e3:(Instr.sliceBounds true len (ρ n).cap (some (.int .i64 i)) none none).run P w = .ok (len,len,(ρ n).cap) w:=by
    simp [Instr.sliceBounds,Instr.sliceBound,asIntOf,hi,Sem.run_pure,Sem.run_bind,Result.andThen_ok]
   by_cases e4:(ρ n).cap=len
   ·refine fin (some (⟨(ρ n).blk,0,none⟩,(ρ n).cap - len)) ?_
    rw [e4] at e1 e3
    simp [execOp,hop,e1,e2,Instr.sliceAt,Instr.slice,run_underlying hu,run_sizeOf hz,e3,e4,zv,Sem.run_pure,Sem.run_bind,Result.andThen_ok]
   ·refine fin (some (⟨(ρ n).blk,len * sz,none⟩,(ρ n).cap - len)) ?_
    simp [execOp,hop,e1,e2,Instr.sliceAt,Instr.slice,run_underlying hu,run_sizeOf hz,e3,e4,add_eq,zv,Sem.run_pure,Sem.run_bind,Result.andThen_ok]
 ·obtain rfl:=List.mem_singleton.1 hy
  obtain ⟨rfl,rfl⟩:=one_some e
  exact fun ρ ρ' _=>rfl
end
theorem ktCode {ms:List Nat} {C u2 b t k:Nat} {g:Nat→Option Nat} {h1:List (Nat × Bool × Fam)} {o':Bool} {l:List Int} (hl:h1.lookup (mp ms b)=some (o',one ⟨hls k (rY l),t,0⟩)) (hb:(Nat.blt b u2 && Nat.blt b 1000 && Nat.blt (mp ms b) 1000 && !(b == C))=true):KeepBT (tmG ms C g) u2 h1 b false (one ⟨hls k (rY l),t,0⟩):=ktFlat (hls_flat (rY_flat l)) hl (.inl rfl) (fun h=>nomatch h) (by rw [hb];cases Nat.ble t capT <;> rfl)
theorem ktHol {ms:List Nat} {C u2 b t e' k:Nat} {g:Nat→Option Nat} {h1:List (Nat × Bool × Fam)} {o':Bool} {cs cs':List Value} (hf:cs.all flat1=true) (hl:h1.lookup (mp ms b)=some (o',one ⟨cs',t,e'⟩)) (hd:cs'.drop k=cs) (hn:cs' ≠ []) (ho:true=true→o'=true) (ht:Nat.ble t capT=true) (hb:(Nat.blt b u2 && Nat.blt b 1000 && Nat.blt (mp ms b) 1000 && !(b == C))=true):KeepBT (tmG ms C g) u2 h1 b true (one ⟨hls k cs,t,0⟩):=by
 have hf2:=hls_flat (k:=k) hf
 refine ktRow hl (flat_poL hf2) (flat_okL hf2) ?_ ho hb
 rw [tnb_flat hf2]
 refine ⟨.inr ⟨rfl,fun e=>?_,fun i v hv hne=>?_⟩,fun q=>absurd rfl q,.inl rfl,fun _=>.inr (Nat.le_of_ble_eq_true ht)⟩
 ·have e:cs' = []:=e
  exact absurd e hn
 ·have hv:(hls k cs)[i]?=some v:=hv
  unfold hls at hv
  by_cases hi:i<k
  ·rw [List.getElem?_append_left (by simpa using hi)] at hv
   have:=List.mem_of_getElem? hv
   exact absurd (List.eq_of_mem_replicate this) hne
  ·rw [List.getElem?_append_right (by simp;omega),List.length_replicate] at hv
   show cs'[i]?=some v
   rw [← hd,List.getElem?_drop,show k + (i - k)=i by omega] at hv
   exact hv
theorem rCode {m:Nat→Nat} {hc:List (Nat × Bool × Fam)} {b k t:Nat} {o':Bool} {l:List Int} (hl:hc.lookup (m b)=some (o',one ⟨hls k (rY l),t,0⟩)) (hb:Nat.blt (m b) 1000=true):m b<1000∧∃ o' F',hc.lookup (m b)=some (o',F')∧FamLe (rnF m (one ⟨hls k (rY l),t,0⟩)) F':=rFlat (hls_flat (rY_flat l)) hl (.inl rfl) (by rw [hb,Bool.true_and,Bool.or_eq_true];exact .inr rfl)
theorem ho1 {h:Nat→Option (Bool × Fam)} {m:Nat→Nat} {b:Nat} {F:Fam} (ho:Owned h (m b)):∀ x ∈ [(b,F)],Owned h (m x.1):=fun x hx=>by
 obtain rfl:=List.mem_singleton.1 hx
 exact ho
theorem hu1 {hl:List (Nat × Bool × Fam)} {b:Nat} {x y:Blk} (h:hl.lookup b=some (true,one y)):∀ z ∈ [(b,one x)],∃ F,hl.lookup z.1=some (true,F)∧∀ k,z.2 k ≠ none→F k ≠ none:=fun z hz=>by
 obtain rfl:=List.mem_singleton.1 hz
 refine ⟨_,h,fun k hk=>?_⟩
 by_cases e:k=0 <;> simp_all [one]
theorem asRd {m:Nat→Nat} {u j:Nat} {x:Blk} {h:List (Nat × Bool × Fam)} (hl:h.lookup j=some (true,one (x.rn m))) (hk:x.cs.all (ok1 u)=true):h.lookup j=some (true,rnF m (one x))∧∀ k y,one x k=some y→DetB (lt u) y:=⟨by rw [rnF_one];exact hl,fun k y e=>det_ok (t:=x.t) (e:=x.e) hk e⟩
theorem num_c {l:List Int} {k n t0:Nat} {p:Int} (hl:ByL l) (hn:n≤l.length) (hp0:0≤p) (hp1:p≤999000) {L:List Int} {a b:Int} (hL:1≤L.length∧L.length≤1000) (hb:∀ x ∈ L,a≤x∧x≤b):∃ E,FDoes Try.prog 64 [.pointer (some ⟨1,0,none⟩),.slice (some ⟨2,0,none⟩) L.length 0] (hp [(0,false,one ⟨hls k (rY l),t0,0⟩),(1,true,one ⟨[.slice (some ⟨0,k,none⟩) n 0,.int .i64 (p)],83,2⟩),(2,false,one ⟨rI L,3,0⟩)]) E∧∃ x:Int,a≤x∧x≤b∧E=mkF (.int .i64 x) [0,2] [(1,one ⟨[.slice (some ⟨0,k,none⟩) n 0,.int .i64 (p + 1)],83,2⟩)] []:=by
 have hm:Try.prog.follows .mixedOrders=true:=by kernel_rfl
 have hd_:∀ x_ ∈ ([(0,false,one ⟨hls k (rY l),t0,0⟩),(1,true,one ⟨[.slice (some ⟨0,k,none⟩) n 0,.int .i64 (p)],83,2⟩),(2,false,one ⟨rI L,3,0⟩)]:List (Nat × Bool × Fam)),∀ k_ y_,x_.2.2 k_=some y_→DetB (lt 3) y_:=by
  intro x_ hx k_ y_ e
  simp only [List.mem_cons,List.not_mem_nil,or_false] at hx
  rcases hx with rfl|rfl|rfl
  ·exact det_code e
  ·exact det_ok rfl e
  ·exact det_row (rI_flat L) e
 refine fn_some (u0:=3) Try.func64 rfl rfl (gets rfl rfl rfl hd_ rfl) ?_
 clear hd_
 refine vc_seq ?_
 refine vc_region hm ?_
 refine gM trivial (.inr rfl) rfl rfl rfl ?_
 refine rg_nil nofun ?_
 refine vc_seq ?_
 refine vc_region hm ?_
 refine gM trivial (.inl rfl) rfl rfl rfl ?_
 refine gM trivial (.inl rfl) rfl rfl rfl ?_
 refine gM trivial (.inl rfl) rfl rfl rfl ?_
 refine gK trivial rfl rfl rfl rfl rfl rfl rI_nil ?_
 obtain ⟨E1,hE1,x1,x1a,x1b,rfl⟩:=pick_c (k:=k) (t0:=t0) (p:=p) hl hn (by omega) (by omega) (m:=L.length) (by omega) (by omega)
 refine gCF (ups':=[(1,one ⟨[.slice (some ⟨0,k,none⟩) n 0,.int .i64 (p + 1)],83,2⟩)]) (as':=[]) (v':=.int .i64 x1) 3 [0,1] hE1 trivial rfl rfl rfl rfl ⟨rCode rfl rfl,rCells rfl ⟨rfl,rfl,.inr rfl⟩ rfl,trivial⟩ ⟨frOne rfl rfl,trivial⟩ trivial rfl rfl (ho1 ⟨_,rfl⟩) (hu1 rfl) rfl rfl ?_
 refine gX trivial rfl rfl rfl rfl rfl rfl rfl rfl (by omega) (by omega) rI_ne ?_
 refine gL trivial rfl rfl rfl rfl rfl rfl rfl (lI (by omega) (by omega)) ?_
 refine gM trivial (.inr rfl) rfl rfl rfl ?_
 refine rg_nil nofun ?_
 refine vc_ret ?_
 exact ⟨mkF (.int .i64 (at_ L x1)) [0,2] [(1,one ⟨[.slice (some ⟨0,k,none⟩) n 0,.int .i64 (p + 1)],83,2⟩)] [],_,endsT [] (.inr rfl) (.tmp rfl rfl .nil) rfl rfl ⟨upOne rfl rfl rfl,trivial⟩ trivial rfl,_,(hb _ (at_mem (by omega) (by omega))).1,(hb _ (at_mem (by omega) (by omega))).2,rfl⟩
theorem whoDraw_c {l:List Int} {k n t0:Nat} {p:Int} (hl:ByL l) (hn:n≤l.length) (hp0:0≤p) (hp1:p≤997000):∃ E,FDoes Try.prog 70 [.pointer (some ⟨1,0,none⟩)] (hp [(0,false,one ⟨hls k (rY l),t0,0⟩),(1,true,one ⟨[.slice (some ⟨0,k,none⟩) n 0,.int .i64 (p)],83,2⟩)]) E∧∃ (who p2:Int),p≤p2∧p2≤p + 2∧E=mkF (.int .i64 who) [0] [(1,one ⟨[.slice (some ⟨0,k,none⟩) n 0,.int .i64 (p2)],83,2⟩)] []:=by
 have hm:Try.prog.follows .mixedOrders=true:=by kernel_rfl
 have hd_:∀ x_ ∈ ([(0,false,one ⟨hls k (rY l),t0,0⟩),(1,true,one ⟨[.slice (some ⟨0,k,none⟩) n 0,.int .i64 (p)],83,2⟩)]:List (Nat × Bool × Fam)),∀ k_ y_,x_.2.2 k_=some y_→DetB (lt 2) y_:=by
  intro x_ hx k_ y_ e
  simp only [List.mem_cons,List.not_mem_nil,or_false] at hx
  rcases hx with rfl|rfl
  ·exact det_code e
  ·exact det_ok rfl e
 refine fn_some (u0:=2) Try.func70 rfl rfl (gets rfl rfl rfl hd_ rfl) ?_
 clear hd_
 refine vc_seq ?_
 refine vc_region hm ?_
 refine gM trivial (.inr rfl) rfl rfl rfl ?_
 refine rg_nil nofun ?_
 refine vc_seq ?_
 refine vc_seq ?_
 refine vc_region hm ?_
 refine gM trivial (.inl rfl) rfl rfl rfl ?_
 obtain ⟨E1,hE1,x1,x1a,x1b,rfl⟩:=pick_c (k:=k) (t0:=t0) (p:=p) hl hn (by omega) (by omega) (m:=20) (by omega) (by omega)
 refine gCF (ups':=[(1,one ⟨[.slice (some ⟨0,k,none⟩) n 0,.int .i64 (p + 1)],83,2⟩)]) (as':=[]) (v':=.int .i64 x1) 2 [0,1] hE1 trivial rfl rfl rfl rfl ⟨rCode rfl rfl,rCells rfl ⟨rfl,rfl,.inr rfl⟩ rfl,trivial⟩ ⟨frOne rfl rfl,trivial⟩ trivial rfl rfl (ho1 ⟨_,rfl⟩) (hu1 rfl) rfl rfl ?_
 refine gI trivial rfl rfl rfl rfl rfl rfl ?_
 refine rg_nil nofun ?_
 refine cI rfl (fun c5=>?_) (fun c5=>?_)
 ·skip
  have p5:=eq_of_beq c5
  refine vc_seq ?_
  refine vc_region hm ?_
  refine gM trivial (.inl rfl) rfl rfl rfl ?_
  refine gR (u':=3) (out:=rI [-1,3,9223372036854775807]) trivial rfl rfl rfl rfl rfl rfl rfl rfl rfl rfl rfl rfl rfl rfl ?_
  obtain ⟨E3,hE3,x3,x3a,x3b,rfl⟩:=num_c (k:=k) (t0:=t0) (p:=p + 1) hl hn (by omega) (by omega) (L:=[-1,3,9223372036854775807]) (a:=-1) (b:=9223372036854775807) (by decide) (by decide)
  refine gCF (ups':=[(1,one ⟨[.slice (some ⟨0,k,none⟩) n 0,.int .i64 (p + 1 + 1)],83,2⟩)]) (as':=[]) (v':=.int .i64 x3) 3 [0,1,2] hE3 trivial rfl rfl rfl rfl ⟨rCode rfl rfl,rCells rfl ⟨rfl,rfl,.inr rfl⟩ rfl,rFlat (rI_flat _) rfl (.inl rfl) rfl,trivial⟩ ⟨frOne rfl rfl,trivial⟩ trivial rfl rfl (ho1 ⟨_,rfl⟩) (hu1 rfl) rfl rfl ?_
  refine gM trivial (.inr rfl) rfl rfl rfl ?_
  refine rg_nil nofun ?_
  refine vc_ret ?_
  exact ⟨mkF (.int .i64 x3) [0] [(1,one ⟨[.slice (some ⟨0,k,none⟩) n 0,.int .i64 (p + 1 + 1)],83,2⟩)] [],_,endsT [] (.inr rfl) (.tmp rfl rfl .nil) rfl rfl ⟨upOne rfl rfl rfl,trivial⟩ trivial rfl,x3,_,(by omega),(by omega),rfl⟩
 ·skip
  have p5:=ne_of_beq_false c5
  refine vc_skip ?_
  refine vc_seq ?_
  refine vc_region hm ?_
  refine gM trivial (.inl rfl) rfl rfl rfl ?_
  obtain ⟨E4,hE4,x4,x4a,x4b,rfl⟩:=pick_c (k:=k) (t0:=t0) (p:=p + 1) hl hn (by omega) (by omega) (m:=3) (by omega) (by omega)
  refine gCF (ups':=[(1,one ⟨[.slice (some ⟨0,k,none⟩) n 0,.int .i64 (p + 1 + 1)],83,2⟩)]) (as':=[]) (v':=.int .i64 x4) 2 [0,1] hE4 trivial rfl rfl rfl rfl ⟨rCode rfl rfl,rCells rfl ⟨rfl,rfl,.inr rfl⟩ rfl,trivial⟩ ⟨frOne rfl rfl,trivial⟩ trivial rfl rfl (ho1 ⟨_,rfl⟩) (hu1 rfl) rfl rfl ?_
  refine gM trivial (.inr rfl) rfl rfl rfl ?_
  refine rg_nil nofun ?_
  refine vc_ret ?_
  exact ⟨mkF (.int .i64 x4) [0] [(1,one ⟨[.slice (some ⟨0,k,none⟩) n 0,.int .i64 (p + 1 + 1)],83,2⟩)] [],_,endsT [] (.inr rfl) (.tmp rfl rfl .nil) rfl rfl ⟨upOne rfl rfl rfl,trivial⟩ trivial rfl,x4,_,(by omega),(by omega),rfl⟩
theorem ofS_c {l:List Int} {k n t0:Nat} {p:Int} (hl:ByL l) (hn:n≤l.length) (hp0:0≤p) (hp1:p≤998000) {L:List ByteArray} {lo hi:Nat} (hL:1≤L.length∧L.length≤1000) (hb:∀ x ∈ L,lo≤x.size∧x.size≤hi):∃ E,FDoes Try.prog 76 [.pointer (some ⟨1,0,none⟩),.slice (some ⟨2,0,none⟩) L.length 0] (hp [(0,false,one ⟨hls k (rY l),t0,0⟩),(1,true,one ⟨[.slice (some ⟨0,k,none⟩) n 0,.int .i64 (p)],83,2⟩),(2,false,one ⟨rS L,9,0⟩)]) E∧∃ x:ByteArray,lo≤x.size∧x.size≤hi∧E=mkF (.string x) [0,2] [(1,one ⟨[.slice (some ⟨0,k,none⟩) n 0,.int .i64 (p + 1)],83,2⟩)] []:=by
 have hm:Try.prog.follows .mixedOrders=true:=by kernel_rfl
 have hd_:∀ x_ ∈ ([(0,false,one ⟨hls k (rY l),t0,0⟩),(1,true,one ⟨[.slice (some ⟨0,k,none⟩) n 0,.int .i64 (p)],83,2⟩),(2,false,one ⟨rS L,9,0⟩)]:List (Nat × Bool × Fam)),∀ k_ y_,x_.2.2 k_=some y_→DetB (lt 3) y_:=by
  intro x_ hx k_ y_ e
  simp only [List.mem_cons,List.not_mem_nil,or_false] at hx
  rcases hx with rfl|rfl|rfl
  ·exact det_code e
  ·exact det_ok rfl e
  ·exact det_row (rS_flat L) e
 refine fn_some (u0:=3) Try.func76 rfl rfl (gets rfl rfl rfl hd_ rfl) ?_
 clear hd_
 refine vc_seq ?_
 refine vc_region hm ?_
 refine gM trivial (.inr rfl) rfl rfl rfl ?_
 refine rg_nil nofun ?_
 refine vc_seq ?_
 refine vc_region hm ?_
 refine gM trivial (.inl rfl) rfl rfl rfl ?_
 refine gM trivial (.inl rfl) rfl rfl rfl ?_
 refine gM trivial (.inl rfl) rfl rfl rfl ?_
 refine gK trivial rfl rfl rfl rfl rfl rfl rS_nil ?_
 obtain ⟨E1,hE1,x1,x1a,x1b,rfl⟩:=pick_c (k:=k) (t0:=t0) (p:=p) hl hn (by omega) (by omega) (m:=L.length) (by omega) (by omega)
 refine gCF (ups':=[(1,one ⟨[.slice (some ⟨0,k,none⟩) n 0,.int .i64 (p + 1)],83,2⟩)]) (as':=[]) (v':=.int .i64 x1) 3 [0,1] hE1 trivial rfl rfl rfl rfl ⟨rCode rfl rfl,rCells rfl ⟨rfl,rfl,.inr rfl⟩ rfl,trivial⟩ ⟨frOne rfl rfl,trivial⟩ trivial rfl rfl (ho1 ⟨_,rfl⟩) (hu1 rfl) rfl rfl ?_
 refine gX trivial rfl rfl rfl rfl rfl rfl rfl rfl (by omega) (by omega) rS_ne ?_
 refine gL trivial rfl rfl rfl rfl rfl rfl rfl (lS (by omega) (by omega)) ?_
 refine gM trivial (.inr rfl) rfl rfl rfl ?_
 refine rg_nil nofun ?_
 refine vc_ret ?_
 exact ⟨mkF (.string (at_ L x1)) [0,2] [(1,one ⟨[.slice (some ⟨0,k,none⟩) n 0,.int .i64 (p + 1)],83,2⟩)] [],_,endsT [] (.inr rfl) (.tmp rfl rfl .nil) rfl rfl ⟨upOne rfl rfl rfl,trivial⟩ trivial rfl,_,(hb _ (at_mem (by omega) (by omega))).1,(hb _ (at_mem (by omega) (by omega))).2,rfl⟩
theorem open_c {l:List Int} {k:Nat} (hl:ByL l):∃ E,FDoes Try.prog 45 [.slice (some ⟨0,k,none⟩) l.length 0] (hp [(0,false,one ⟨hls k (rY l),capT + l.length,0⟩)]) E∧∃ n:Nat,n≤l.length∧E=mkF (.pointer (some ⟨1,0,none⟩)) [0] [] [(1,one ⟨[.slice (some ⟨0,k,none⟩) n 0,.int .i64 (0)],83,2⟩)]:=by
 have hm:Try.prog.follows .mixedOrders=true:=by kernel_rfl
 have hd_:∀ x_ ∈ ([(0,false,one ⟨hls k (rY l),capT + l.length,0⟩)]:List (Nat × Bool × Fam)),∀ k_ y_,x_.2.2 k_=some y_→DetB (lt 1) y_:=by
  intro x_ hx k_ y_ e
  simp only [List.mem_cons,List.not_mem_nil,or_false] at hx
  subst hx
  exact det_code e
 refine fn_some (u0:=1) Try.func45 rfl rfl (gets rfl rfl rfl hd_ rfl) ?_
 clear hd_
 refine vc_seq ?_
 refine vc_region hm ?_
 refine gM trivial (.inr rfl) rfl rfl rfl ?_
 refine rg_nil nofun ?_
 refine vc_seq ?_
 refine vc_seq ?_
 refine vc_region hm ?_
 refine gM trivial (.inl rfl) rfl rfl rfl ?_
 refine gK trivial rfl rfl rfl rfl rfl rfl (hls_nil fun e=>(by have:=rY_nil e;omega)) ?_
 refine gI trivial rfl rfl rfl rfl rfl rfl ?_
 refine rg_nil nofun ?_
 refine cI rfl (fun c5=>?_) (fun c5=>?_)
 ·skip
  have p5:=of_decide_eq_true c5
  refine vc_region hm ?_
  refine gM trivial (.inl rfl) rfl rfl rfl ?_
  refine gHead (m:=2000) trivial rfl rfl rfl rfl rfl rfl rfl rfl (hls_ne (rY_ne (by omega))) (by omega) ?_
  refine gM trivial (.inr rfl) rfl rfl rfl ?_
  refine rg_nil nofun ?_
  refine vc_seq ?_
  refine vc_region hm ?_
  refine gM trivial (.inl rfl) rfl rfl rfl ?_
  refine gU trivial rfl rfl rfl rfl rfl rfl rfl rfl ?_
  refine gB (u':=2) trivial rfl rfl rfl rfl rfl rfl rfl rfl ?_
  refine gM trivial (.inr rfl) rfl rfl rfl ?_
  refine rg_nil nofun ?_
  refine vc_ret ?_
  exact ⟨mkF (.pointer (some ⟨1,0,none⟩)) [0] [] [(1,one ⟨[.slice (some ⟨0,k,none⟩) 2000 0,.int .i64 0],83,2⟩)],_,endsT [(1,1,one ⟨[.slice (some ⟨0,k,none⟩) 2000 0,.int .i64 0],83,2⟩)] (.inr rfl) (.tmp rfl rfl .nil) rfl rfl trivial ⟨asRd rfl rfl,trivial⟩ rfl,2000,(by omega),rfl⟩
 ·skip
  have p5:=of_decide_eq_false c5
  refine vc_skip ?_
  refine vc_seq ?_
  refine vc_region hm ?_
  refine gM trivial (.inl rfl) rfl rfl rfl ?_
  refine gU trivial rfl rfl rfl rfl rfl rfl rfl rfl ?_
  refine gB (u':=2) trivial rfl rfl rfl rfl rfl rfl rfl rfl ?_
  refine gM trivial (.inr rfl) rfl rfl rfl ?_
  refine rg_nil nofun ?_
  refine vc_ret ?_
  exact ⟨mkF (.pointer (some ⟨1,0,none⟩)) [0] [] [(1,one ⟨[.slice (some ⟨0,k,none⟩) l.length 0,.int .i64 0],83,2⟩)],_,endsT [(1,1,one ⟨[.slice (some ⟨0,k,none⟩) l.length 0,.int .i64 0],83,2⟩)] (.inr rfl) (.tmp rfl rfl .nil) rfl rfl trivial ⟨asRd rfl rfl,trivial⟩ rfl,l.length,(by omega),rfl⟩
structure DrB (s:Stv):Prop where
 z:StSz s
 l:∀ x ∈ s.last,-1≤x∧x≤1001
 f:∀ x ∈ s.fl,-1≤x∧x≤101
theorem at_I {l:List Int} {a b:Int} (h:∀ x ∈ l,a≤x∧x≤b) {i:Int} (h0:0≤i) (h1:i<l.length):a≤at_ l i∧at_ l i≤b:=h _ (at_mem h0 h1)
theorem dr_ok {s:Stv} (h:stOk s=true):DrB s:=by
 obtain ⟨⟨l0,l1,l2,l3,l4⟩,g0,g1,g2⟩:=stOk_in h
 refine ⟨sz_ok h,fun x hx=>?_,fun x hx=>?_⟩
 ·obtain ⟨i,hi,rfl⟩:=List.mem_iff_getElem.1 hx
  rw [at_get hi]
  have:=nu_at (i:=(i:Int)) g2 (by omega) (by omega)
  omega
 ·obtain ⟨i,hi,rfl⟩:=List.mem_iff_getElem.1 hx
  rw [at_get hi]
  have:=nu_at (i:=(i:Int)) g2 (by omega) (by omega)
  omega
theorem ask_c {l:List Int} {k n t0:Nat} {p:Int} (hl:ByL l) (hn:n≤l.length) (hp0:0≤p) (hp1:p≤990000) {s:Stv} {kk cc:Nat} (hb:DrB s):∃ E,FDoes Try.prog 61 [.pointer (some ⟨1,0,none⟩),.agg #[.slice (some ⟨2,kk,none⟩) s.now.length cc,.slice (some ⟨3,0,none⟩) s.sure.length 0,.slice (some ⟨4,0,none⟩) s.last.length 0,.slice (some ⟨5,0,none⟩) s.slast.length 0,.slice (some ⟨6,0,none⟩) s.fl.length 0]] (hp [(0,false,one ⟨hls k (rY l),t0,0⟩),(1,true,one ⟨[.slice (some ⟨0,k,none⟩) n 0,.int .i64 (p)],83,2⟩),(2,false,one ⟨hls kk (rS s.now),9,0⟩),(3,false,one ⟨rS s.sure,9,0⟩),(4,false,one ⟨rI s.last,3,0⟩),(5,false,one ⟨rI s.slast,3,0⟩),(6,false,one ⟨rI s.fl,3,0⟩)]) E∧∃ (q:Rq) (p2:Int),q.d.size≤16∧p≤p2∧p2≤p + 20∧E=mkF (vRq q) [0,2,3,4,5,6] [(1,one ⟨[.slice (some ⟨0,k,none⟩) n 0,.int .i64 (p2)],83,2⟩)] []:=by
 have hm:Try.prog.follows .mixedOrders=true:=by kernel_rfl
 have hd_:∀ x_ ∈ ([(0,false,one ⟨hls k (rY l),t0,0⟩),(1,true,one ⟨[.slice (some ⟨0,k,none⟩) n 0,.int .i64 (p)],83,2⟩),(2,false,one ⟨hls kk (rS s.now),9,0⟩),(3,false,one ⟨rS s.sure,9,0⟩),(4,false,one ⟨rI s.last,3,0⟩),(5,false,one ⟨rI s.slast,3,0⟩),(6,false,one ⟨rI s.fl,3,0⟩)]:List (Nat × Bool × Fam)),∀ k_ y_,x_.2.2 k_=some y_→DetB (lt 7) y_:=by
  intro x_ hx k_ y_ e
  simp only [List.mem_cons,List.not_mem_nil,or_false] at hx
  rcases hx with rfl|rfl|rfl|rfl|rfl|rfl|rfl
  ·exact det_code e
  ·exact det_ok rfl e
  ·exact det_row (hls_flat (rS_flat s.now)) e
  ·exact det_row (rS_flat s.sure) e
  ·exact det_row (rI_flat s.last) e
  ·exact det_row (rI_flat s.slast) e
  ·exact det_row (rI_flat s.fl) e
 refine fn_some (u0:=7) Try.func61 rfl rfl (gets rfl rfl rfl hd_ rfl) ?_
 clear hd_
 refine vc_seq ?_
 refine vc_region hm ?_
 refine gB (u':=8) trivial rfl rfl rfl rfl rfl rfl rfl rfl ?_
 refine gZ (u':=9) trivial rfl rfl rfl rfl rfl rfl rfl rfl ?_
 refine rg_nil nofun ?_
 refine vc_seq ?_
 refine vc_region hm ?_
 refine gM trivial (.inl rfl) rfl rfl rfl ?_
 obtain ⟨E1,hE1,x1,x1a,x1b,rfl⟩:=pick_c (k:=k) (t0:=t0) (p:=p) hl hn (by omega) (by omega) (m:=3) (by omega) (by omega)
 refine gCF (ups':=[(1,one ⟨[.slice (some ⟨0,k,none⟩) n 0,.int .i64 (p + 1)],83,2⟩)]) (as':=[]) (v':=.int .i64 x1) 9 [0,1] hE1 trivial rfl rfl rfl rfl ⟨rCode rfl rfl,rCells rfl ⟨rfl,rfl,.inr rfl⟩ rfl,trivial⟩ ⟨frOne rfl rfl,trivial⟩ trivial rfl rfl (ho1 ⟨_,rfl⟩) (hu1 rfl) rfl rfl ?_
 refine gM trivial (.inr rfl) rfl rfl rfl ?_
 refine rg_nil nofun ?_
 refine vc_seq ?_
 refine vc_region hm ?_
 refine gM trivial (.inl rfl) rfl rfl rfl ?_
 refine gM trivial (.inl rfl) rfl rfl rfl ?_
 obtain ⟨E2,hE2,x2,x2a,x2b,rfl⟩:=pick_c (k:=k) (t0:=t0) (p:=p + 1) hl hn (by omega) (by omega) (m:=4) (by omega) (by omega)
 refine gCF (ups':=[(1,one ⟨[.slice (some ⟨0,k,none⟩) n 0,.int .i64 (p + 1 + 1)],83,2⟩)]) (as':=[]) (v':=.int .i64 x2) 9 [0,1] hE2 trivial rfl rfl rfl rfl ⟨rCode rfl rfl,rCells rfl ⟨rfl,rfl,.inr rfl⟩ rfl,trivial⟩ ⟨frOne rfl rfl,trivial⟩ trivial rfl rfl (ho1 ⟨_,rfl⟩) (hu1 rfl) rfl rfl ?_
 refine gM trivial (.inl rfl) rfl rfl rfl ?_
 obtain ⟨E3,hE3,x3,x3a,x3b,rfl⟩:=pick_c (k:=k) (t0:=t0) (p:=p + 1 + 1) hl hn (by omega) (by omega) (m:=3) (by omega) (by omega)
 refine gCF (ups':=[(1,one ⟨[.slice (some ⟨0,k,none⟩) n 0,.int .i64 (p + 1 + 1 + 1)],83,2⟩)]) (as':=[]) (v':=.int .i64 x3) 9 [0,1] hE3 trivial rfl rfl rfl rfl ⟨rCode rfl rfl,rCells rfl ⟨rfl,rfl,.inr rfl⟩ rfl,trivial⟩ ⟨frOne rfl rfl,trivial⟩ trivial rfl rfl (ho1 ⟨_,rfl⟩) (hu1 rfl) rfl rfl ?_
 refine gM trivial (.inl rfl) rfl rfl rfl ?_
 obtain ⟨E4,hE4,x4,x4a,x4b,rfl⟩:=pick_c (k:=k) (t0:=t0) (p:=p + 1 + 1 + 1) hl hn (by omega) (by omega) (m:=16) (by omega) (by omega)
 refine gCF (ups':=[(1,one ⟨[.slice (some ⟨0,k,none⟩) n 0,.int .i64 (p + 1 + 1 + 1 + 1)],83,2⟩)]) (as':=[]) (v':=.int .i64 x4) 9 [0,1] hE4 trivial rfl rfl rfl rfl ⟨rCode rfl rfl,rCells rfl ⟨rfl,rfl,.inr rfl⟩ rfl,trivial⟩ ⟨frOne rfl rfl,trivial⟩ trivial rfl rfl (ho1 ⟨_,rfl⟩) (hu1 rfl) rfl rfl ?_
 refine gM trivial (.inl rfl) rfl rfl rfl ?_
 refine gR (u':=10) (out:=rS [⟨#[120]⟩,⟨#[97,98]⟩,⟨#[113,55,46]⟩,⟨#[109,110,111,112]⟩]) trivial rfl rfl rfl rfl rfl rfl rfl rfl rfl rfl rfl rfl rfl rfl ?_
 obtain ⟨E5,hE5,t5,t5a,t5b,rfl⟩:=ofS_c (k:=k) (t0:=t0) (p:=p + 1 + 1 + 1 + 1) hl hn (by omega) (by omega) (L:=[⟨#[120]⟩,⟨#[97,98]⟩,⟨#[113,55,46]⟩,⟨#[109,110,111,112]⟩]) (lo:=1) (hi:=4) (by decide) (by decide)
 refine gCF (ups':=[(1,one ⟨[.slice (some ⟨0,k,none⟩) n 0,.int .i64 (p + 1 + 1 + 1 + 1 + 1)],83,2⟩)]) (as':=[]) (v':=.string t5) 10 [0,1,9] hE5 trivial rfl rfl rfl rfl ⟨rCode rfl rfl,rCells rfl ⟨rfl,rfl,.inr rfl⟩ rfl,rFlat (rS_flat _) rfl (.inl rfl) rfl,trivial⟩ ⟨frOne rfl rfl,trivial⟩ trivial rfl rfl (ho1 ⟨_,rfl⟩) (hu1 rfl) rfl rfl ?_
 refine gU trivial rfl rfl rfl rfl rfl rfl rfl rfl ?_
 refine gZ (u':=11) trivial rfl rfl rfl rfl rfl rfl rfl rfl ?_
 refine gT trivial rfl rfl rfl rfl rfl rfl rfl rfl rfl rfl (Nat.le_of_ble_eq_true rfl) rfl ?_
 refine rg_nil nofun ?_
 refine vc_joinT (fun S_=>∃ (nu q2:Int),p≤q2∧q2≤p + 6∧S_=⟨10,[(0,.pointer (some ⟨1,0,none⟩)),(3,.pointer (some ⟨7,0,none⟩)),(4,.pointer (some ⟨8,0,none⟩)),(5,.int .i64 x1),(6,.pointer (some ⟨9,0,none⟩))],[(0,false,one ⟨hls k (rY l),t0,0⟩),(1,true,one ⟨[.slice (some ⟨0,k,none⟩) n 0,.int .i64 (q2)],83,2⟩),(2,false,one ⟨hls kk (rS s.now),9,0⟩),(3,false,one ⟨rS s.sure,9,0⟩),(4,false,one ⟨rI s.last,3,0⟩),(5,false,one ⟨rI s.slast,3,0⟩),(6,false,one ⟨rI s.fl,3,0⟩),(7,true,one ⟨[.slice (some ⟨2,kk,none⟩) s.now.length cc,.slice (some ⟨3,0,none⟩) s.sure.length 0,.slice (some ⟨4,0,none⟩) s.last.length 0,.slice (some ⟨5,0,none⟩) s.slast.length 0,.slice (some ⟨6,0,none⟩) s.fl.length 0],26,5⟩),(8,true,one ⟨[.int .i64 0,.int .i64 0,.int .i64 0,.int .i64 0,.int .i64 0,.string ⟨#[]⟩],52,6⟩),(9,true,one ⟨[.int .i64 x1,.int .i64 x2,.int .i64 nu,.int .i64 x3,.int .i64 x4,.string t5],52,6⟩)]⟩) ?_ ?_
 ·skip
  refine vc_seq ?_
  refine vc_region hm ?_
  refine gF trivial rfl rfl rfl rfl rfl ?_
  refine gL trivial rfl rfl rfl rfl rfl rfl rfl rfl ?_
  refine gK trivial rfl rfl rfl rfl rfl rfl rI_nil ?_
  refine gI trivial rfl rfl rfl rfl rfl rfl ?_
  refine rg_nil nofun ?_
  refine cI rfl (fun c23=>?_) (fun c23=>?_)
  ·skip
   have p23:=eq_of_beq c23
   refine vc_region hm ?_
   refine gF trivial rfl rfl rfl rfl rfl ?_
   refine gL trivial rfl rfl rfl rfl rfl rfl rfl rfl ?_
   refine gM trivial (.inl rfl) rfl rfl rfl ?_
   refine gX trivial rfl rfl rfl rfl rfl rfl rfl rfl (by omega) (by omega) rI_ne ?_
   refine gL trivial rfl rfl rfl rfl rfl rfl rfl (lI (by omega) (by omega)) ?_
   refine gM trivial (.inl rfl) rfl rfl rfl ?_
   refine gR (u':=12) (out:=rI [1,1,1,1,1,0,2,-1]) trivial rfl rfl rfl rfl rfl rfl rfl rfl rfl rfl rfl rfl rfl rfl ?_
   obtain ⟨E7,hE7,x7,x7a,x7b,rfl⟩:=num_c (k:=k) (t0:=t0) (p:=p + 1 + 1 + 1 + 1 + 1) hl hn (by omega) (by omega) (L:=[1,1,1,1,1,0,2,-1]) (a:=-1) (b:=2) (by decide) (by decide)
   refine gCF (ups':=[(1,one ⟨[.slice (some ⟨0,k,none⟩) n 0,.int .i64 (p + 1 + 1 + 1 + 1 + 1 + 1)],83,2⟩)]) (as':=[]) (v':=.int .i64 x7) 12 [0,1,11] hE7 trivial rfl rfl rfl rfl ⟨rCode rfl rfl,rCells rfl ⟨rfl,rfl,.inr rfl⟩ rfl,rFlat (rI_flat _) rfl (.inl rfl) rfl,trivial⟩ ⟨frOne rfl rfl,trivial⟩ trivial rfl rfl (ho1 ⟨_,rfl⟩) (hu1 rfl) rfl rfl ?_
   refine gA trivial rfl rfl rfl rfl rfl rfl (by have:=at_I hb.l (i:=x1) (by omega) (by omega);omega) ?_
   refine gF trivial rfl rfl rfl rfl rfl ?_
   refine gT trivial rfl rfl rfl rfl rfl rfl rfl rfl rfl rfl (Nat.le_of_ble_eq_true rfl) rfl ?_
   refine rg_nil (fun _=>by kernel_rfl) ?_
   exact jn_hereT ⟨((at_ s.last x1) + x7),p + 1 + 1 + 1 + 1 + 1 + 1,(by omega),(by omega),rfl⟩ (re_nil (ms:=[0,1,2,3,4,5,6,7,8,10]) (C:=999) rfl ⟨⟨⟨rfl,rfl⟩,rfl⟩,⟨⟨rfl,rfl⟩,rfl⟩,⟨⟨rfl,rfl⟩,rfl⟩,⟨⟨rfl,rfl⟩,rfl⟩,⟨⟨rfl,rfl⟩,rfl⟩,trivial⟩ ⟨ktCode rfl rfl,ktRow rfl rfl rfl (BlkW.refl _) id rfl,ktFlat (hls_flat (rS_flat _)) rfl (.inl rfl) (fun h=>nomatch h) rfl,ktFlat (rS_flat _) rfl (.inl rfl) (fun h=>nomatch h) rfl,ktFlat (rI_flat _) rfl (.inl rfl) (fun h=>nomatch h) rfl,ktFlat (rI_flat _) rfl (.inl rfl) (fun h=>nomatch h) rfl,ktFlat (rI_flat _) rfl (.inl rfl) (fun h=>nomatch h) rfl,ktRow rfl rfl rfl ⟨.inl rfl,fun _=>rfl,.inr (.inl rfl),fun q=>(by cases q)⟩ id rfl,ktRow rfl rfl rfl (BlkW.refl _) id rfl,ktRow rfl rfl rfl (BlkW.refl _) id rfl,trivial⟩ rfl rfl (rig_of rfl) rfl)
  ·skip
   have p23:=ne_of_beq_false c23
   refine vc_skip ?_
   exact jn_hereT ⟨1,p + 1 + 1 + 1 + 1 + 1,(by omega),(by omega),rfl⟩ (re_nil (ms:=[0,1,2,3,4,5,6,7,8,10]) (C:=999) rfl ⟨⟨⟨rfl,rfl⟩,rfl⟩,⟨⟨rfl,rfl⟩,rfl⟩,⟨⟨rfl,rfl⟩,rfl⟩,⟨⟨rfl,rfl⟩,rfl⟩,⟨⟨rfl,rfl⟩,rfl⟩,trivial⟩ ⟨ktCode rfl rfl,ktRow rfl rfl rfl (BlkW.refl _) id rfl,ktFlat (hls_flat (rS_flat _)) rfl (.inl rfl) (fun h=>nomatch h) rfl,ktFlat (rS_flat _) rfl (.inl rfl) (fun h=>nomatch h) rfl,ktFlat (rI_flat _) rfl (.inl rfl) (fun h=>nomatch h) rfl,ktFlat (rI_flat _) rfl (.inl rfl) (fun h=>nomatch h) rfl,ktFlat (rI_flat _) rfl (.inl rfl) (fun h=>nomatch h) rfl,ktRow rfl rfl rfl ⟨.inl rfl,fun _=>rfl,.inr (.inl rfl),fun q=>(by cases q)⟩ id rfl,ktRow rfl rfl rfl (BlkW.refl _) id rfl,ktRow rfl rfl rfl (BlkW.refl _) id rfl,trivial⟩ rfl rfl (rig_of rfl) rfl)
 ·rintro S_ ⟨nu,q2,r1,r2,rfl⟩
  refine vc_joinT (fun S_=>∃ (e3 q3:Int),p≤q3∧q3≤p + 8∧S_=⟨10,[(0,.pointer (some ⟨1,0,none⟩)),(3,.pointer (some ⟨7,0,none⟩)),(4,.pointer (some ⟨8,0,none⟩)),(5,.int .i64 x1),(6,.pointer (some ⟨9,0,none⟩))],[(0,false,one ⟨hls k (rY l),t0,0⟩),(1,true,one ⟨[.slice (some ⟨0,k,none⟩) n 0,.int .i64 (q3)],83,2⟩),(2,false,one ⟨hls kk (rS s.now),9,0⟩),(3,false,one ⟨rS s.sure,9,0⟩),(4,false,one ⟨rI s.last,3,0⟩),(5,false,one ⟨rI s.slast,3,0⟩),(6,false,one ⟨rI s.fl,3,0⟩),(7,true,one ⟨[.slice (some ⟨2,kk,none⟩) s.now.length cc,.slice (some ⟨3,0,none⟩) s.sure.length 0,.slice (some ⟨4,0,none⟩) s.last.length 0,.slice (some ⟨5,0,none⟩) s.slast.length 0,.slice (some ⟨6,0,none⟩) s.fl.length 0],26,5⟩),(8,true,one ⟨[.int .i64 0,.int .i64 0,.int .i64 0,.int .i64 0,.int .i64 0,.string ⟨#[]⟩],52,6⟩),(9,true,one ⟨[.int .i64 x1,.int .i64 e3,.int .i64 nu,.int .i64 x3,.int .i64 x4,.string t5],52,6⟩)]⟩) ?_ ?_
  ·skip
   refine vc_seq ?_
   refine vc_region hm ?_
   refine gF trivial rfl rfl rfl rfl rfl ?_
   refine gL trivial rfl rfl rfl rfl rfl rfl rfl rfl ?_
   refine gK trivial rfl rfl rfl rfl rfl rfl rI_nil ?_
   refine gI trivial rfl rfl rfl rfl rfl rfl ?_
   refine gM trivial (.inl rfl) rfl rfl rfl ?_
   refine gI2 (d:=38) rfl (fun c38=>?_) (fun c38=>?_)
   ·skip
    have p38:=eq_of_beq c38
    refine gM ⟨_,_,rfl,rfl,c38⟩ (.inl rfl) rfl rfl rfl ?_
    obtain ⟨E9,hE9,x9,x9a,x9b,rfl⟩:=pick_c (k:=k) (t0:=t0) (p:=q2) hl hn (by omega) (by omega) (m:=3) (by omega) (by omega)
    refine gCF (ups':=[(1,one ⟨[.slice (some ⟨0,k,none⟩) n 0,.int .i64 (q2 + 1)],83,2⟩)]) (as':=[]) (v':=.int .i64 x9) 10 [0,1] hE9 ⟨_,_,rfl,rfl,c38⟩ rfl rfl rfl rfl ⟨rCode rfl rfl,rCells rfl ⟨rfl,rfl,.inr rfl⟩ rfl,trivial⟩ ⟨frOne rfl rfl,trivial⟩ trivial rfl rfl (ho1 ⟨_,rfl⟩) (hu1 rfl) rfl rfl ?_
    refine gI ⟨_,_,rfl,rfl,c38⟩ rfl rfl rfl rfl rfl rfl ?_
    refine gPT trivial rfl rfl c38 rfl rfl rfl ?_
    refine rg_nil nofun ?_
    refine cI rfl (fun c42=>?_) (fun c42=>?_)
    ·skip
     have p42:=of_decide_eq_true c42
     refine vc_region hm ?_
     refine gF trivial rfl rfl rfl rfl rfl ?_
     refine gL trivial rfl rfl rfl rfl rfl rfl rfl rfl ?_
     refine gM trivial (.inl rfl) rfl rfl rfl ?_
     refine gX trivial rfl rfl rfl rfl rfl rfl rfl rfl (by omega) (by omega) rI_ne ?_
     refine gL trivial rfl rfl rfl rfl rfl rfl rfl (lI (by omega) (by omega)) ?_
     refine gM trivial (.inl rfl) rfl rfl rfl ?_
     obtain ⟨E11,hE11,x11,x11a,x11b,rfl⟩:=pick_c (k:=k) (t0:=t0) (p:=q2 + 1) hl hn (by omega) (by omega) (m:=2) (by omega) (by omega)
     refine gCF (ups':=[(1,one ⟨[.slice (some ⟨0,k,none⟩) n 0,.int .i64 (q2 + 1 + 1)],83,2⟩)]) (as':=[]) (v':=.int .i64 x11) 10 [0,1] hE11 trivial rfl rfl rfl rfl ⟨rCode rfl rfl,rCells rfl ⟨rfl,rfl,.inr rfl⟩ rfl,trivial⟩ ⟨frOne rfl rfl,trivial⟩ trivial rfl rfl (ho1 ⟨_,rfl⟩) (hu1 rfl) rfl rfl ?_
     refine gA trivial rfl rfl rfl rfl rfl rfl (by have:=at_I hb.f (i:=x1) (by omega) (by omega);omega) ?_
     refine gF trivial rfl rfl rfl rfl rfl ?_
     refine gT trivial rfl rfl rfl rfl rfl rfl rfl rfl rfl rfl (Nat.le_of_ble_eq_true rfl) rfl ?_
     refine rg_nil (fun _=>by kernel_rfl) ?_
     exact jn_hereT ⟨((at_ s.fl x1) + x11),q2 + 1 + 1,(by omega),(by omega),rfl⟩ (re_nil (ms:=[0,1,2,3,4,5,6,7,8,9]) (C:=999) rfl ⟨⟨⟨rfl,rfl⟩,rfl⟩,⟨⟨rfl,rfl⟩,rfl⟩,⟨⟨rfl,rfl⟩,rfl⟩,⟨⟨rfl,rfl⟩,rfl⟩,⟨⟨rfl,rfl⟩,rfl⟩,trivial⟩ ⟨ktCode rfl rfl,ktRow rfl rfl rfl (BlkW.refl _) id rfl,ktFlat (hls_flat (rS_flat _)) rfl (.inl rfl) (fun h=>nomatch h) rfl,ktFlat (rS_flat _) rfl (.inl rfl) (fun h=>nomatch h) rfl,ktFlat (rI_flat _) rfl (.inl rfl) (fun h=>nomatch h) rfl,ktFlat (rI_flat _) rfl (.inl rfl) (fun h=>nomatch h) rfl,ktFlat (rI_flat _) rfl (.inl rfl) (fun h=>nomatch h) rfl,ktRow rfl rfl rfl ⟨.inl rfl,fun _=>rfl,.inr (.inl rfl),fun q=>(by cases q)⟩ id rfl,ktRow rfl rfl rfl (BlkW.refl _) id rfl,ktRow rfl rfl rfl (BlkW.refl _) id rfl,trivial⟩ rfl rfl (rig_of rfl) rfl)
    ·skip
     have p42:=of_decide_eq_false c42
     refine vc_skip ?_
     exact jn_hereT ⟨x2,q2 + 1,(by omega),(by omega),rfl⟩ (re_nil (ms:=[0,1,2,3,4,5,6,7,8,9]) (C:=999) rfl ⟨⟨⟨rfl,rfl⟩,rfl⟩,⟨⟨rfl,rfl⟩,rfl⟩,⟨⟨rfl,rfl⟩,rfl⟩,⟨⟨rfl,rfl⟩,rfl⟩,⟨⟨rfl,rfl⟩,rfl⟩,trivial⟩ ⟨ktCode rfl rfl,ktRow rfl rfl rfl (BlkW.refl _) id rfl,ktFlat (hls_flat (rS_flat _)) rfl (.inl rfl) (fun h=>nomatch h) rfl,ktFlat (rS_flat _) rfl (.inl rfl) (fun h=>nomatch h) rfl,ktFlat (rI_flat _) rfl (.inl rfl) (fun h=>nomatch h) rfl,ktFlat (rI_flat _) rfl (.inl rfl) (fun h=>nomatch h) rfl,ktFlat (rI_flat _) rfl (.inl rfl) (fun h=>nomatch h) rfl,ktRow rfl rfl rfl ⟨.inl rfl,fun _=>rfl,.inr (.inl rfl),fun q=>(by cases q)⟩ id rfl,ktRow rfl rfl rfl (BlkW.refl _) id rfl,ktRow rfl rfl rfl (BlkW.refl _) id rfl,trivial⟩ rfl rfl (rig_of rfl) rfl)
   ·skip
    have p38:=ne_of_beq_false c38
    refine gO ⟨_,_,rfl,rfl,c38⟩ rfl rfl ?_
    refine gO ⟨_,_,rfl,rfl,c38⟩ rfl rfl ?_
    refine gO ⟨_,_,rfl,rfl,c38⟩ rfl rfl ?_
    refine gPF trivial rfl rfl c38 rfl rfl rfl ?_
    refine rg_nil nofun ?_
    refine cF rfl rfl ?_
    refine vc_skip ?_
    exact jn_hereT ⟨x2,q2,(by omega),(by omega),rfl⟩ (re_nil (ms:=[0,1,2,3,4,5,6,7,8,9]) (C:=999) rfl ⟨⟨⟨rfl,rfl⟩,rfl⟩,⟨⟨rfl,rfl⟩,rfl⟩,⟨⟨rfl,rfl⟩,rfl⟩,⟨⟨rfl,rfl⟩,rfl⟩,⟨⟨rfl,rfl⟩,rfl⟩,trivial⟩ ⟨ktCode rfl rfl,ktRow rfl rfl rfl (BlkW.refl _) id rfl,ktFlat (hls_flat (rS_flat _)) rfl (.inl rfl) (fun h=>nomatch h) rfl,ktFlat (rS_flat _) rfl (.inl rfl) (fun h=>nomatch h) rfl,ktFlat (rI_flat _) rfl (.inl rfl) (fun h=>nomatch h) rfl,ktFlat (rI_flat _) rfl (.inl rfl) (fun h=>nomatch h) rfl,ktFlat (rI_flat _) rfl (.inl rfl) (fun h=>nomatch h) rfl,ktRow rfl rfl rfl ⟨.inl rfl,fun _=>rfl,.inr (.inl rfl),fun q=>(by cases q)⟩ id rfl,ktRow rfl rfl rfl (BlkW.refl _) id rfl,ktRow rfl rfl rfl (BlkW.refl _) id rfl,trivial⟩ rfl rfl (rig_of rfl) rfl)
  ·rintro S_ ⟨e3,q3,r3,r4,rfl⟩
   refine vc_seq ?_
   refine vc_seq ?_
   refine vc_region hm ?_
   refine gM trivial (.inl rfl) rfl rfl rfl ?_
   obtain ⟨E12,hE12,x12,x12a,x12b,rfl⟩:=pick_c (k:=k) (t0:=t0) (p:=q3) hl hn (by omega) (by omega) (m:=50) (by omega) (by omega)
   refine gCF (ups':=[(1,one ⟨[.slice (some ⟨0,k,none⟩) n 0,.int .i64 (q3 + 1)],83,2⟩)]) (as':=[]) (v':=.int .i64 x12) 10 [0,1] hE12 trivial rfl rfl rfl rfl ⟨rCode rfl rfl,rCells rfl ⟨rfl,rfl,.inr rfl⟩ rfl,trivial⟩ ⟨frOne rfl rfl,trivial⟩ trivial rfl rfl (ho1 ⟨_,rfl⟩) (hu1 rfl) rfl rfl ?_
   refine rg_nil nofun ?_
   refine vc_block ?_
   refine vc_seq ?_
   refine vc_region hm ?_
   refine gI trivial rfl rfl rfl rfl rfl rfl ?_
   refine gM trivial (.inr rfl) rfl rfl rfl ?_
   refine rg_nil nofun ?_
   refine cI rfl (fun c54=>?_) (fun c54=>?_)
   ·skip
    have p54:=eq_of_beq c54
    refine vc_region hm ?_
    refine gM trivial (.inl rfl) rfl rfl rfl ?_
    obtain ⟨E14,hE14,w14,p14,q14a,q14b,rfl⟩:=whoDraw_c (k:=k) (t0:=t0) (p:=q3 + 1) hl hn (by omega) (by omega) 
    refine gCF (ups':=[(1,one ⟨[.slice (some ⟨0,k,none⟩) n 0,.int .i64 (p14)],83,2⟩)]) (as':=[]) (v':=.int .i64 w14) 10 [0,1] hE14 trivial rfl rfl rfl rfl ⟨rCode rfl rfl,rCells rfl ⟨rfl,rfl,.inr rfl⟩ rfl,trivial⟩ ⟨frOne rfl rfl,trivial⟩ trivial rfl rfl (ho1 ⟨_,rfl⟩) (hu1 rfl) rfl rfl ?_
    refine gF trivial rfl rfl rfl rfl rfl ?_
    refine gT trivial rfl rfl rfl rfl rfl rfl rfl rfl rfl rfl (Nat.le_of_ble_eq_true rfl) rfl ?_
    refine rg_nil nofun ?_
    refine vc_seq ?_
    refine vc_region hm ?_
    refine gL trivial rfl rfl rfl rfl rfl rfl rfl rfl ?_
    refine gT trivial rfl rfl rfl rfl rfl rfl rfl rfl rfl rfl (Nat.le_of_ble_eq_true rfl) rfl ?_
    refine rg_nil nofun ?_
    refine vc_ret ?_
    exact ⟨mkF (vRq ⟨w14,e3,nu,x3,x4,t5⟩) [0,2,3,4,5,6] [(1,one ⟨[.slice (some ⟨0,k,none⟩) n 0,.int .i64 (p14)],83,2⟩)] [],_,endsT [] (.inr rfl) ((.cell rfl rfl rfl rfl rfl .nil)) rfl rfl ⟨upOne rfl rfl rfl,trivial⟩ trivial rfl,⟨w14,e3,nu,x3,x4,t5⟩,_,(show t5.size≤16 by omega),(by omega),(by omega),rfl⟩
   ·skip
    have p54:=ne_of_beq_false c54
    refine vc_seq ?_
    refine vc_region hm ?_
    refine gI trivial rfl rfl rfl rfl rfl rfl ?_
    refine gM trivial (.inr rfl) rfl rfl rfl ?_
    refine rg_nil nofun ?_
    refine cI rfl (fun c59=>?_) (fun c59=>?_)
    ·skip
     have p59:=eq_of_beq c59
     refine vc_region hm ?_
     refine gM trivial (.inl rfl) rfl rfl rfl ?_
     refine gR (u':=11) (out:=rI [-1,3]) trivial rfl rfl rfl rfl rfl rfl rfl rfl rfl rfl rfl rfl rfl rfl ?_
     obtain ⟨E16,hE16,x16,x16a,x16b,rfl⟩:=num_c (k:=k) (t0:=t0) (p:=q3 + 1) hl hn (by omega) (by omega) (L:=[-1,3]) (a:=-1) (b:=3) (by decide) (by decide)
     refine gCF (ups':=[(1,one ⟨[.slice (some ⟨0,k,none⟩) n 0,.int .i64 (q3 + 1 + 1)],83,2⟩)]) (as':=[]) (v':=.int .i64 x16) 11 [0,1,10] hE16 trivial rfl rfl rfl rfl ⟨rCode rfl rfl,rCells rfl ⟨rfl,rfl,.inr rfl⟩ rfl,rFlat (rI_flat _) rfl (.inl rfl) rfl,trivial⟩ ⟨frOne rfl rfl,trivial⟩ trivial rfl rfl (ho1 ⟨_,rfl⟩) (hu1 rfl) rfl rfl ?_
     refine gF trivial rfl rfl rfl rfl rfl ?_
     refine gT trivial rfl rfl rfl rfl rfl rfl rfl rfl rfl rfl (Nat.le_of_ble_eq_true rfl) rfl ?_
     refine rg_nil nofun ?_
     refine vc_seq ?_
     refine vc_region hm ?_
     refine gL trivial rfl rfl rfl rfl rfl rfl rfl rfl ?_
     refine gT trivial rfl rfl rfl rfl rfl rfl rfl rfl rfl rfl (Nat.le_of_ble_eq_true rfl) rfl ?_
     refine rg_nil nofun ?_
     refine vc_ret ?_
     exact ⟨mkF (vRq ⟨x1,e3,nu,x16,x4,t5⟩) [0,2,3,4,5,6] [(1,one ⟨[.slice (some ⟨0,k,none⟩) n 0,.int .i64 (q3 + 1 + 1)],83,2⟩)] [],_,endsT [] (.inr rfl) ((.cell rfl rfl rfl rfl rfl .nil)) rfl rfl ⟨upOne rfl rfl rfl,trivial⟩ trivial rfl,⟨x1,e3,nu,x16,x4,t5⟩,_,(show t5.size≤16 by omega),(by omega),(by omega),rfl⟩
    ·skip
     have p59:=ne_of_beq_false c59
     refine vc_seq ?_
     refine vc_region hm ?_
     refine gI trivial rfl rfl rfl rfl rfl rfl ?_
     refine gM trivial (.inr rfl) rfl rfl rfl ?_
     refine rg_nil nofun ?_
     refine cI rfl (fun c65=>?_) (fun c65=>?_)
     ·skip
      have p65:=eq_of_beq c65
      refine vc_region hm ?_
      refine gM trivial (.inl rfl) rfl rfl rfl ?_
      refine gR (u':=11) (out:=rI [-1,48,9223372036854775807]) trivial rfl rfl rfl rfl rfl rfl rfl rfl rfl rfl rfl rfl rfl rfl ?_
      obtain ⟨E18,hE18,x18,x18a,x18b,rfl⟩:=num_c (k:=k) (t0:=t0) (p:=q3 + 1) hl hn (by omega) (by omega) (L:=[-1,48,9223372036854775807]) (a:=-1) (b:=9223372036854775807) (by decide) (by decide)
      refine gCF (ups':=[(1,one ⟨[.slice (some ⟨0,k,none⟩) n 0,.int .i64 (q3 + 1 + 1)],83,2⟩)]) (as':=[]) (v':=.int .i64 x18) 11 [0,1,10] hE18 trivial rfl rfl rfl rfl ⟨rCode rfl rfl,rCells rfl ⟨rfl,rfl,.inr rfl⟩ rfl,rFlat (rI_flat _) rfl (.inl rfl) rfl,trivial⟩ ⟨frOne rfl rfl,trivial⟩ trivial rfl rfl (ho1 ⟨_,rfl⟩) (hu1 rfl) rfl rfl ?_
      refine gF trivial rfl rfl rfl rfl rfl ?_
      refine gT trivial rfl rfl rfl rfl rfl rfl rfl rfl rfl rfl (Nat.le_of_ble_eq_true rfl) rfl ?_
      refine rg_nil nofun ?_
      refine vc_seq ?_
      refine vc_region hm ?_
      refine gL trivial rfl rfl rfl rfl rfl rfl rfl rfl ?_
      refine gT trivial rfl rfl rfl rfl rfl rfl rfl rfl rfl rfl (Nat.le_of_ble_eq_true rfl) rfl ?_
      refine rg_nil nofun ?_
      refine vc_ret ?_
      exact ⟨mkF (vRq ⟨x1,e3,nu,x3,x18,t5⟩) [0,2,3,4,5,6] [(1,one ⟨[.slice (some ⟨0,k,none⟩) n 0,.int .i64 (q3 + 1 + 1)],83,2⟩)] [],_,endsT [] (.inr rfl) ((.cell rfl rfl rfl rfl rfl .nil)) rfl rfl ⟨upOne rfl rfl rfl,trivial⟩ trivial rfl,⟨x1,e3,nu,x3,x18,t5⟩,_,(show t5.size≤16 by omega),(by omega),(by omega),rfl⟩
     ·skip
      have p65:=ne_of_beq_false c65
      refine vc_seq ?_
      refine vc_region hm ?_
      refine gI trivial rfl rfl rfl rfl rfl rfl ?_
      refine gM trivial (.inr rfl) rfl rfl rfl ?_
      refine rg_nil nofun ?_
      refine cI rfl (fun c71=>?_) (fun c71=>?_)
      ·skip
       have p71:=eq_of_beq c71
       refine vc_region hm ?_
       refine gM trivial (.inl rfl) rfl rfl rfl ?_
       refine gR (u':=11) (out:=rS [⟨#[]⟩,⟨#[65]⟩,⟨#[97,32,98]⟩]) trivial rfl rfl rfl rfl rfl rfl rfl rfl rfl rfl rfl rfl rfl rfl ?_
       obtain ⟨E20,hE20,t20,t20a,t20b,rfl⟩:=ofS_c (k:=k) (t0:=t0) (p:=q3 + 1) hl hn (by omega) (by omega) (L:=[⟨#[]⟩,⟨#[65]⟩,⟨#[97,32,98]⟩]) (lo:=0) (hi:=3) (by decide) (by decide)
       refine gCF (ups':=[(1,one ⟨[.slice (some ⟨0,k,none⟩) n 0,.int .i64 (q3 + 1 + 1)],83,2⟩)]) (as':=[]) (v':=.string t20) 11 [0,1,10] hE20 trivial rfl rfl rfl rfl ⟨rCode rfl rfl,rCells rfl ⟨rfl,rfl,.inr rfl⟩ rfl,rFlat (rS_flat _) rfl (.inl rfl) rfl,trivial⟩ ⟨frOne rfl rfl,trivial⟩ trivial rfl rfl (ho1 ⟨_,rfl⟩) (hu1 rfl) rfl rfl ?_
       refine gF trivial rfl rfl rfl rfl rfl ?_
       refine gT trivial rfl rfl rfl rfl rfl rfl rfl rfl rfl rfl (Nat.le_of_ble_eq_true rfl) rfl ?_
       refine rg_nil nofun ?_
       refine vc_seq ?_
       refine vc_region hm ?_
       refine gL trivial rfl rfl rfl rfl rfl rfl rfl rfl ?_
       refine gT trivial rfl rfl rfl rfl rfl rfl rfl rfl rfl rfl (Nat.le_of_ble_eq_true rfl) rfl ?_
       refine rg_nil nofun ?_
       refine vc_ret ?_
       exact ⟨mkF (vRq ⟨x1,e3,nu,x3,x4,t20⟩) [0,2,3,4,5,6] [(1,one ⟨[.slice (some ⟨0,k,none⟩) n 0,.int .i64 (q3 + 1 + 1)],83,2⟩)] [],_,endsT [] (.inr rfl) ((.cell rfl rfl rfl rfl rfl .nil)) rfl rfl ⟨upOne rfl rfl rfl,trivial⟩ trivial rfl,⟨x1,e3,nu,x3,x4,t20⟩,_,(show t20.size≤16 by omega),(by omega),(by omega),rfl⟩
      ·skip
       have p71:=ne_of_beq_false c71
       refine vc_seq ?_
       refine vc_region hm ?_
       refine gI trivial rfl rfl rfl rfl rfl rfl ?_
       refine gM trivial (.inr rfl) rfl rfl rfl ?_
       refine rg_nil nofun ?_
       refine cI rfl (fun c77=>?_) (fun c77=>?_)
       ·skip
        have p77:=eq_of_beq c77
        refine vc_region hm ?_
        refine gM trivial (.inl rfl) rfl rfl rfl ?_
        refine gR (u':=11) (out:=rI [0,-1,1001]) trivial rfl rfl rfl rfl rfl rfl rfl rfl rfl rfl rfl rfl rfl rfl ?_
        obtain ⟨E22,hE22,x22,x22a,x22b,rfl⟩:=num_c (k:=k) (t0:=t0) (p:=q3 + 1) hl hn (by omega) (by omega) (L:=[0,-1,1001]) (a:=-1) (b:=1001) (by decide) (by decide)
        refine gCF (ups':=[(1,one ⟨[.slice (some ⟨0,k,none⟩) n 0,.int .i64 (q3 + 1 + 1)],83,2⟩)]) (as':=[]) (v':=.int .i64 x22) 11 [0,1,10] hE22 trivial rfl rfl rfl rfl ⟨rCode rfl rfl,rCells rfl ⟨rfl,rfl,.inr rfl⟩ rfl,rFlat (rI_flat _) rfl (.inl rfl) rfl,trivial⟩ ⟨frOne rfl rfl,trivial⟩ trivial rfl rfl (ho1 ⟨_,rfl⟩) (hu1 rfl) rfl rfl ?_
        refine gF trivial rfl rfl rfl rfl rfl ?_
        refine gT trivial rfl rfl rfl rfl rfl rfl rfl rfl rfl rfl (Nat.le_of_ble_eq_true rfl) rfl ?_
        refine rg_nil nofun ?_
        refine vc_seq ?_
        refine vc_region hm ?_
        refine gL trivial rfl rfl rfl rfl rfl rfl rfl rfl ?_
        refine gT trivial rfl rfl rfl rfl rfl rfl rfl rfl rfl rfl (Nat.le_of_ble_eq_true rfl) rfl ?_
        refine rg_nil nofun ?_
        refine vc_ret ?_
        exact ⟨mkF (vRq ⟨x1,e3,x22,x3,x4,t5⟩) [0,2,3,4,5,6] [(1,one ⟨[.slice (some ⟨0,k,none⟩) n 0,.int .i64 (q3 + 1 + 1)],83,2⟩)] [],_,endsT [] (.inr rfl) ((.cell rfl rfl rfl rfl rfl .nil)) rfl rfl ⟨upOne rfl rfl rfl,trivial⟩ trivial rfl,⟨x1,e3,x22,x3,x4,t5⟩,_,(show t5.size≤16 by omega),(by omega),(by omega),rfl⟩
       ·skip
        have p77:=ne_of_beq_false c77
        refine vc_seq ?_
        refine vc_region hm ?_
        refine gI trivial rfl rfl rfl rfl rfl rfl ?_
        refine gM trivial (.inr rfl) rfl rfl rfl ?_
        refine rg_nil nofun ?_
        refine cI rfl (fun c83=>?_) (fun c83=>?_)
        ·skip
         have p83:=eq_of_beq c83
         refine vc_region hm ?_
         refine gM trivial (.inl rfl) rfl rfl rfl ?_
         refine gR (u':=11) (out:=rI [-1,101]) trivial rfl rfl rfl rfl rfl rfl rfl rfl rfl rfl rfl rfl rfl rfl ?_
         obtain ⟨E24,hE24,x24,x24a,x24b,rfl⟩:=num_c (k:=k) (t0:=t0) (p:=q3 + 1) hl hn (by omega) (by omega) (L:=[-1,101]) (a:=-1) (b:=101) (by decide) (by decide)
         refine gCF (ups':=[(1,one ⟨[.slice (some ⟨0,k,none⟩) n 0,.int .i64 (q3 + 1 + 1)],83,2⟩)]) (as':=[]) (v':=.int .i64 x24) 11 [0,1,10] hE24 trivial rfl rfl rfl rfl ⟨rCode rfl rfl,rCells rfl ⟨rfl,rfl,.inr rfl⟩ rfl,rFlat (rI_flat _) rfl (.inl rfl) rfl,trivial⟩ ⟨frOne rfl rfl,trivial⟩ trivial rfl rfl (ho1 ⟨_,rfl⟩) (hu1 rfl) rfl rfl ?_
         refine gF trivial rfl rfl rfl rfl rfl ?_
         refine gT trivial rfl rfl rfl rfl rfl rfl rfl rfl rfl rfl (Nat.le_of_ble_eq_true rfl) rfl ?_
         refine rg_nil nofun ?_
         refine vc_seq ?_
         refine vc_region hm ?_
         refine gL trivial rfl rfl rfl rfl rfl rfl rfl rfl ?_
         refine gT trivial rfl rfl rfl rfl rfl rfl rfl rfl rfl rfl (Nat.le_of_ble_eq_true rfl) rfl ?_
         refine rg_nil nofun ?_
         refine vc_ret ?_
         exact ⟨mkF (vRq ⟨x1,x24,nu,x3,x4,t5⟩) [0,2,3,4,5,6] [(1,one ⟨[.slice (some ⟨0,k,none⟩) n 0,.int .i64 (q3 + 1 + 1)],83,2⟩)] [],_,endsT [] (.inr rfl) ((.cell rfl rfl rfl rfl rfl .nil)) rfl rfl ⟨upOne rfl rfl rfl,trivial⟩ trivial rfl,⟨x1,x24,nu,x3,x4,t5⟩,_,(show t5.size≤16 by omega),(by omega),(by omega),rfl⟩
        ·skip
         have p83:=ne_of_beq_false c83
         refine vc_skip ?_
         refine vc_seq ?_
         refine vc_region hm ?_
         refine gL trivial rfl rfl rfl rfl rfl rfl rfl rfl ?_
         refine gT trivial rfl rfl rfl rfl rfl rfl rfl rfl rfl rfl (Nat.le_of_ble_eq_true rfl) rfl ?_
         refine rg_nil nofun ?_
         refine vc_ret ?_
         exact ⟨mkF (vRq ⟨x1,e3,nu,x3,x4,t5⟩) [0,2,3,4,5,6] [(1,one ⟨[.slice (some ⟨0,k,none⟩) n 0,.int .i64 (q3 + 1)],83,2⟩)] [],_,endsT [] (.inr rfl) ((.cell rfl rfl rfl rfl rfl .nil)) rfl rfl ⟨upOne rfl rfl rfl,trivial⟩ trivial rfl,⟨x1,e3,nu,x3,x4,t5⟩,_,(show t5.size≤16 by omega),(by omega),(by omega),rfl⟩
theorem some5_c {l:List Int} {k n t0:Nat} {p:Int} (hl:ByL l) (hn:n≤l.length) (hp0:0≤p) (hp1:p≤980000):∃ E,FDoes Try.prog 47 [.pointer (some ⟨1,0,none⟩)] (hp [(0,false,one ⟨hls k (rY l),t0,0⟩),(1,true,one ⟨[.slice (some ⟨0,k,none⟩) n 0,.int .i64 (p)],83,2⟩)]) E∧∃ (s:Stv) (p2:Int),stOk s=true∧p≤p2∧p2≤p + 400∧E=mkF (.agg #[.slice (some ⟨2,0,none⟩) s.now.length 0,.slice (some ⟨3,0,none⟩) s.sure.length 0,.slice (some ⟨4,0,none⟩) s.last.length 0,.slice (some ⟨5,0,none⟩) s.slast.length 0,.slice (some ⟨6,0,none⟩) s.fl.length 0]) [0] [(1,one ⟨[.slice (some ⟨0,k,none⟩) n 0,.int .i64 (p2)],83,2⟩)] [(2,one ⟨rS s.now,9,77⟩),(3,one ⟨rS s.sure,9,77⟩),(4,one ⟨rI s.last,3,77⟩),(5,one ⟨rI s.slast,3,77⟩),(6,one ⟨rI s.fl,3,77⟩)]:=by
 have hm:Try.prog.follows .mixedOrders=true:=by kernel_rfl
 have hd_:∀ x_ ∈ ([(0,false,one ⟨hls k (rY l),t0,0⟩),(1,true,one ⟨[.slice (some ⟨0,k,none⟩) n 0,.int .i64 (p)],83,2⟩)]:List (Nat × Bool × Fam)),∀ k_ y_,x_.2.2 k_=some y_→DetB (lt 2) y_:=by
  intro x_ hx k_ y_ e
  simp only [List.mem_cons,List.not_mem_nil,or_false] at hx
  rcases hx with rfl|rfl
  ·exact det_code e
  ·exact det_ok rfl e
 refine fn_some (u0:=2) Try.func47 rfl rfl (gets rfl rfl rfl hd_ rfl) ?_
 clear hd_
 refine vc_seq ?_
 refine vc_region hm ?_
 refine gZ (u':=3) trivial rfl rfl rfl rfl rfl rfl rfl rfl ?_
 refine rg_nil nofun ?_
 refine vc_seq ?_
 refine vc_region hm ?_
 refine gCn 8 [3,4,5,6,7] (spec_StoreNew_c) trivial rfl rfl rfl rfl (by trivial) ⟨rS_flat newS.now,rS_flat newS.sure,rI_flat newS.last,rI_flat newS.slast,rI_flat newS.fl,trivial⟩ rfl rfl rfl rfl ?_
 refine gZ (u':=9) trivial rfl rfl rfl rfl rfl rfl rfl rfl ?_
 refine gT trivial rfl rfl rfl rfl rfl rfl rfl rfl rfl rfl (Nat.le_of_ble_eq_true rfl) rfl ?_
 refine rg_nil nofun ?_
 refine vc_seq ?_
 refine vc_seq ?_
 refine vc_region hm ?_
 refine gM trivial (.inl rfl) rfl rfl rfl ?_
 refine gR (u':=10) (out:=rI [5,9,3,0,14]) trivial rfl rfl rfl rfl rfl rfl rfl rfl rfl rfl rfl rfl rfl rfl ?_
 obtain ⟨E1,hE1,x1,x1a,x1b,rfl⟩:=num_c (k:=k) (t0:=t0) (p:=p) hl hn (by omega) (by omega) (L:=[5,9,3,0,14]) (a:=0) (b:=14) (by decide) (by decide)
 refine gCF (ups':=[(1,one ⟨[.slice (some ⟨0,k,none⟩) n 0,.int .i64 (p + 1)],83,2⟩)]) (as':=[]) (v':=.int .i64 x1) 10 [0,1,9] hE1 trivial rfl rfl rfl rfl ⟨rCode rfl rfl,rCells rfl ⟨rfl,rfl,.inr rfl⟩ rfl,rFlat (rI_flat _) rfl (.inl rfl) rfl,trivial⟩ ⟨frOne rfl rfl,trivial⟩ trivial rfl rfl (ho1 ⟨_,rfl⟩) (hu1 rfl) rfl rfl ?_
 refine gM trivial (.inr rfl) rfl rfl rfl ?_
 refine rg_nil nofun ?_
 refine vc_block ?_
 refine vc_loopT (fun n_ S_=>∃ (s:Stv) (i q:Int),stOk s=true∧0≤i∧i≤14∧p≤q∧q≤p + 1 + 25 * (14 - i)∧n_=i.toNat∧S_=⟨9,[(0,.pointer (some ⟨1,0,none⟩)),(2,.pointer (some ⟨2,0,none⟩)),(3,.pointer (some ⟨8,0,none⟩)),(4,.int .i64 i)],[(0,false,one ⟨hls k (rY l),t0,0⟩),(1,true,one ⟨[.slice (some ⟨0,k,none⟩) n 0,.int .i64 (q)],83,2⟩),(2,true,one ⟨[.slice none 0 0,.slice none 0 0,.slice none 0 0,.slice none 0 0,.slice none 0 0],26,5⟩),(3,true,one ⟨rS s.now,9,77⟩),(4,true,one ⟨rS s.sure,9,77⟩),(5,true,one ⟨rI s.last,3,77⟩),(6,true,one ⟨rI s.slast,3,77⟩),(7,true,one ⟨rI s.fl,3,77⟩),(8,true,one ⟨[.slice (some ⟨3,0,none⟩) s.now.length 0,.slice (some ⟨4,0,none⟩) s.sure.length 0,.slice (some ⟨5,0,none⟩) s.last.length 0,.slice (some ⟨6,0,none⟩) s.slast.length 0,.slice (some ⟨7,0,none⟩) s.fl.length 0],26,5⟩)]⟩) ⟨newS,x1,p + 1,new_ok,(by omega),(by omega),(by omega),(by omega),rfl,rfl⟩ (re_nil (ms:=[0,1,2,3,4,5,6,7,8]) (C:=999) rfl ⟨⟨⟨rfl,rfl⟩,rfl⟩,⟨⟨rfl,rfl⟩,rfl⟩,⟨⟨rfl,rfl⟩,rfl⟩,⟨⟨rfl,rfl⟩,rfl⟩,trivial⟩ ⟨ktCode rfl rfl,ktRow rfl rfl rfl (BlkW.refl _) id rfl,ktRow rfl rfl rfl (BlkW.refl _) id rfl,ktFlat (rS_flat _) rfl (.inr (.inr ⟨Nat.le_of_ble_eq_true rfl,Nat.le_of_ble_eq_true rfl,fun q=>absurd q (Nat.succ_ne_zero _)⟩)) id rfl,ktFlat (rS_flat _) rfl (.inr (.inr ⟨Nat.le_of_ble_eq_true rfl,Nat.le_of_ble_eq_true rfl,fun q=>absurd q (Nat.succ_ne_zero _)⟩)) id rfl,ktFlat (rI_flat _) rfl (.inr (.inr ⟨Nat.le_of_ble_eq_true rfl,Nat.le_of_ble_eq_true rfl,fun q=>absurd q (Nat.succ_ne_zero _)⟩)) id rfl,ktFlat (rI_flat _) rfl (.inr (.inr ⟨Nat.le_of_ble_eq_true rfl,Nat.le_of_ble_eq_true rfl,fun q=>absurd q (Nat.succ_ne_zero _)⟩)) id rfl,ktFlat (rI_flat _) rfl (.inr (.inr ⟨Nat.le_of_ble_eq_true rfl,Nat.le_of_ble_eq_true rfl,fun q=>absurd q (Nat.succ_ne_zero _)⟩)) id rfl,ktRow rfl rfl rfl ⟨.inl rfl,fun _=>rfl,.inr (.inl rfl),fun q=>(by cases q)⟩ id rfl,trivial⟩ rfl rfl (rig_of rfl) rfl) ?_
 rintro n_ S_ ⟨s,i,q,hk,i0,i1,q0,q1,rfl,rfl⟩
 refine vc_seq ?_
 refine vc_seq ?_
 refine vc_region hm ?_
 refine gM trivial (.inl rfl) rfl rfl rfl ?_
 refine gI trivial rfl rfl rfl rfl rfl rfl ?_
 refine rg_nil nofun ?_
 refine cI rfl (fun c10=>?_) (fun c10=>?_)
 ·skip
  have p10:=of_decide_eq_true c10
  refine vc_skip ?_
  refine vc_seq ?_
  refine vc_block ?_
  refine vc_seq ?_
  refine vc_region hm ?_
  refine gM trivial (.inl rfl) rfl rfl rfl ?_
  obtain ⟨E3,hE3,x3,x3a,x3b,rfl⟩:=pick_c (k:=k) (t0:=t0) (p:=q) hl hn (by omega) (by omega) (m:=9) (by omega) (by omega)
  refine gCF (ups':=[(1,one ⟨[.slice (some ⟨0,k,none⟩) n 0,.int .i64 (q + 1)],83,2⟩)]) (as':=[]) (v':=.int .i64 x3) 9 [0,1] hE3 trivial rfl rfl rfl rfl ⟨rCode rfl rfl,rCells rfl ⟨rfl,rfl,.inr rfl⟩ rfl,trivial⟩ ⟨frOne rfl rfl,trivial⟩ trivial rfl rfl (ho1 ⟨_,rfl⟩) (hu1 rfl) rfl rfl ?_
  refine rg_nil nofun ?_
  refine vc_block ?_
  refine vc_seq ?_
  refine vc_region hm ?_
  refine gI trivial rfl rfl rfl rfl rfl rfl ?_
  refine gM trivial (.inr rfl) rfl rfl rfl ?_
  refine rg_nil nofun ?_
  refine cI rfl (fun c23=>?_) (fun c23=>?_)
  ·skip
   have p23:=eq_of_beq c23
   refine vc_region hm ?_
   refine gL trivial rfl rfl rfl rfl rfl rfl rfl rfl ?_
   refine gCn 14 [3,4,5,6,7,9,10,11,12,13] (spec_StoreSync_c (s:=s) (kk:=0) (cc:=0) hk) trivial rfl rfl rfl rfl ⟨rFlat (rS_flat s.now) rfl (.inl rfl) rfl,rFlat (rS_flat s.sure) rfl (.inl rfl) rfl,rFlat (rI_flat s.last) rfl (.inl rfl) rfl,rFlat (rI_flat s.slast) rfl (.inl rfl) rfl,rFlat (rI_flat s.fl) rfl (.inl rfl) rfl,trivial⟩ ⟨rS_flat (syncSt s).now,rS_flat (syncSt s).sure,rI_flat (syncSt s).last,rI_flat (syncSt s).slast,rI_flat (syncSt s).fl,trivial⟩ rfl rfl rfl rfl ?_
   refine gT trivial rfl rfl rfl rfl rfl rfl rfl rfl rfl rfl (Nat.le_of_ble_eq_true rfl) rfl ?_
   refine rg_nil nofun ?_
   refine vc_region hm ?_
   refine gM trivial (.inl rfl) rfl rfl rfl ?_
   refine gA trivial rfl rfl rfl rfl rfl rfl (by omega) ?_
   refine gM trivial (.inr rfl) rfl rfl rfl ?_
   refine rg_nil nofun ?_
   exact lp_nextT ⟨(syncSt s),i - 1,q + 1,(sync_ok hk),(by omega),(by omega),(by omega),(by omega),rfl,rfl⟩ (by omega) (re_nil (ms:=[0,1,2,9,10,11,12,13,8]) (C:=999) rfl ⟨⟨⟨rfl,rfl⟩,rfl⟩,⟨⟨rfl,rfl⟩,rfl⟩,⟨⟨rfl,rfl⟩,rfl⟩,⟨⟨rfl,rfl⟩,rfl⟩,trivial⟩ ⟨ktCode rfl rfl,ktRow rfl rfl rfl (BlkW.refl _) id rfl,ktRow rfl rfl rfl (BlkW.refl _) id rfl,ktFlat (rS_flat _) rfl (.inr (.inr ⟨Nat.le_of_ble_eq_true rfl,Nat.le_of_ble_eq_true rfl,fun q=>absurd q (Nat.succ_ne_zero _)⟩)) id rfl,ktFlat (rS_flat _) rfl (.inr (.inr ⟨Nat.le_of_ble_eq_true rfl,Nat.le_of_ble_eq_true rfl,fun q=>absurd q (Nat.succ_ne_zero _)⟩)) id rfl,ktFlat (rI_flat _) rfl (.inr (.inr ⟨Nat.le_of_ble_eq_true rfl,Nat.le_of_ble_eq_true rfl,fun q=>absurd q (Nat.succ_ne_zero _)⟩)) id rfl,ktFlat (rI_flat _) rfl (.inr (.inr ⟨Nat.le_of_ble_eq_true rfl,Nat.le_of_ble_eq_true rfl,fun q=>absurd q (Nat.succ_ne_zero _)⟩)) id rfl,ktFlat (rI_flat _) rfl (.inr (.inr ⟨Nat.le_of_ble_eq_true rfl,Nat.le_of_ble_eq_true rfl,fun q=>absurd q (Nat.succ_ne_zero _)⟩)) id rfl,ktRow rfl rfl rfl ⟨.inl rfl,fun _=>rfl,.inr (.inl rfl),fun q=>(by cases q)⟩ id rfl,trivial⟩ rfl rfl (rig_of rfl) rfl)
  ·skip
   have p23:=ne_of_beq_false c23
   refine vc_seq ?_
   refine vc_region hm ?_
   refine gI trivial rfl rfl rfl rfl rfl rfl ?_
   refine gM trivial (.inr rfl) rfl rfl rfl ?_
   refine rg_nil nofun ?_
   refine cI rfl (fun c27=>?_) (fun c27=>?_)
   ·skip
    have p27:=eq_of_beq c27
    refine vc_region hm ?_
    refine gL trivial rfl rfl rfl rfl rfl rfl rfl rfl ?_
    refine gCn 14 [3,4,5,6,7,9,10,11,12,13] (spec_StoreFall_c (s:=s) (kk:=0) (cc:=0) hk) trivial rfl rfl rfl rfl ⟨rFlat (rS_flat s.now) rfl (.inl rfl) rfl,rFlat (rS_flat s.sure) rfl (.inl rfl) rfl,rFlat (rI_flat s.last) rfl (.inl rfl) rfl,rFlat (rI_flat s.slast) rfl (.inl rfl) rfl,rFlat (rI_flat s.fl) rfl (.inl rfl) rfl,trivial⟩ ⟨rS_flat (fallSt s).now,rS_flat (fallSt s).sure,rI_flat (fallSt s).last,rI_flat (fallSt s).slast,rI_flat (fallSt s).fl,trivial⟩ rfl rfl rfl rfl ?_
    refine gT trivial rfl rfl rfl rfl rfl rfl rfl rfl rfl rfl (Nat.le_of_ble_eq_true rfl) rfl ?_
    refine rg_nil nofun ?_
    refine vc_region hm ?_
    refine gM trivial (.inl rfl) rfl rfl rfl ?_
    refine gA trivial rfl rfl rfl rfl rfl rfl (by omega) ?_
    refine gM trivial (.inr rfl) rfl rfl rfl ?_
    refine rg_nil nofun ?_
    exact lp_nextT ⟨(fallSt s),i - 1,q + 1,(fall_ok hk),(by omega),(by omega),(by omega),(by omega),rfl,rfl⟩ (by omega) (re_nil (ms:=[0,1,2,9,10,11,12,13,8]) (C:=999) rfl ⟨⟨⟨rfl,rfl⟩,rfl⟩,⟨⟨rfl,rfl⟩,rfl⟩,⟨⟨rfl,rfl⟩,rfl⟩,⟨⟨rfl,rfl⟩,rfl⟩,trivial⟩ ⟨ktCode rfl rfl,ktRow rfl rfl rfl (BlkW.refl _) id rfl,ktRow rfl rfl rfl (BlkW.refl _) id rfl,ktFlat (rS_flat _) rfl (.inr (.inr ⟨Nat.le_of_ble_eq_true rfl,Nat.le_of_ble_eq_true rfl,fun q=>absurd q (Nat.succ_ne_zero _)⟩)) id rfl,ktFlat (rS_flat _) rfl (.inr (.inr ⟨Nat.le_of_ble_eq_true rfl,Nat.le_of_ble_eq_true rfl,fun q=>absurd q (Nat.succ_ne_zero _)⟩)) id rfl,ktFlat (rI_flat _) rfl (.inr (.inr ⟨Nat.le_of_ble_eq_true rfl,Nat.le_of_ble_eq_true rfl,fun q=>absurd q (Nat.succ_ne_zero _)⟩)) id rfl,ktFlat (rI_flat _) rfl (.inr (.inr ⟨Nat.le_of_ble_eq_true rfl,Nat.le_of_ble_eq_true rfl,fun q=>absurd q (Nat.succ_ne_zero _)⟩)) id rfl,ktFlat (rI_flat _) rfl (.inr (.inr ⟨Nat.le_of_ble_eq_true rfl,Nat.le_of_ble_eq_true rfl,fun q=>absurd q (Nat.succ_ne_zero _)⟩)) id rfl,ktRow rfl rfl rfl ⟨.inl rfl,fun _=>rfl,.inr (.inl rfl),fun q=>(by cases q)⟩ id rfl,trivial⟩ rfl rfl (rig_of rfl) rfl)
   ·skip
    have p27:=ne_of_beq_false c27
    refine vc_seq ?_
    refine vc_region hm ?_
    refine gI trivial rfl rfl rfl rfl rfl rfl ?_
    refine gM trivial (.inr rfl) rfl rfl rfl ?_
    refine rg_nil nofun ?_
    refine cI rfl (fun c31=>?_) (fun c31=>?_)
    ·skip
     have p31:=eq_of_beq c31
     refine vc_region hm ?_
     refine gL trivial rfl rfl rfl rfl rfl rfl rfl rfl ?_
     refine gM trivial (.inl rfl) rfl rfl rfl ?_
     obtain ⟨E7,hE7,x7,x7a,x7b,rfl⟩:=pick_c (k:=k) (t0:=t0) (p:=q + 1) hl hn (by omega) (by omega) (m:=3) (by omega) (by omega)
     refine gCF (ups':=[(1,one ⟨[.slice (some ⟨0,k,none⟩) n 0,.int .i64 (q + 1 + 1)],83,2⟩)]) (as':=[]) (v':=.int .i64 x7) 9 [0,1] hE7 trivial rfl rfl rfl rfl ⟨rCode rfl rfl,rCells rfl ⟨rfl,rfl,.inr rfl⟩ rfl,trivial⟩ ⟨frOne rfl rfl,trivial⟩ trivial rfl rfl (ho1 ⟨_,rfl⟩) (hu1 rfl) rfl rfl ?_
     refine gM trivial (.inl rfl) rfl rfl rfl ?_
     obtain ⟨E8,hE8,x8,x8a,x8b,rfl⟩:=pick_c (k:=k) (t0:=t0) (p:=q + 1 + 1) hl hn (by omega) (by omega) (m:=4) (by omega) (by omega)
     refine gCF (ups':=[(1,one ⟨[.slice (some ⟨0,k,none⟩) n 0,.int .i64 (q + 1 + 1 + 1)],83,2⟩)]) (as':=[]) (v':=.int .i64 x8) 9 [0,1] hE8 trivial rfl rfl rfl rfl ⟨rCode rfl rfl,rCells rfl ⟨rfl,rfl,.inr rfl⟩ rfl,trivial⟩ ⟨frOne rfl rfl,trivial⟩ trivial rfl rfl (ho1 ⟨_,rfl⟩) (hu1 rfl) rfl rfl ?_
     obtain ⟨E9,hE9,x9,b9,d9,rfl⟩:=spec_StoreFence_c (s:=s) (kk:=0) (cc:=0) (who:=x7) (ep:=x8) hk
     refine gCF (ups':=[]) (as':=[(9,one ⟨rS x9.now,9,1⟩),(10,one ⟨rS x9.sure,9,1⟩),(11,one ⟨rI x9.last,3,1⟩),(12,one ⟨rI x9.slast,3,1⟩),(13,one ⟨rI x9.fl,3,1⟩)]) (v':=.tuple #[.agg #[.slice (some ⟨9,0,none⟩) x9.now.length 0,.slice (some ⟨10,0,none⟩) x9.sure.length 0,.slice (some ⟨11,0,none⟩) x9.last.length 0,.slice (some ⟨12,0,none⟩) x9.slast.length 0,.slice (some ⟨13,0,none⟩) x9.fl.length 0],.bool b9]) 14 [3,4,5,6,7,9,10,11,12,13] hE9 trivial rfl rfl rfl rfl ⟨rFlat (rS_flat s.now) rfl (.inl rfl) rfl,rFlat (rS_flat s.sure) rfl (.inl rfl) rfl,rFlat (rI_flat s.last) rfl (.inl rfl) rfl,rFlat (rI_flat s.slast) rfl (.inl rfl) rfl,rFlat (rI_flat s.fl) rfl (.inl rfl) rfl,trivial⟩ trivial ⟨frF (rS_flat x9.now) rfl,frF (rS_flat x9.sure) rfl,frF (rI_flat x9.last) rfl,frF (rI_flat x9.slast) rfl,frF (rI_flat x9.fl) rfl,trivial⟩ rfl rfl (fun x hx=>nomatch hx) (fun x hx=>nomatch hx) rfl rfl ?_
     refine gM trivial (.inl rfl) rfl rfl rfl ?_
     refine gE trivial rfl rfl rfl rfl rfl rfl ?_
     refine gE trivial rfl rfl rfl rfl rfl rfl ?_
     refine gT trivial rfl rfl rfl rfl rfl rfl rfl rfl rfl rfl (Nat.le_of_ble_eq_true rfl) rfl ?_
     refine rg_nil (fun _=>by kernel_rfl) ?_
     refine vc_region hm ?_
     refine gM trivial (.inl rfl) rfl rfl rfl ?_
     refine gA trivial rfl rfl rfl rfl rfl rfl (by omega) ?_
     refine gM trivial (.inr rfl) rfl rfl rfl ?_
     refine rg_nil nofun ?_
     exact lp_nextT ⟨x9,i - 1,q + 1 + 1 + 1,(fence_ok d9 hk),(by omega),(by omega),(by omega),(by omega),rfl,rfl⟩ (by omega) (re_nil (ms:=[0,1,2,9,10,11,12,13,8]) (C:=999) rfl ⟨⟨⟨rfl,rfl⟩,rfl⟩,⟨⟨rfl,rfl⟩,rfl⟩,⟨⟨rfl,rfl⟩,rfl⟩,⟨⟨rfl,rfl⟩,rfl⟩,trivial⟩ ⟨ktCode rfl rfl,ktRow rfl rfl rfl (BlkW.refl _) id rfl,ktRow rfl rfl rfl (BlkW.refl _) id rfl,ktFlat (rS_flat _) rfl (.inr (.inr ⟨Nat.le_of_ble_eq_true rfl,Nat.le_of_ble_eq_true rfl,fun q=>absurd q (Nat.succ_ne_zero _)⟩)) id rfl,ktFlat (rS_flat _) rfl (.inr (.inr ⟨Nat.le_of_ble_eq_true rfl,Nat.le_of_ble_eq_true rfl,fun q=>absurd q (Nat.succ_ne_zero _)⟩)) id rfl,ktFlat (rI_flat _) rfl (.inr (.inr ⟨Nat.le_of_ble_eq_true rfl,Nat.le_of_ble_eq_true rfl,fun q=>absurd q (Nat.succ_ne_zero _)⟩)) id rfl,ktFlat (rI_flat _) rfl (.inr (.inr ⟨Nat.le_of_ble_eq_true rfl,Nat.le_of_ble_eq_true rfl,fun q=>absurd q (Nat.succ_ne_zero _)⟩)) id rfl,ktFlat (rI_flat _) rfl (.inr (.inr ⟨Nat.le_of_ble_eq_true rfl,Nat.le_of_ble_eq_true rfl,fun q=>absurd q (Nat.succ_ne_zero _)⟩)) id rfl,ktRow rfl rfl rfl ⟨.inl rfl,fun _=>rfl,.inr (.inl rfl),fun q=>(by cases q)⟩ id rfl,trivial⟩ rfl rfl (rig_of rfl) rfl)
    ·skip
     have p31:=ne_of_beq_false c31
     refine vc_region hm ?_
     refine gL trivial rfl rfl rfl rfl rfl rfl rfl rfl ?_
     refine gM trivial (.inl rfl) rfl rfl rfl ?_
     refine gL trivial rfl rfl rfl rfl rfl rfl rfl rfl ?_
     obtain ⟨E11,hE11,rq11,p11,d11,r11a,r11b,rfl⟩:=ask_c (k:=k) (t0:=t0) (p:=q + 1) hl hn (by omega) (by omega) (s:=s) (kk:=0) (cc:=0) (dr_ok hk)
     refine gCF (ups':=[(1,one ⟨[.slice (some ⟨0,k,none⟩) n 0,.int .i64 (p11)],83,2⟩)]) (as':=[]) (v':=vRq rq11) 9 [0,1,3,4,5,6,7] hE11 trivial rfl rfl rfl rfl ⟨rCode rfl rfl,rCells rfl ⟨rfl,rfl,.inr rfl⟩ rfl,rFlat (hls_flat (rS_flat s.now)) rfl (.inl rfl) rfl,rFlat (rS_flat s.sure) rfl (.inl rfl) rfl,rFlat (rI_flat s.last) rfl (.inl rfl) rfl,rFlat (rI_flat s.slast) rfl (.inl rfl) rfl,rFlat (rI_flat s.fl) rfl (.inl rfl) rfl,trivial⟩ ⟨frOne rfl rfl,trivial⟩ trivial rfl rfl (ho1 ⟨_,rfl⟩) (hu1 rfl) rfl rfl ?_
     obtain ⟨E12,hE12,x12,c12,d12,rfl⟩:=spec_StoreDo_c (s:=s) (q:=rq11) (kk:=0) (cc:=0) hk (by omega)
     refine gCF (ups':=[]) (as':=[(9,one ⟨rS x12.now,9,1⟩),(10,one ⟨rS x12.sure,9,1⟩),(11,one ⟨rI x12.last,3,1⟩),(12,one ⟨rI x12.slast,3,1⟩),(13,one ⟨rI x12.fl,3,1⟩)]) (v':=.tuple #[.agg #[.slice (some ⟨9,0,none⟩) x12.now.length 0,.slice (some ⟨10,0,none⟩) x12.sure.length 0,.slice (some ⟨11,0,none⟩) x12.last.length 0,.slice (some ⟨12,0,none⟩) x12.slast.length 0,.slice (some ⟨13,0,none⟩) x12.fl.length 0],.int .i64 c12]) 14 [3,4,5,6,7,9,10,11,12,13] hE12 trivial rfl rfl rfl rfl ⟨rFlat (rS_flat s.now) rfl (.inl rfl) rfl,rFlat (rS_flat s.sure) rfl (.inl rfl) rfl,rFlat (rI_flat s.last) rfl (.inl rfl) rfl,rFlat (rI_flat s.slast) rfl (.inl rfl) rfl,rFlat (rI_flat s.fl) rfl (.inl rfl) rfl,trivial⟩ trivial ⟨frF (rS_flat x12.now) rfl,frF (rS_flat x12.sure) rfl,frF (rI_flat x12.last) rfl,frF (rI_flat x12.slast) rfl,frF (rI_flat x12.fl) rfl,trivial⟩ rfl rfl (fun x hx=>nomatch hx) (fun x hx=>nomatch hx) rfl rfl ?_
     refine gM trivial (.inl rfl) rfl rfl rfl ?_
     refine gE trivial rfl rfl rfl rfl rfl rfl ?_
     refine gE trivial rfl rfl rfl rfl rfl rfl ?_
     refine gT trivial rfl rfl rfl rfl rfl rfl rfl rfl rfl rfl (Nat.le_of_ble_eq_true rfl) rfl ?_
     refine rg_nil (fun _=>by kernel_rfl) ?_
     refine vc_region hm ?_
     refine gM trivial (.inl rfl) rfl rfl rfl ?_
     refine gA trivial rfl rfl rfl rfl rfl rfl (by omega) ?_
     refine gM trivial (.inr rfl) rfl rfl rfl ?_
     refine rg_nil nofun ?_
     exact lp_nextT ⟨x12,i - 1,p11,(do_k d12 hk),(by omega),(by omega),(by omega),(by omega),rfl,rfl⟩ (by omega) (re_nil (ms:=[0,1,2,9,10,11,12,13,8]) (C:=999) rfl ⟨⟨⟨rfl,rfl⟩,rfl⟩,⟨⟨rfl,rfl⟩,rfl⟩,⟨⟨rfl,rfl⟩,rfl⟩,⟨⟨rfl,rfl⟩,rfl⟩,trivial⟩ ⟨ktCode rfl rfl,ktRow rfl rfl rfl (BlkW.refl _) id rfl,ktRow rfl rfl rfl (BlkW.refl _) id rfl,ktFlat (rS_flat _) rfl (.inr (.inr ⟨Nat.le_of_ble_eq_true rfl,Nat.le_of_ble_eq_true rfl,fun q=>absurd q (Nat.succ_ne_zero _)⟩)) id rfl,ktFlat (rS_flat _) rfl (.inr (.inr ⟨Nat.le_of_ble_eq_true rfl,Nat.le_of_ble_eq_true rfl,fun q=>absurd q (Nat.succ_ne_zero _)⟩)) id rfl,ktFlat (rI_flat _) rfl (.inr (.inr ⟨Nat.le_of_ble_eq_true rfl,Nat.le_of_ble_eq_true rfl,fun q=>absurd q (Nat.succ_ne_zero _)⟩)) id rfl,ktFlat (rI_flat _) rfl (.inr (.inr ⟨Nat.le_of_ble_eq_true rfl,Nat.le_of_ble_eq_true rfl,fun q=>absurd q (Nat.succ_ne_zero _)⟩)) id rfl,ktFlat (rI_flat _) rfl (.inr (.inr ⟨Nat.le_of_ble_eq_true rfl,Nat.le_of_ble_eq_true rfl,fun q=>absurd q (Nat.succ_ne_zero _)⟩)) id rfl,ktRow rfl rfl rfl ⟨.inl rfl,fun _=>rfl,.inr (.inl rfl),fun q=>(by cases q)⟩ id rfl,trivial⟩ rfl rfl (rig_of rfl) rfl)
 ·skip
  have p10:=of_decide_eq_false c10
  refine vc_exit ?_
  refine vc_seq ?_
  refine vc_region hm ?_
  refine gL trivial rfl rfl rfl rfl rfl rfl rfl rfl ?_
  refine gT trivial rfl rfl rfl rfl rfl rfl rfl rfl rfl rfl (Nat.le_of_ble_eq_true rfl) rfl ?_
  refine rg_nil nofun ?_
  refine vc_ret ?_
  exact ⟨mkF (.agg #[.slice (some ⟨2,0,none⟩) s.now.length 0,.slice (some ⟨3,0,none⟩) s.sure.length 0,.slice (some ⟨4,0,none⟩) s.last.length 0,.slice (some ⟨5,0,none⟩) s.slast.length 0,.slice (some ⟨6,0,none⟩) s.fl.length 0]) [0] [(1,one ⟨[.slice (some ⟨0,k,none⟩) n 0,.int .i64 (q)],83,2⟩)] [(2,one ⟨rS s.now,9,77⟩),(3,one ⟨rS s.sure,9,77⟩),(4,one ⟨rI s.last,3,77⟩),(5,one ⟨rI s.slast,3,77⟩),(6,one ⟨rI s.fl,3,77⟩)],_,endsT [(2,3,one ⟨rS s.now,9,77⟩),(3,4,one ⟨rS s.sure,9,77⟩),(4,5,one ⟨rI s.last,3,77⟩),(5,6,one ⟨rI s.slast,3,77⟩),(6,7,one ⟨rI s.fl,3,77⟩)] (.inr rfl) ((.cell rfl rfl rfl rfl rfl .nil)) rfl rfl ⟨upOne rfl rfl rfl,trivial⟩ ⟨asFlat rfl (rS_flat s.now),asFlat rfl (rS_flat s.sure),asFlat rfl (rI_flat s.last),asFlat rfl (rI_flat s.slast),asFlat rfl (rI_flat s.fl),trivial⟩ rfl,s,_,hk,(by omega),(by omega),rfl⟩
theorem set_I {l:List Int} {a b x:Int} {i:Nat} (h:∀ y ∈ l,a≤y∧y≤b) (hx:a≤x∧x≤b):∀ y ∈ l.set i x,a≤y∧y≤b:=fun y hy=>by
 rcases List.mem_or_eq_of_mem_set hy with h1|h1
 ·exact h y h1
 ·rw [h1];exact hx
theorem bn_0 {s:Stv} (h:DrB s):DrB ⟨s.now.drop 1,s.sure,s.last,s.slast,s.fl⟩:=⟨⟨by have:=h.z.a0;show (s.now.drop 1).length≤_;rw [List.length_drop];omega,h.z.a1,h.z.a2,h.z.a3,h.z.a4,fun x hx=>h.z.b0 x (List.mem_of_mem_drop hx),h.z.b1⟩,h.l,h.f⟩
theorem bn_1 {s:Stv} {i:Nat} (h:DrB s):DrB ⟨s.now,s.sure.set i ⟨#[65]⟩,s.last,s.slast,s.fl⟩:=⟨⟨h.z.a0,by have:=h.z.a1;show (s.sure.set _ _).length≤_;rw [List.length_set];omega,h.z.a2,h.z.a3,h.z.a4,h.z.b0,fun y hy=>by
 rcases List.mem_or_eq_of_mem_set hy with h1|h1
 ·exact h.z.b1 y h1
 ·rw [h1];decide⟩,h.l,h.f⟩
theorem bn_2 {s:Stv} {i:Nat} {x:Int} (h:DrB s) (hx:-1≤x∧x≤1001):DrB ⟨s.now,s.sure,s.last.set i x,s.slast,s.fl⟩:=⟨⟨h.z.a0,h.z.a1,by have:=h.z.a2;show (s.last.set _ _).length≤_;rw [List.length_set];omega,h.z.a3,h.z.a4,h.z.b0,h.z.b1⟩,set_I h.l hx,h.f⟩
theorem bn_3 {s:Stv} {i:Nat} {x:Int} (h:DrB s):DrB ⟨s.now,s.sure,s.last,s.slast.set i x,s.fl⟩:=⟨⟨h.z.a0,h.z.a1,h.z.a2,by have:=h.z.a3;show (s.slast.set _ _).length≤_;rw [List.length_set];omega,h.z.a4,h.z.b0,h.z.b1⟩,h.l,h.f⟩
theorem bn_4 {s:Stv} {i:Nat} {x:Int} (h:DrB s) (hx:-1≤x∧x≤101):DrB ⟨s.now,s.sure,s.last,s.slast,s.fl.set i x⟩:=⟨⟨h.z.a0,h.z.a1,h.z.a2,h.z.a3,by have:=h.z.a4;show (s.fl.set _ _).length≤_;rw [List.length_set];omega,h.z.b0,h.z.b1⟩,h.l,set_I h.f hx⟩
theorem bn_5 {s:Stv} (h:DrB s):DrB ⟨s.now,s.sure,s.last,s.slast,[]⟩:=⟨⟨h.z.a0,h.z.a1,h.z.a2,h.z.a3,Nat.zero_le _,h.z.b0,h.z.b1⟩,h.l,fun y hy=>nomatch hy⟩
theorem bn_6 {s:Stv} (h:DrB s):DrB ⟨[],s.sure,s.last,s.slast,s.fl⟩:=⟨⟨Nat.zero_le _,h.z.a1,h.z.a2,h.z.a3,h.z.a4,fun y hy=>(nomatch hy),h.z.b1⟩,h.l,h.f⟩
theorem rS_drop {l:List ByteArray}:(rS l).drop 1=rS (l.drop 1):=by
 cases l with
 | nil=>rfl
 | cons x l=>rfl
theorem bent5_c {l:List Int} {k n t0:Nat} {p:Int} (hl:ByL l) (hn:n≤l.length) (hp0:0≤p) (hp1:p≤985000) {s:Stv} {kk cc:Nat} (hb:DrB s):∃ E,FDoes Try.prog 46 [.pointer (some ⟨1,0,none⟩),.agg #[.slice (some ⟨2,kk,none⟩) s.now.length cc,.slice (some ⟨3,0,none⟩) s.sure.length 0,.slice (some ⟨4,0,none⟩) s.last.length 0,.slice (some ⟨5,0,none⟩) s.slast.length 0,.slice (some ⟨6,0,none⟩) s.fl.length 0]] (hp [(0,false,one ⟨hls k (rY l),t0,0⟩),(1,true,one ⟨[.slice (some ⟨0,k,none⟩) n 0,.int .i64 (p)],83,2⟩),(2,false,one ⟨hls kk (rS s.now),9,0⟩),(3,false,one ⟨rS s.sure,9,0⟩),(4,false,one ⟨rI s.last,3,0⟩),(5,false,one ⟨rI s.slast,3,0⟩),(6,false,one ⟨rI s.fl,3,0⟩)]) E∧∃ (x:Stv) (k2 c2:Nat) (p2:Int),DrB x∧p≤p2∧p2≤p + 10∧E=mkF (.agg #[.slice (some ⟨7,k2,none⟩) x.now.length c2,.slice (some ⟨8,0,none⟩) x.sure.length 0,.slice (some ⟨9,0,none⟩) x.last.length 0,.slice (some ⟨10,0,none⟩) x.slast.length 0,.slice (some ⟨11,0,none⟩) x.fl.length 0]) [0,2,3,4,5,6] [(1,one ⟨[.slice (some ⟨0,k,none⟩) n 0,.int .i64 (p2)],83,2⟩)] [(7,one ⟨hls k2 (rS x.now),9,0⟩),(8,one ⟨rS x.sure,9,77⟩),(9,one ⟨rI x.last,3,77⟩),(10,one ⟨rI x.slast,3,77⟩),(11,one ⟨rI x.fl,3,77⟩)]:=by
 have hm:Try.prog.follows .mixedOrders=true:=by kernel_rfl
 have hd_:∀ x_ ∈ ([(0,false,one ⟨hls k (rY l),t0,0⟩),(1,true,one ⟨[.slice (some ⟨0,k,none⟩) n 0,.int .i64 (p)],83,2⟩),(2,false,one ⟨hls kk (rS s.now),9,0⟩),(3,false,one ⟨rS s.sure,9,0⟩),(4,false,one ⟨rI s.last,3,0⟩),(5,false,one ⟨rI s.slast,3,0⟩),(6,false,one ⟨rI s.fl,3,0⟩)]:List (Nat × Bool × Fam)),∀ k_ y_,x_.2.2 k_=some y_→DetB (lt 7) y_:=by
  intro x_ hx k_ y_ e
  simp only [List.mem_cons,List.not_mem_nil,or_false] at hx
  rcases hx with rfl|rfl|rfl|rfl|rfl|rfl|rfl
  ·exact det_code e
  ·exact det_ok rfl e
  ·exact det_row (hls_flat (rS_flat s.now)) e
  ·exact det_row (rS_flat s.sure) e
  ·exact det_row (rI_flat s.last) e
  ·exact det_row (rI_flat s.slast) e
  ·exact det_row (rI_flat s.fl) e
 refine fn_some (u0:=7) Try.func46 rfl rfl (gets rfl rfl rfl hd_ rfl) ?_
 clear hd_
 refine vc_seq ?_
 refine vc_region hm ?_
 refine gB (u':=8) trivial rfl rfl rfl rfl rfl rfl rfl rfl ?_
 refine gZ (u':=9) trivial rfl rfl rfl rfl rfl rfl rfl rfl ?_
 refine rg_nil nofun ?_
 refine vc_seq ?_
 refine vc_region hm ?_
 refine gL trivial rfl rfl rfl rfl rfl rfl rfl rfl ?_
 refine gCn 14 [2,3,4,5,6,9,10,11,12,13] (l5Copy_c (s:=s) (kk:=kk) (cc:=cc) hb.z) trivial rfl rfl rfl rfl ⟨rFlat (hls_flat (rS_flat s.now)) rfl (.inl rfl) rfl,rFlat (rS_flat s.sure) rfl (.inl rfl) rfl,rFlat (rI_flat s.last) rfl (.inl rfl) rfl,rFlat (rI_flat s.slast) rfl (.inl rfl) rfl,rFlat (rI_flat s.fl) rfl (.inl rfl) rfl,trivial⟩ ⟨rS_flat s.now,rS_flat s.sure,rI_flat s.last,rI_flat s.slast,rI_flat s.fl,trivial⟩ rfl rfl rfl rfl ?_
 refine gZ (u':=15) trivial rfl rfl rfl rfl rfl rfl rfl rfl ?_
 refine gT trivial rfl rfl rfl rfl rfl rfl rfl rfl rfl rfl (Nat.le_of_ble_eq_true rfl) rfl ?_
 refine rg_nil nofun ?_
 refine vc_seq ?_
 refine vc_seq ?_
 refine vc_region hm ?_
 refine gM trivial (.inl rfl) rfl rfl rfl ?_
 obtain ⟨E1,hE1,x1,x1a,x1b,rfl⟩:=pick_c (k:=k) (t0:=t0) (p:=p) hl hn (by omega) (by omega) (m:=72) (by omega) (by omega)
 refine gCF (ups':=[(1,one ⟨[.slice (some ⟨0,k,none⟩) n 0,.int .i64 (p + 1)],83,2⟩)]) (as':=[]) (v':=.int .i64 x1) 15 [0,1] hE1 trivial rfl rfl rfl rfl ⟨rCode rfl rfl,rCells rfl ⟨rfl,rfl,.inr rfl⟩ rfl,trivial⟩ ⟨frOne rfl rfl,trivial⟩ trivial rfl rfl (ho1 ⟨_,rfl⟩) (hu1 rfl) rfl rfl ?_
 refine rg_nil nofun ?_
 refine vc_block ?_
 refine vc_seq ?_
 refine vc_region hm ?_
 refine gI trivial rfl rfl rfl rfl rfl rfl ?_
 refine gM trivial (.inr rfl) rfl rfl rfl ?_
 refine rg_nil nofun ?_
 refine cI rfl (fun c10=>?_) (fun c10=>?_)
 ·skip
  have p10:=eq_of_beq c10
  refine vc_seq ?_
  refine vc_region hm ?_
  refine gF trivial rfl rfl rfl rfl rfl ?_
  refine gL trivial rfl rfl rfl rfl rfl rfl rfl rfl ?_
  refine gK trivial rfl rfl rfl rfl rfl rfl rS_nil ?_
  refine gI trivial rfl rfl rfl rfl rfl rfl ?_
  refine rg_nil nofun ?_
  refine cI rfl (fun c15=>?_) (fun c15=>?_)
  ·skip
   have p15:=of_decide_eq_true c15
   rcases Nat.lt_or_ge 1 s.now.length with g1|g1
   ·skip
    refine vc_region hm ?_
    refine gF trivial rfl rfl rfl rfl rfl ?_
    refine gL trivial rfl rfl rfl rfl rfl rfl rfl rfl ?_
    refine gTailO trivial rfl rfl rfl rfl rfl rfl rfl rfl rfl (by rw [rowL_len (n:=1) (fun _=>rfl)];rfl) (by decide) (by omega) ?_
    refine gF trivial rfl rfl rfl rfl rfl ?_
    refine gT trivial rfl rfl rfl rfl rfl rfl rfl rfl rfl rfl (Nat.le_of_ble_eq_true rfl) rfl ?_
    refine rg_nil nofun ?_
    refine vc_seq ?_
    refine vc_region hm ?_
    refine gL trivial rfl rfl rfl rfl rfl rfl rfl rfl ?_
    refine gT trivial rfl rfl rfl rfl rfl rfl rfl rfl rfl rfl (Nat.le_of_ble_eq_true rfl) rfl ?_
    refine rg_nil nofun ?_
    refine vc_re (S2:=⟨15,[(4,.pointer (some ⟨8,0,none⟩))],[(1,true,one ⟨[.slice (some ⟨0,k,none⟩) n 0,.int .i64 (p + 1)],83,2⟩),(8,true,one ⟨[.slice (some ⟨9,(Int.toNat 1 * 1),none⟩) (s.now.length - Int.toNat 1) (Int.toNat 1),.slice (some ⟨10,0,none⟩) s.sure.length 0,.slice (some ⟨11,0,none⟩) s.last.length 0,.slice (some ⟨12,0,none⟩) s.slast.length 0,.slice (some ⟨13,0,none⟩) s.fl.length 0],26,5⟩),(9,true,one ⟨hls 1 (rS (⟨s.now.drop 1,s.sure,s.last,s.slast,s.fl⟩:Stv).now),9,0⟩),(10,true,one ⟨rS (⟨s.now.drop 1,s.sure,s.last,s.slast,s.fl⟩:Stv).sure,9,77⟩),(11,true,one ⟨rI (⟨s.now.drop 1,s.sure,s.last,s.slast,s.fl⟩:Stv).last,3,77⟩),(12,true,one ⟨rI (⟨s.now.drop 1,s.sure,s.last,s.slast,s.fl⟩:Stv).slast,3,77⟩),(13,true,one ⟨rI (⟨s.now.drop 1,s.sure,s.last,s.slast,s.fl⟩:Stv).fl,3,77⟩)]⟩) (re_nil (ms:=[0,1,2,3,4,5,6,7,8,9,10,11,12,13,14]) (C:=999) rfl ⟨⟨⟨rfl,rfl⟩,rfl⟩,trivial⟩ ⟨ktRow rfl rfl rfl (BlkW.refl _) id rfl,ktRow rfl rfl rfl ⟨.inl rfl,fun _=>rfl,.inr (.inl rfl),fun q=>(by cases q)⟩ id rfl,ktHol (rS_flat _) rfl rS_drop (rS_ne (by omega)) id rfl rfl,ktFlat (rS_flat _) rfl (.inr (.inr ⟨Nat.le_of_ble_eq_true rfl,Nat.le_of_ble_eq_true rfl,fun q=>absurd q (Nat.succ_ne_zero _)⟩)) id rfl,ktFlat (rI_flat _) rfl (.inr (.inr ⟨Nat.le_of_ble_eq_true rfl,Nat.le_of_ble_eq_true rfl,fun q=>absurd q (Nat.succ_ne_zero _)⟩)) id rfl,ktFlat (rI_flat _) rfl (.inr (.inr ⟨Nat.le_of_ble_eq_true rfl,Nat.le_of_ble_eq_true rfl,fun q=>absurd q (Nat.succ_ne_zero _)⟩)) id rfl,ktFlat (rI_flat _) rfl (.inr (.inr ⟨Nat.le_of_ble_eq_true rfl,Nat.le_of_ble_eq_true rfl,fun q=>absurd q (Nat.succ_ne_zero _)⟩)) id rfl,trivial⟩ rfl rfl (rig_of rfl) rfl) ?_
    refine vc_ret ?_
    exact ⟨mkF (.agg #[.slice (some ⟨7,1,none⟩) (⟨s.now.drop 1,s.sure,s.last,s.slast,s.fl⟩:Stv).now.length 1,.slice (some ⟨8,0,none⟩) (⟨s.now.drop 1,s.sure,s.last,s.slast,s.fl⟩:Stv).sure.length 0,.slice (some ⟨9,0,none⟩) (⟨s.now.drop 1,s.sure,s.last,s.slast,s.fl⟩:Stv).last.length 0,.slice (some ⟨10,0,none⟩) (⟨s.now.drop 1,s.sure,s.last,s.slast,s.fl⟩:Stv).slast.length 0,.slice (some ⟨11,0,none⟩) (⟨s.now.drop 1,s.sure,s.last,s.slast,s.fl⟩:Stv).fl.length 0]) [0,2,3,4,5,6] [(1,one ⟨[.slice (some ⟨0,k,none⟩) n 0,.int .i64 (p + 1)],83,2⟩)] [(7,one ⟨hls 1 (rS (⟨s.now.drop 1,s.sure,s.last,s.slast,s.fl⟩:Stv).now),9,0⟩),(8,one ⟨rS (⟨s.now.drop 1,s.sure,s.last,s.slast,s.fl⟩:Stv).sure,9,77⟩),(9,one ⟨rI (⟨s.now.drop 1,s.sure,s.last,s.slast,s.fl⟩:Stv).last,3,77⟩),(10,one ⟨rI (⟨s.now.drop 1,s.sure,s.last,s.slast,s.fl⟩:Stv).slast,3,77⟩),(11,one ⟨rI (⟨s.now.drop 1,s.sure,s.last,s.slast,s.fl⟩:Stv).fl,3,77⟩)],_,endsT [(7,9,one ⟨hls 1 (rS (⟨s.now.drop 1,s.sure,s.last,s.slast,s.fl⟩:Stv).now),9,0⟩),(8,10,one ⟨rS (⟨s.now.drop 1,s.sure,s.last,s.slast,s.fl⟩:Stv).sure,9,77⟩),(9,11,one ⟨rI (⟨s.now.drop 1,s.sure,s.last,s.slast,s.fl⟩:Stv).last,3,77⟩),(10,12,one ⟨rI (⟨s.now.drop 1,s.sure,s.last,s.slast,s.fl⟩:Stv).slast,3,77⟩),(11,13,one ⟨rI (⟨s.now.drop 1,s.sure,s.last,s.slast,s.fl⟩:Stv).fl,3,77⟩)] (.inr rfl) ((.cell rfl rfl rfl rfl rfl .nil)) (by rw [List.length_drop];rfl) rfl ⟨upOne rfl rfl rfl,trivial⟩ ⟨asFlat rfl (hls_flat (rS_flat (⟨s.now.drop 1,s.sure,s.last,s.slast,s.fl⟩:Stv).now)),asFlat rfl (rS_flat (⟨s.now.drop 1,s.sure,s.last,s.slast,s.fl⟩:Stv).sure),asFlat rfl (rI_flat (⟨s.now.drop 1,s.sure,s.last,s.slast,s.fl⟩:Stv).last),asFlat rfl (rI_flat (⟨s.now.drop 1,s.sure,s.last,s.slast,s.fl⟩:Stv).slast),asFlat rfl (rI_flat (⟨s.now.drop 1,s.sure,s.last,s.slast,s.fl⟩:Stv).fl),trivial⟩ rfl,(⟨s.now.drop 1,s.sure,s.last,s.slast,s.fl⟩:Stv),1,1,_,(bn_0 hb),(by omega),(by omega),rfl⟩
   ·skip
    refine vc_region hm ?_
    refine gF trivial rfl rfl rfl rfl rfl ?_
    refine gL trivial rfl rfl rfl rfl rfl rfl rfl rfl ?_
    refine gTailE (u':=16) trivial rfl rfl rfl rfl rfl rfl rfl rfl rfl rfl rfl (by rw [rowL_len (n:=1) (fun _=>rfl)];rfl) (by omega) ?_
    refine gF trivial rfl rfl rfl rfl rfl ?_
    refine gT trivial rfl rfl rfl rfl rfl rfl rfl rfl rfl rfl (Nat.le_of_ble_eq_true rfl) rfl ?_
    refine rg_nil nofun ?_
    refine vc_seq ?_
    refine vc_region hm ?_
    refine gL trivial rfl rfl rfl rfl rfl rfl rfl rfl ?_
    refine gT trivial rfl rfl rfl rfl rfl rfl rfl rfl rfl rfl (Nat.le_of_ble_eq_true rfl) rfl ?_
    refine rg_nil nofun ?_
    refine vc_re (S2:=⟨16,[(4,.pointer (some ⟨8,0,none⟩))],[(1,true,one ⟨[.slice (some ⟨0,k,none⟩) n 0,.int .i64 (p + 1)],83,2⟩),(8,true,one ⟨[.slice (some ⟨15,0,none⟩) 0 0,.slice (some ⟨10,0,none⟩) s.sure.length 0,.slice (some ⟨11,0,none⟩) s.last.length 0,.slice (some ⟨12,0,none⟩) s.slast.length 0,.slice (some ⟨13,0,none⟩) s.fl.length 0],26,5⟩),(15,true,one ⟨hls 0 (rS (⟨[],s.sure,s.last,s.slast,s.fl⟩:Stv).now),9,0⟩),(10,true,one ⟨rS (⟨[],s.sure,s.last,s.slast,s.fl⟩:Stv).sure,9,77⟩),(11,true,one ⟨rI (⟨[],s.sure,s.last,s.slast,s.fl⟩:Stv).last,3,77⟩),(12,true,one ⟨rI (⟨[],s.sure,s.last,s.slast,s.fl⟩:Stv).slast,3,77⟩),(13,true,one ⟨rI (⟨[],s.sure,s.last,s.slast,s.fl⟩:Stv).fl,3,77⟩)]⟩) (re_nil (ms:=[0,1,2,3,4,5,6,7,8,9,10,11,12,13,14,15]) (C:=999) rfl ⟨⟨⟨rfl,rfl⟩,rfl⟩,trivial⟩ ⟨ktRow rfl rfl rfl (BlkW.refl _) id rfl,ktRow rfl rfl rfl ⟨.inl rfl,fun _=>rfl,.inr (.inl rfl),fun q=>(by cases q)⟩ id rfl,ktFlat (hls_flat (rS_flat _)) rfl (.inl rfl) id rfl,ktFlat (rS_flat _) rfl (.inr (.inr ⟨Nat.le_of_ble_eq_true rfl,Nat.le_of_ble_eq_true rfl,fun q=>absurd q (Nat.succ_ne_zero _)⟩)) id rfl,ktFlat (rI_flat _) rfl (.inr (.inr ⟨Nat.le_of_ble_eq_true rfl,Nat.le_of_ble_eq_true rfl,fun q=>absurd q (Nat.succ_ne_zero _)⟩)) id rfl,ktFlat (rI_flat _) rfl (.inr (.inr ⟨Nat.le_of_ble_eq_true rfl,Nat.le_of_ble_eq_true rfl,fun q=>absurd q (Nat.succ_ne_zero _)⟩)) id rfl,ktFlat (rI_flat _) rfl (.inr (.inr ⟨Nat.le_of_ble_eq_true rfl,Nat.le_of_ble_eq_true rfl,fun q=>absurd q (Nat.succ_ne_zero _)⟩)) id rfl,trivial⟩ rfl rfl (rig_of rfl) rfl) ?_
    refine vc_ret ?_
    exact ⟨mkF (.agg #[.slice (some ⟨7,0,none⟩) (⟨[],s.sure,s.last,s.slast,s.fl⟩:Stv).now.length 0,.slice (some ⟨8,0,none⟩) (⟨[],s.sure,s.last,s.slast,s.fl⟩:Stv).sure.length 0,.slice (some ⟨9,0,none⟩) (⟨[],s.sure,s.last,s.slast,s.fl⟩:Stv).last.length 0,.slice (some ⟨10,0,none⟩) (⟨[],s.sure,s.last,s.slast,s.fl⟩:Stv).slast.length 0,.slice (some ⟨11,0,none⟩) (⟨[],s.sure,s.last,s.slast,s.fl⟩:Stv).fl.length 0]) [0,2,3,4,5,6] [(1,one ⟨[.slice (some ⟨0,k,none⟩) n 0,.int .i64 (p + 1)],83,2⟩)] [(7,one ⟨hls 0 (rS (⟨[],s.sure,s.last,s.slast,s.fl⟩:Stv).now),9,0⟩),(8,one ⟨rS (⟨[],s.sure,s.last,s.slast,s.fl⟩:Stv).sure,9,77⟩),(9,one ⟨rI (⟨[],s.sure,s.last,s.slast,s.fl⟩:Stv).last,3,77⟩),(10,one ⟨rI (⟨[],s.sure,s.last,s.slast,s.fl⟩:Stv).slast,3,77⟩),(11,one ⟨rI (⟨[],s.sure,s.last,s.slast,s.fl⟩:Stv).fl,3,77⟩)],_,endsT [(7,15,one ⟨hls 0 (rS (⟨[],s.sure,s.last,s.slast,s.fl⟩:Stv).now),9,0⟩),(8,10,one ⟨rS (⟨[],s.sure,s.last,s.slast,s.fl⟩:Stv).sure,9,77⟩),(9,11,one ⟨rI (⟨[],s.sure,s.last,s.slast,s.fl⟩:Stv).last,3,77⟩),(10,12,one ⟨rI (⟨[],s.sure,s.last,s.slast,s.fl⟩:Stv).slast,3,77⟩),(11,13,one ⟨rI (⟨[],s.sure,s.last,s.slast,s.fl⟩:Stv).fl,3,77⟩)] (.inr rfl) ((.cell rfl rfl rfl rfl rfl .nil)) rfl rfl ⟨upOne rfl rfl rfl,trivial⟩ ⟨asFlat rfl (hls_flat (rS_flat (⟨[],s.sure,s.last,s.slast,s.fl⟩:Stv).now)),asFlat rfl (rS_flat (⟨[],s.sure,s.last,s.slast,s.fl⟩:Stv).sure),asFlat rfl (rI_flat (⟨[],s.sure,s.last,s.slast,s.fl⟩:Stv).last),asFlat rfl (rI_flat (⟨[],s.sure,s.last,s.slast,s.fl⟩:Stv).slast),asFlat rfl (rI_flat (⟨[],s.sure,s.last,s.slast,s.fl⟩:Stv).fl),trivial⟩ rfl,(⟨[],s.sure,s.last,s.slast,s.fl⟩:Stv),0,0,_,(bn_6 hb),(by omega),(by omega),rfl⟩
  ·skip
   have p15:=of_decide_eq_false c15
   refine vc_skip ?_
   refine vc_seq ?_
   refine vc_region hm ?_
   refine gL trivial rfl rfl rfl rfl rfl rfl rfl rfl ?_
   refine gT trivial rfl rfl rfl rfl rfl rfl rfl rfl rfl rfl (Nat.le_of_ble_eq_true rfl) rfl ?_
   refine rg_nil nofun ?_
   refine vc_re (S2:=⟨15,[(4,.pointer (some ⟨8,0,none⟩))],[(1,true,one ⟨[.slice (some ⟨0,k,none⟩) n 0,.int .i64 (p + 1)],83,2⟩),(8,true,one ⟨[.slice (some ⟨9,0,none⟩) s.now.length 0,.slice (some ⟨10,0,none⟩) s.sure.length 0,.slice (some ⟨11,0,none⟩) s.last.length 0,.slice (some ⟨12,0,none⟩) s.slast.length 0,.slice (some ⟨13,0,none⟩) s.fl.length 0],26,5⟩),(9,true,one ⟨hls 0 (rS s.now),9,0⟩),(10,true,one ⟨rS s.sure,9,77⟩),(11,true,one ⟨rI s.last,3,77⟩),(12,true,one ⟨rI s.slast,3,77⟩),(13,true,one ⟨rI s.fl,3,77⟩)]⟩) (re_nil (ms:=[0,1,2,3,4,5,6,7,8,9,10,11,12,13,14]) (C:=999) rfl ⟨⟨⟨rfl,rfl⟩,rfl⟩,trivial⟩ ⟨ktRow rfl rfl rfl (BlkW.refl _) id rfl,ktRow rfl rfl rfl ⟨.inl rfl,fun _=>rfl,.inr (.inl rfl),fun q=>(by cases q)⟩ id rfl,ktFlat (hls_flat (rS_flat _)) rfl (.inl rfl) id rfl,ktFlat (rS_flat _) rfl (.inr (.inr ⟨Nat.le_of_ble_eq_true rfl,Nat.le_of_ble_eq_true rfl,fun q=>absurd q (Nat.succ_ne_zero _)⟩)) id rfl,ktFlat (rI_flat _) rfl (.inr (.inr ⟨Nat.le_of_ble_eq_true rfl,Nat.le_of_ble_eq_true rfl,fun q=>absurd q (Nat.succ_ne_zero _)⟩)) id rfl,ktFlat (rI_flat _) rfl (.inr (.inr ⟨Nat.le_of_ble_eq_true rfl,Nat.le_of_ble_eq_true rfl,fun q=>absurd q (Nat.succ_ne_zero _)⟩)) id rfl,ktFlat (rI_flat _) rfl (.inr (.inr ⟨Nat.le_of_ble_eq_true rfl,Nat.le_of_ble_eq_true rfl,fun q=>absurd q (Nat.succ_ne_zero _)⟩)) id rfl,trivial⟩ rfl rfl (rig_of rfl) rfl) ?_
   refine vc_ret ?_
   exact ⟨mkF (.agg #[.slice (some ⟨7,0,none⟩) s.now.length 0,.slice (some ⟨8,0,none⟩) s.sure.length 0,.slice (some ⟨9,0,none⟩) s.last.length 0,.slice (some ⟨10,0,none⟩) s.slast.length 0,.slice (some ⟨11,0,none⟩) s.fl.length 0]) [0,2,3,4,5,6] [(1,one ⟨[.slice (some ⟨0,k,none⟩) n 0,.int .i64 (p + 1)],83,2⟩)] [(7,one ⟨hls 0 (rS s.now),9,0⟩),(8,one ⟨rS s.sure,9,77⟩),(9,one ⟨rI s.last,3,77⟩),(10,one ⟨rI s.slast,3,77⟩),(11,one ⟨rI s.fl,3,77⟩)],_,endsT [(7,9,one ⟨hls 0 (rS s.now),9,0⟩),(8,10,one ⟨rS s.sure,9,77⟩),(9,11,one ⟨rI s.last,3,77⟩),(10,12,one ⟨rI s.slast,3,77⟩),(11,13,one ⟨rI s.fl,3,77⟩)] (.inr rfl) ((.cell rfl rfl rfl rfl rfl .nil)) rfl rfl ⟨upOne rfl rfl rfl,trivial⟩ ⟨asFlat rfl (hls_flat (rS_flat s.now)),asFlat rfl (rS_flat s.sure),asFlat rfl (rI_flat s.last),asFlat rfl (rI_flat s.slast),asFlat rfl (rI_flat s.fl),trivial⟩ rfl,s,0,0,_,hb,(by omega),(by omega),rfl⟩
 ·skip
  have p10:=ne_of_beq_false c10
  refine vc_seq ?_
  refine vc_region hm ?_
  refine gI trivial rfl rfl rfl rfl rfl rfl ?_
  refine gM trivial (.inr rfl) rfl rfl rfl ?_
  refine rg_nil nofun ?_
  refine cI rfl (fun c20=>?_) (fun c20=>?_)
  ·skip
   have p20:=eq_of_beq c20
   refine vc_seq ?_
   refine vc_region hm ?_
   refine gF trivial rfl rfl rfl rfl rfl ?_
   refine gL trivial rfl rfl rfl rfl rfl rfl rfl rfl ?_
   refine gK trivial rfl rfl rfl rfl rfl rfl rS_nil ?_
   refine gI trivial rfl rfl rfl rfl rfl rfl ?_
   refine rg_nil nofun ?_
   refine cI rfl (fun c25=>?_) (fun c25=>?_)
   ·skip
    have p25:=of_decide_eq_true c25
    refine vc_region hm ?_
    refine gF trivial rfl rfl rfl rfl rfl ?_
    refine gL trivial rfl rfl rfl rfl rfl rfl rfl rfl ?_
    refine gX trivial rfl rfl rfl rfl rfl rfl rfl rfl (by omega) (by omega) rS_ne ?_
    refine gT trivial rfl rfl rfl rfl rfl rfl rfl rfl rfl rfl (kS (by omega) (by omega)) (sS (by omega) (by omega)) ?_
    refine rg_nil nofun ?_
    refine vc_seq ?_
    refine vc_region hm ?_
    refine gL trivial rfl rfl rfl rfl rfl rfl rfl rfl ?_
    refine gT trivial rfl rfl rfl rfl rfl rfl rfl rfl rfl rfl (Nat.le_of_ble_eq_true rfl) rfl ?_
    refine rg_nil nofun ?_
    refine vc_re (S2:=⟨15,[(4,.pointer (some ⟨8,0,none⟩))],[(1,true,one ⟨[.slice (some ⟨0,k,none⟩) n 0,.int .i64 (p + 1)],83,2⟩),(8,true,one ⟨[.slice (some ⟨9,0,none⟩) s.now.length 0,.slice (some ⟨10,0,none⟩) s.sure.length 0,.slice (some ⟨11,0,none⟩) s.last.length 0,.slice (some ⟨12,0,none⟩) s.slast.length 0,.slice (some ⟨13,0,none⟩) s.fl.length 0],26,5⟩),(9,true,one ⟨hls 0 (rS (⟨s.now,s.sure.set (Int.toNat 0) ⟨#[65]⟩,s.last,s.slast,s.fl⟩:Stv).now),9,0⟩),(10,true,one ⟨rS (⟨s.now,s.sure.set (Int.toNat 0) ⟨#[65]⟩,s.last,s.slast,s.fl⟩:Stv).sure,9,77⟩),(11,true,one ⟨rI (⟨s.now,s.sure.set (Int.toNat 0) ⟨#[65]⟩,s.last,s.slast,s.fl⟩:Stv).last,3,77⟩),(12,true,one ⟨rI (⟨s.now,s.sure.set (Int.toNat 0) ⟨#[65]⟩,s.last,s.slast,s.fl⟩:Stv).slast,3,77⟩),(13,true,one ⟨rI (⟨s.now,s.sure.set (Int.toNat 0) ⟨#[65]⟩,s.last,s.slast,s.fl⟩:Stv).fl,3,77⟩)]⟩) (re_nil (ms:=[0,1,2,3,4,5,6,7,8,9,10,11,12,13,14]) (C:=999) rfl ⟨⟨⟨rfl,rfl⟩,rfl⟩,trivial⟩ ⟨ktRow rfl rfl rfl (BlkW.refl _) id rfl,ktRow rfl rfl rfl ⟨.inl rfl,fun _=>rfl,.inr (.inl rfl),fun q=>(by cases q)⟩ id rfl,ktFlat (hls_flat (rS_flat _)) rfl (.inl rfl) id rfl,ktFlat (rS_flat _) rfl (.inr (.inr ⟨Nat.le_of_ble_eq_true rfl,Nat.le_of_ble_eq_true rfl,fun q=>absurd q (Nat.succ_ne_zero _)⟩)) id rfl,ktFlat (rI_flat _) rfl (.inr (.inr ⟨Nat.le_of_ble_eq_true rfl,Nat.le_of_ble_eq_true rfl,fun q=>absurd q (Nat.succ_ne_zero _)⟩)) id rfl,ktFlat (rI_flat _) rfl (.inr (.inr ⟨Nat.le_of_ble_eq_true rfl,Nat.le_of_ble_eq_true rfl,fun q=>absurd q (Nat.succ_ne_zero _)⟩)) id rfl,ktFlat (rI_flat _) rfl (.inr (.inr ⟨Nat.le_of_ble_eq_true rfl,Nat.le_of_ble_eq_true rfl,fun q=>absurd q (Nat.succ_ne_zero _)⟩)) id rfl,trivial⟩ rfl rfl (rig_of rfl) rfl) ?_
    refine vc_ret ?_
    exact ⟨mkF (.agg #[.slice (some ⟨7,0,none⟩) (⟨s.now,s.sure.set (Int.toNat 0) ⟨#[65]⟩,s.last,s.slast,s.fl⟩:Stv).now.length 0,.slice (some ⟨8,0,none⟩) (⟨s.now,s.sure.set (Int.toNat 0) ⟨#[65]⟩,s.last,s.slast,s.fl⟩:Stv).sure.length 0,.slice (some ⟨9,0,none⟩) (⟨s.now,s.sure.set (Int.toNat 0) ⟨#[65]⟩,s.last,s.slast,s.fl⟩:Stv).last.length 0,.slice (some ⟨10,0,none⟩) (⟨s.now,s.sure.set (Int.toNat 0) ⟨#[65]⟩,s.last,s.slast,s.fl⟩:Stv).slast.length 0,.slice (some ⟨11,0,none⟩) (⟨s.now,s.sure.set (Int.toNat 0) ⟨#[65]⟩,s.last,s.slast,s.fl⟩:Stv).fl.length 0]) [0,2,3,4,5,6] [(1,one ⟨[.slice (some ⟨0,k,none⟩) n 0,.int .i64 (p + 1)],83,2⟩)] [(7,one ⟨hls 0 (rS (⟨s.now,s.sure.set (Int.toNat 0) ⟨#[65]⟩,s.last,s.slast,s.fl⟩:Stv).now),9,0⟩),(8,one ⟨rS (⟨s.now,s.sure.set (Int.toNat 0) ⟨#[65]⟩,s.last,s.slast,s.fl⟩:Stv).sure,9,77⟩),(9,one ⟨rI (⟨s.now,s.sure.set (Int.toNat 0) ⟨#[65]⟩,s.last,s.slast,s.fl⟩:Stv).last,3,77⟩),(10,one ⟨rI (⟨s.now,s.sure.set (Int.toNat 0) ⟨#[65]⟩,s.last,s.slast,s.fl⟩:Stv).slast,3,77⟩),(11,one ⟨rI (⟨s.now,s.sure.set (Int.toNat 0) ⟨#[65]⟩,s.last,s.slast,s.fl⟩:Stv).fl,3,77⟩)],_,endsT [(7,9,one ⟨hls 0 (rS (⟨s.now,s.sure.set (Int.toNat 0) ⟨#[65]⟩,s.last,s.slast,s.fl⟩:Stv).now),9,0⟩),(8,10,one ⟨rS (⟨s.now,s.sure.set (Int.toNat 0) ⟨#[65]⟩,s.last,s.slast,s.fl⟩:Stv).sure,9,77⟩),(9,11,one ⟨rI (⟨s.now,s.sure.set (Int.toNat 0) ⟨#[65]⟩,s.last,s.slast,s.fl⟩:Stv).last,3,77⟩),(10,12,one ⟨rI (⟨s.now,s.sure.set (Int.toNat 0) ⟨#[65]⟩,s.last,s.slast,s.fl⟩:Stv).slast,3,77⟩),(11,13,one ⟨rI (⟨s.now,s.sure.set (Int.toNat 0) ⟨#[65]⟩,s.last,s.slast,s.fl⟩:Stv).fl,3,77⟩)] (.inr rfl) ((.cell rfl rfl rfl rfl rfl .nil)) (by rw [List.length_set];rfl) rfl ⟨upOne rfl rfl rfl,trivial⟩ ⟨asFlat rfl (hls_flat (rS_flat (⟨s.now,s.sure.set (Int.toNat 0) ⟨#[65]⟩,s.last,s.slast,s.fl⟩:Stv).now)),asFlat rfl (rS_flat (⟨s.now,s.sure.set (Int.toNat 0) ⟨#[65]⟩,s.last,s.slast,s.fl⟩:Stv).sure),asFlat rfl (rI_flat (⟨s.now,s.sure.set (Int.toNat 0) ⟨#[65]⟩,s.last,s.slast,s.fl⟩:Stv).last),asFlat rfl (rI_flat (⟨s.now,s.sure.set (Int.toNat 0) ⟨#[65]⟩,s.last,s.slast,s.fl⟩:Stv).slast),asFlat rfl (rI_flat (⟨s.now,s.sure.set (Int.toNat 0) ⟨#[65]⟩,s.last,s.slast,s.fl⟩:Stv).fl),trivial⟩ rfl,(⟨s.now,s.sure.set (Int.toNat 0) ⟨#[65]⟩,s.last,s.slast,s.fl⟩:Stv),0,0,_,(bn_1 hb),(by omega),(by omega),rfl⟩
   ·skip
    have p25:=of_decide_eq_false c25
    refine vc_skip ?_
    refine vc_seq ?_
    refine vc_region hm ?_
    refine gL trivial rfl rfl rfl rfl rfl rfl rfl rfl ?_
    refine gT trivial rfl rfl rfl rfl rfl rfl rfl rfl rfl rfl (Nat.le_of_ble_eq_true rfl) rfl ?_
    refine rg_nil nofun ?_
    refine vc_re (S2:=⟨15,[(4,.pointer (some ⟨8,0,none⟩))],[(1,true,one ⟨[.slice (some ⟨0,k,none⟩) n 0,.int .i64 (p + 1)],83,2⟩),(8,true,one ⟨[.slice (some ⟨9,0,none⟩) s.now.length 0,.slice (some ⟨10,0,none⟩) s.sure.length 0,.slice (some ⟨11,0,none⟩) s.last.length 0,.slice (some ⟨12,0,none⟩) s.slast.length 0,.slice (some ⟨13,0,none⟩) s.fl.length 0],26,5⟩),(9,true,one ⟨hls 0 (rS s.now),9,0⟩),(10,true,one ⟨rS s.sure,9,77⟩),(11,true,one ⟨rI s.last,3,77⟩),(12,true,one ⟨rI s.slast,3,77⟩),(13,true,one ⟨rI s.fl,3,77⟩)]⟩) (re_nil (ms:=[0,1,2,3,4,5,6,7,8,9,10,11,12,13,14]) (C:=999) rfl ⟨⟨⟨rfl,rfl⟩,rfl⟩,trivial⟩ ⟨ktRow rfl rfl rfl (BlkW.refl _) id rfl,ktRow rfl rfl rfl ⟨.inl rfl,fun _=>rfl,.inr (.inl rfl),fun q=>(by cases q)⟩ id rfl,ktFlat (hls_flat (rS_flat _)) rfl (.inl rfl) id rfl,ktFlat (rS_flat _) rfl (.inr (.inr ⟨Nat.le_of_ble_eq_true rfl,Nat.le_of_ble_eq_true rfl,fun q=>absurd q (Nat.succ_ne_zero _)⟩)) id rfl,ktFlat (rI_flat _) rfl (.inr (.inr ⟨Nat.le_of_ble_eq_true rfl,Nat.le_of_ble_eq_true rfl,fun q=>absurd q (Nat.succ_ne_zero _)⟩)) id rfl,ktFlat (rI_flat _) rfl (.inr (.inr ⟨Nat.le_of_ble_eq_true rfl,Nat.le_of_ble_eq_true rfl,fun q=>absurd q (Nat.succ_ne_zero _)⟩)) id rfl,ktFlat (rI_flat _) rfl (.inr (.inr ⟨Nat.le_of_ble_eq_true rfl,Nat.le_of_ble_eq_true rfl,fun q=>absurd q (Nat.succ_ne_zero _)⟩)) id rfl,trivial⟩ rfl rfl (rig_of rfl) rfl) ?_
    refine vc_ret ?_
    exact ⟨mkF (.agg #[.slice (some ⟨7,0,none⟩) s.now.length 0,.slice (some ⟨8,0,none⟩) s.sure.length 0,.slice (some ⟨9,0,none⟩) s.last.length 0,.slice (some ⟨10,0,none⟩) s.slast.length 0,.slice (some ⟨11,0,none⟩) s.fl.length 0]) [0,2,3,4,5,6] [(1,one ⟨[.slice (some ⟨0,k,none⟩) n 0,.int .i64 (p + 1)],83,2⟩)] [(7,one ⟨hls 0 (rS s.now),9,0⟩),(8,one ⟨rS s.sure,9,77⟩),(9,one ⟨rI s.last,3,77⟩),(10,one ⟨rI s.slast,3,77⟩),(11,one ⟨rI s.fl,3,77⟩)],_,endsT [(7,9,one ⟨hls 0 (rS s.now),9,0⟩),(8,10,one ⟨rS s.sure,9,77⟩),(9,11,one ⟨rI s.last,3,77⟩),(10,12,one ⟨rI s.slast,3,77⟩),(11,13,one ⟨rI s.fl,3,77⟩)] (.inr rfl) ((.cell rfl rfl rfl rfl rfl .nil)) rfl rfl ⟨upOne rfl rfl rfl,trivial⟩ ⟨asFlat rfl (hls_flat (rS_flat s.now)),asFlat rfl (rS_flat s.sure),asFlat rfl (rI_flat s.last),asFlat rfl (rI_flat s.slast),asFlat rfl (rI_flat s.fl),trivial⟩ rfl,s,0,0,_,hb,(by omega),(by omega),rfl⟩
  ·skip
   have p20:=ne_of_beq_false c20
   refine vc_seq ?_
   refine vc_region hm ?_
   refine gI trivial rfl rfl rfl rfl rfl rfl ?_
   refine gM trivial (.inr rfl) rfl rfl rfl ?_
   refine rg_nil nofun ?_
   refine cI rfl (fun c29=>?_) (fun c29=>?_)
   ·skip
    have p29:=eq_of_beq c29
    refine vc_seq ?_
    refine vc_region hm ?_
    refine gF trivial rfl rfl rfl rfl rfl ?_
    refine gL trivial rfl rfl rfl rfl rfl rfl rfl rfl ?_
    refine gK trivial rfl rfl rfl rfl rfl rfl rI_nil ?_
    refine gI trivial rfl rfl rfl rfl rfl rfl ?_
    refine rg_nil nofun ?_
    refine cI rfl (fun c34=>?_) (fun c34=>?_)
    ·skip
     have p34:=of_decide_eq_true c34
     refine vc_region hm ?_
     refine gF trivial rfl rfl rfl rfl rfl ?_
     refine gL trivial rfl rfl rfl rfl rfl rfl rfl rfl ?_
     refine gM trivial (.inl rfl) rfl rfl rfl ?_
     refine gR (u':=16) (out:=rI [-1,1000,1001]) trivial rfl rfl rfl rfl rfl rfl rfl rfl rfl rfl rfl rfl rfl rfl ?_
     obtain ⟨E8,hE8,x8,x8a,x8b,rfl⟩:=num_c (k:=k) (t0:=t0) (p:=p + 1) hl hn (by omega) (by omega) (L:=[-1,1000,1001]) (a:=-1) (b:=1001) (by decide) (by decide)
     refine gCF (ups':=[(1,one ⟨[.slice (some ⟨0,k,none⟩) n 0,.int .i64 (p + 1 + 1)],83,2⟩)]) (as':=[]) (v':=.int .i64 x8) 16 [0,1,15] hE8 trivial rfl rfl rfl rfl ⟨rCode rfl rfl,rCells rfl ⟨rfl,rfl,.inr rfl⟩ rfl,rFlat (rI_flat _) rfl (.inl rfl) rfl,trivial⟩ ⟨frOne rfl rfl,trivial⟩ trivial rfl rfl (ho1 ⟨_,rfl⟩) (hu1 rfl) rfl rfl ?_
     refine gX trivial rfl rfl rfl rfl rfl rfl rfl rfl (by omega) (by omega) rI_ne ?_
     refine gT trivial rfl rfl rfl rfl rfl rfl rfl rfl rfl rfl (kI (by omega) (by omega)) (sI (by omega) (by omega)) ?_
     refine rg_nil (fun _=>by kernel_rfl) ?_
     refine vc_seq ?_
     refine vc_region hm ?_
     refine gL trivial rfl rfl rfl rfl rfl rfl rfl rfl ?_
     refine gT trivial rfl rfl rfl rfl rfl rfl rfl rfl rfl rfl (Nat.le_of_ble_eq_true rfl) rfl ?_
     refine rg_nil nofun ?_
     refine vc_re (S2:=⟨16,[(4,.pointer (some ⟨8,0,none⟩))],[(1,true,one ⟨[.slice (some ⟨0,k,none⟩) n 0,.int .i64 (p + 1 + 1)],83,2⟩),(8,true,one ⟨[.slice (some ⟨9,0,none⟩) s.now.length 0,.slice (some ⟨10,0,none⟩) s.sure.length 0,.slice (some ⟨11,0,none⟩) s.last.length 0,.slice (some ⟨12,0,none⟩) s.slast.length 0,.slice (some ⟨13,0,none⟩) s.fl.length 0],26,5⟩),(9,true,one ⟨hls 0 (rS (⟨s.now,s.sure,s.last.set (Int.toNat 0) x8,s.slast,s.fl⟩:Stv).now),9,0⟩),(10,true,one ⟨rS (⟨s.now,s.sure,s.last.set (Int.toNat 0) x8,s.slast,s.fl⟩:Stv).sure,9,77⟩),(11,true,one ⟨rI (⟨s.now,s.sure,s.last.set (Int.toNat 0) x8,s.slast,s.fl⟩:Stv).last,3,77⟩),(12,true,one ⟨rI (⟨s.now,s.sure,s.last.set (Int.toNat 0) x8,s.slast,s.fl⟩:Stv).slast,3,77⟩),(13,true,one ⟨rI (⟨s.now,s.sure,s.last.set (Int.toNat 0) x8,s.slast,s.fl⟩:Stv).fl,3,77⟩)]⟩) (re_nil (ms:=[0,1,2,3,4,5,6,7,8,9,10,11,12,13,14,15]) (C:=999) rfl ⟨⟨⟨rfl,rfl⟩,rfl⟩,trivial⟩ ⟨ktRow rfl rfl rfl (BlkW.refl _) id rfl,ktRow rfl rfl rfl ⟨.inl rfl,fun _=>rfl,.inr (.inl rfl),fun q=>(by cases q)⟩ id rfl,ktFlat (hls_flat (rS_flat _)) rfl (.inl rfl) id rfl,ktFlat (rS_flat _) rfl (.inr (.inr ⟨Nat.le_of_ble_eq_true rfl,Nat.le_of_ble_eq_true rfl,fun q=>absurd q (Nat.succ_ne_zero _)⟩)) id rfl,ktFlat (rI_flat _) rfl (.inr (.inr ⟨Nat.le_of_ble_eq_true rfl,Nat.le_of_ble_eq_true rfl,fun q=>absurd q (Nat.succ_ne_zero _)⟩)) id rfl,ktFlat (rI_flat _) rfl (.inr (.inr ⟨Nat.le_of_ble_eq_true rfl,Nat.le_of_ble_eq_true rfl,fun q=>absurd q (Nat.succ_ne_zero _)⟩)) id rfl,ktFlat (rI_flat _) rfl (.inr (.inr ⟨Nat.le_of_ble_eq_true rfl,Nat.le_of_ble_eq_true rfl,fun q=>absurd q (Nat.succ_ne_zero _)⟩)) id rfl,trivial⟩ rfl rfl (rig_of rfl) rfl) ?_
     refine vc_ret ?_
     exact ⟨mkF (.agg #[.slice (some ⟨7,0,none⟩) (⟨s.now,s.sure,s.last.set (Int.toNat 0) x8,s.slast,s.fl⟩:Stv).now.length 0,.slice (some ⟨8,0,none⟩) (⟨s.now,s.sure,s.last.set (Int.toNat 0) x8,s.slast,s.fl⟩:Stv).sure.length 0,.slice (some ⟨9,0,none⟩) (⟨s.now,s.sure,s.last.set (Int.toNat 0) x8,s.slast,s.fl⟩:Stv).last.length 0,.slice (some ⟨10,0,none⟩) (⟨s.now,s.sure,s.last.set (Int.toNat 0) x8,s.slast,s.fl⟩:Stv).slast.length 0,.slice (some ⟨11,0,none⟩) (⟨s.now,s.sure,s.last.set (Int.toNat 0) x8,s.slast,s.fl⟩:Stv).fl.length 0]) [0,2,3,4,5,6] [(1,one ⟨[.slice (some ⟨0,k,none⟩) n 0,.int .i64 (p + 1 + 1)],83,2⟩)] [(7,one ⟨hls 0 (rS (⟨s.now,s.sure,s.last.set (Int.toNat 0) x8,s.slast,s.fl⟩:Stv).now),9,0⟩),(8,one ⟨rS (⟨s.now,s.sure,s.last.set (Int.toNat 0) x8,s.slast,s.fl⟩:Stv).sure,9,77⟩),(9,one ⟨rI (⟨s.now,s.sure,s.last.set (Int.toNat 0) x8,s.slast,s.fl⟩:Stv).last,3,77⟩),(10,one ⟨rI (⟨s.now,s.sure,s.last.set (Int.toNat 0) x8,s.slast,s.fl⟩:Stv).slast,3,77⟩),(11,one ⟨rI (⟨s.now,s.sure,s.last.set (Int.toNat 0) x8,s.slast,s.fl⟩:Stv).fl,3,77⟩)],_,endsT [(7,9,one ⟨hls 0 (rS (⟨s.now,s.sure,s.last.set (Int.toNat 0) x8,s.slast,s.fl⟩:Stv).now),9,0⟩),(8,10,one ⟨rS (⟨s.now,s.sure,s.last.set (Int.toNat 0) x8,s.slast,s.fl⟩:Stv).sure,9,77⟩),(9,11,one ⟨rI (⟨s.now,s.sure,s.last.set (Int.toNat 0) x8,s.slast,s.fl⟩:Stv).last,3,77⟩),(10,12,one ⟨rI (⟨s.now,s.sure,s.last.set (Int.toNat 0) x8,s.slast,s.fl⟩:Stv).slast,3,77⟩),(11,13,one ⟨rI (⟨s.now,s.sure,s.last.set (Int.toNat 0) x8,s.slast,s.fl⟩:Stv).fl,3,77⟩)] (.inr rfl) ((.cell rfl rfl rfl rfl rfl .nil)) (by rw [List.length_set];rfl) rfl ⟨upOne rfl rfl rfl,trivial⟩ ⟨asFlat rfl (hls_flat (rS_flat (⟨s.now,s.sure,s.last.set (Int.toNat 0) x8,s.slast,s.fl⟩:Stv).now)),asFlat rfl (rS_flat (⟨s.now,s.sure,s.last.set (Int.toNat 0) x8,s.slast,s.fl⟩:Stv).sure),asFlat rfl (rI_flat (⟨s.now,s.sure,s.last.set (Int.toNat 0) x8,s.slast,s.fl⟩:Stv).last),asFlat rfl (rI_flat (⟨s.now,s.sure,s.last.set (Int.toNat 0) x8,s.slast,s.fl⟩:Stv).slast),asFlat rfl (rI_flat (⟨s.now,s.sure,s.last.set (Int.toNat 0) x8,s.slast,s.fl⟩:Stv).fl),trivial⟩ rfl,(⟨s.now,s.sure,s.last.set (Int.toNat 0) x8,s.slast,s.fl⟩:Stv),0,0,_,(bn_2 hb (by omega)),(by omega),(by omega),rfl⟩
    ·skip
     have p34:=of_decide_eq_false c34
     refine vc_skip ?_
     refine vc_seq ?_
     refine vc_region hm ?_
     refine gL trivial rfl rfl rfl rfl rfl rfl rfl rfl ?_
     refine gT trivial rfl rfl rfl rfl rfl rfl rfl rfl rfl rfl (Nat.le_of_ble_eq_true rfl) rfl ?_
     refine rg_nil nofun ?_
     refine vc_re (S2:=⟨15,[(4,.pointer (some ⟨8,0,none⟩))],[(1,true,one ⟨[.slice (some ⟨0,k,none⟩) n 0,.int .i64 (p + 1)],83,2⟩),(8,true,one ⟨[.slice (some ⟨9,0,none⟩) s.now.length 0,.slice (some ⟨10,0,none⟩) s.sure.length 0,.slice (some ⟨11,0,none⟩) s.last.length 0,.slice (some ⟨12,0,none⟩) s.slast.length 0,.slice (some ⟨13,0,none⟩) s.fl.length 0],26,5⟩),(9,true,one ⟨hls 0 (rS s.now),9,0⟩),(10,true,one ⟨rS s.sure,9,77⟩),(11,true,one ⟨rI s.last,3,77⟩),(12,true,one ⟨rI s.slast,3,77⟩),(13,true,one ⟨rI s.fl,3,77⟩)]⟩) (re_nil (ms:=[0,1,2,3,4,5,6,7,8,9,10,11,12,13,14]) (C:=999) rfl ⟨⟨⟨rfl,rfl⟩,rfl⟩,trivial⟩ ⟨ktRow rfl rfl rfl (BlkW.refl _) id rfl,ktRow rfl rfl rfl ⟨.inl rfl,fun _=>rfl,.inr (.inl rfl),fun q=>(by cases q)⟩ id rfl,ktFlat (hls_flat (rS_flat _)) rfl (.inl rfl) id rfl,ktFlat (rS_flat _) rfl (.inr (.inr ⟨Nat.le_of_ble_eq_true rfl,Nat.le_of_ble_eq_true rfl,fun q=>absurd q (Nat.succ_ne_zero _)⟩)) id rfl,ktFlat (rI_flat _) rfl (.inr (.inr ⟨Nat.le_of_ble_eq_true rfl,Nat.le_of_ble_eq_true rfl,fun q=>absurd q (Nat.succ_ne_zero _)⟩)) id rfl,ktFlat (rI_flat _) rfl (.inr (.inr ⟨Nat.le_of_ble_eq_true rfl,Nat.le_of_ble_eq_true rfl,fun q=>absurd q (Nat.succ_ne_zero _)⟩)) id rfl,ktFlat (rI_flat _) rfl (.inr (.inr ⟨Nat.le_of_ble_eq_true rfl,Nat.le_of_ble_eq_true rfl,fun q=>absurd q (Nat.succ_ne_zero _)⟩)) id rfl,trivial⟩ rfl rfl (rig_of rfl) rfl) ?_
     refine vc_ret ?_
     exact ⟨mkF (.agg #[.slice (some ⟨7,0,none⟩) s.now.length 0,.slice (some ⟨8,0,none⟩) s.sure.length 0,.slice (some ⟨9,0,none⟩) s.last.length 0,.slice (some ⟨10,0,none⟩) s.slast.length 0,.slice (some ⟨11,0,none⟩) s.fl.length 0]) [0,2,3,4,5,6] [(1,one ⟨[.slice (some ⟨0,k,none⟩) n 0,.int .i64 (p + 1)],83,2⟩)] [(7,one ⟨hls 0 (rS s.now),9,0⟩),(8,one ⟨rS s.sure,9,77⟩),(9,one ⟨rI s.last,3,77⟩),(10,one ⟨rI s.slast,3,77⟩),(11,one ⟨rI s.fl,3,77⟩)],_,endsT [(7,9,one ⟨hls 0 (rS s.now),9,0⟩),(8,10,one ⟨rS s.sure,9,77⟩),(9,11,one ⟨rI s.last,3,77⟩),(10,12,one ⟨rI s.slast,3,77⟩),(11,13,one ⟨rI s.fl,3,77⟩)] (.inr rfl) ((.cell rfl rfl rfl rfl rfl .nil)) rfl rfl ⟨upOne rfl rfl rfl,trivial⟩ ⟨asFlat rfl (hls_flat (rS_flat s.now)),asFlat rfl (rS_flat s.sure),asFlat rfl (rI_flat s.last),asFlat rfl (rI_flat s.slast),asFlat rfl (rI_flat s.fl),trivial⟩ rfl,s,0,0,_,hb,(by omega),(by omega),rfl⟩
   ·skip
    have p29:=ne_of_beq_false c29
    refine vc_seq ?_
    refine vc_region hm ?_
    refine gI trivial rfl rfl rfl rfl rfl rfl ?_
    refine gM trivial (.inr rfl) rfl rfl rfl ?_
    refine rg_nil nofun ?_
    refine cI rfl (fun c41=>?_) (fun c41=>?_)
    ·skip
     have p41:=eq_of_beq c41
     refine vc_seq ?_
     refine vc_region hm ?_
     refine gF trivial rfl rfl rfl rfl rfl ?_
     refine gL trivial rfl rfl rfl rfl rfl rfl rfl rfl ?_
     refine gK trivial rfl rfl rfl rfl rfl rfl rI_nil ?_
     refine gI trivial rfl rfl rfl rfl rfl rfl ?_
     refine gM trivial (.inl rfl) rfl rfl rfl ?_
     refine gI2 (d:=47) rfl (fun c47=>?_) (fun c47=>?_)
     ·skip
      have p47:=of_decide_eq_true c47
      refine gF ⟨_,_,rfl,rfl,c47⟩ rfl rfl rfl rfl rfl ?_
      refine gL ⟨_,_,rfl,rfl,c47⟩ rfl rfl rfl rfl rfl rfl rfl rfl ?_
      refine gK ⟨_,_,rfl,rfl,c47⟩ rfl rfl rfl rfl rfl rfl rI_nil ?_
      refine gI ⟨_,_,rfl,rfl,c47⟩ rfl rfl rfl rfl rfl rfl ?_
      refine gPT trivial rfl rfl c47 rfl rfl rfl ?_
      refine rg_nil nofun ?_
      refine cI rfl (fun c52=>?_) (fun c52=>?_)
      ·skip
       have p52:=of_decide_eq_true c52
       refine vc_region hm ?_
       refine gF trivial rfl rfl rfl rfl rfl ?_
       refine gL trivial rfl rfl rfl rfl rfl rfl rfl rfl ?_
       refine gF trivial rfl rfl rfl rfl rfl ?_
       refine gL trivial rfl rfl rfl rfl rfl rfl rfl rfl ?_
       refine gX trivial rfl rfl rfl rfl rfl rfl rfl rfl (by omega) (by omega) rI_ne ?_
       refine gL trivial rfl rfl rfl rfl rfl rfl rfl (lI (by omega) (by omega)) ?_
       refine gM trivial (.inl rfl) rfl rfl rfl ?_
       refine gR (u':=16) (out:=rI [1,-1]) trivial rfl rfl rfl rfl rfl rfl rfl rfl rfl rfl rfl rfl rfl rfl ?_
       obtain ⟨E12,hE12,x12,x12a,x12b,rfl⟩:=num_c (k:=k) (t0:=t0) (p:=p + 1) hl hn (by omega) (by omega) (L:=[1,-1]) (a:=-1) (b:=1) (by decide) (by decide)
       refine gCF (ups':=[(1,one ⟨[.slice (some ⟨0,k,none⟩) n 0,.int .i64 (p + 1 + 1)],83,2⟩)]) (as':=[]) (v':=.int .i64 x12) 16 [0,1,15] hE12 trivial rfl rfl rfl rfl ⟨rCode rfl rfl,rCells rfl ⟨rfl,rfl,.inr rfl⟩ rfl,rFlat (rI_flat _) rfl (.inl rfl) rfl,trivial⟩ ⟨frOne rfl rfl,trivial⟩ trivial rfl rfl (ho1 ⟨_,rfl⟩) (hu1 rfl) rfl rfl ?_
       refine gA trivial rfl rfl rfl rfl rfl rfl (by have:=at_I hb.l (i:=1) (by omega) (by omega);omega) ?_
       refine gX trivial rfl rfl rfl rfl rfl rfl rfl rfl (by omega) (by omega) rI_ne ?_
       refine gT trivial rfl rfl rfl rfl rfl rfl rfl rfl rfl rfl (kI (by omega) (by omega)) (sI (by omega) (by omega)) ?_
       refine rg_nil (fun _=>by kernel_rfl) ?_
       refine vc_seq ?_
       refine vc_region hm ?_
       refine gL trivial rfl rfl rfl rfl rfl rfl rfl rfl ?_
       refine gT trivial rfl rfl rfl rfl rfl rfl rfl rfl rfl rfl (Nat.le_of_ble_eq_true rfl) rfl ?_
       refine rg_nil nofun ?_
       refine vc_re (S2:=⟨16,[(4,.pointer (some ⟨8,0,none⟩))],[(1,true,one ⟨[.slice (some ⟨0,k,none⟩) n 0,.int .i64 (p + 1 + 1)],83,2⟩),(8,true,one ⟨[.slice (some ⟨9,0,none⟩) s.now.length 0,.slice (some ⟨10,0,none⟩) s.sure.length 0,.slice (some ⟨11,0,none⟩) s.last.length 0,.slice (some ⟨12,0,none⟩) s.slast.length 0,.slice (some ⟨13,0,none⟩) s.fl.length 0],26,5⟩),(9,true,one ⟨hls 0 (rS (⟨s.now,s.sure,s.last,s.slast.set (Int.toNat 1) (at_ s.last 1 + x12),s.fl⟩:Stv).now),9,0⟩),(10,true,one ⟨rS (⟨s.now,s.sure,s.last,s.slast.set (Int.toNat 1) (at_ s.last 1 + x12),s.fl⟩:Stv).sure,9,77⟩),(11,true,one ⟨rI (⟨s.now,s.sure,s.last,s.slast.set (Int.toNat 1) (at_ s.last 1 + x12),s.fl⟩:Stv).last,3,77⟩),(12,true,one ⟨rI (⟨s.now,s.sure,s.last,s.slast.set (Int.toNat 1) (at_ s.last 1 + x12),s.fl⟩:Stv).slast,3,77⟩),(13,true,one ⟨rI (⟨s.now,s.sure,s.last,s.slast.set (Int.toNat 1) (at_ s.last 1 + x12),s.fl⟩:Stv).fl,3,77⟩)]⟩) (re_nil (ms:=[0,1,2,3,4,5,6,7,8,9,10,11,12,13,14,15]) (C:=999) rfl ⟨⟨⟨rfl,rfl⟩,rfl⟩,trivial⟩ ⟨ktRow rfl rfl rfl (BlkW.refl _) id rfl,ktRow rfl rfl rfl ⟨.inl rfl,fun _=>rfl,.inr (.inl rfl),fun q=>(by cases q)⟩ id rfl,ktFlat (hls_flat (rS_flat _)) rfl (.inl rfl) id rfl,ktFlat (rS_flat _) rfl (.inr (.inr ⟨Nat.le_of_ble_eq_true rfl,Nat.le_of_ble_eq_true rfl,fun q=>absurd q (Nat.succ_ne_zero _)⟩)) id rfl,ktFlat (rI_flat _) rfl (.inr (.inr ⟨Nat.le_of_ble_eq_true rfl,Nat.le_of_ble_eq_true rfl,fun q=>absurd q (Nat.succ_ne_zero _)⟩)) id rfl,ktFlat (rI_flat _) rfl (.inr (.inr ⟨Nat.le_of_ble_eq_true rfl,Nat.le_of_ble_eq_true rfl,fun q=>absurd q (Nat.succ_ne_zero _)⟩)) id rfl,ktFlat (rI_flat _) rfl (.inr (.inr ⟨Nat.le_of_ble_eq_true rfl,Nat.le_of_ble_eq_true rfl,fun q=>absurd q (Nat.succ_ne_zero _)⟩)) id rfl,trivial⟩ rfl rfl (rig_of rfl) rfl) ?_
       refine vc_ret ?_
       exact ⟨mkF (.agg #[.slice (some ⟨7,0,none⟩) (⟨s.now,s.sure,s.last,s.slast.set (Int.toNat 1) (at_ s.last 1 + x12),s.fl⟩:Stv).now.length 0,.slice (some ⟨8,0,none⟩) (⟨s.now,s.sure,s.last,s.slast.set (Int.toNat 1) (at_ s.last 1 + x12),s.fl⟩:Stv).sure.length 0,.slice (some ⟨9,0,none⟩) (⟨s.now,s.sure,s.last,s.slast.set (Int.toNat 1) (at_ s.last 1 + x12),s.fl⟩:Stv).last.length 0,.slice (some ⟨10,0,none⟩) (⟨s.now,s.sure,s.last,s.slast.set (Int.toNat 1) (at_ s.last 1 + x12),s.fl⟩:Stv).slast.length 0,.slice (some ⟨11,0,none⟩) (⟨s.now,s.sure,s.last,s.slast.set (Int.toNat 1) (at_ s.last 1 + x12),s.fl⟩:Stv).fl.length 0]) [0,2,3,4,5,6] [(1,one ⟨[.slice (some ⟨0,k,none⟩) n 0,.int .i64 (p + 1 + 1)],83,2⟩)] [(7,one ⟨hls 0 (rS (⟨s.now,s.sure,s.last,s.slast.set (Int.toNat 1) (at_ s.last 1 + x12),s.fl⟩:Stv).now),9,0⟩),(8,one ⟨rS (⟨s.now,s.sure,s.last,s.slast.set (Int.toNat 1) (at_ s.last 1 + x12),s.fl⟩:Stv).sure,9,77⟩),(9,one ⟨rI (⟨s.now,s.sure,s.last,s.slast.set (Int.toNat 1) (at_ s.last 1 + x12),s.fl⟩:Stv).last,3,77⟩),(10,one ⟨rI (⟨s.now,s.sure,s.last,s.slast.set (Int.toNat 1) (at_ s.last 1 + x12),s.fl⟩:Stv).slast,3,77⟩),(11,one ⟨rI (⟨s.now,s.sure,s.last,s.slast.set (Int.toNat 1) (at_ s.last 1 + x12),s.fl⟩:Stv).fl,3,77⟩)],_,endsT [(7,9,one ⟨hls 0 (rS (⟨s.now,s.sure,s.last,s.slast.set (Int.toNat 1) (at_ s.last 1 + x12),s.fl⟩:Stv).now),9,0⟩),(8,10,one ⟨rS (⟨s.now,s.sure,s.last,s.slast.set (Int.toNat 1) (at_ s.last 1 + x12),s.fl⟩:Stv).sure,9,77⟩),(9,11,one ⟨rI (⟨s.now,s.sure,s.last,s.slast.set (Int.toNat 1) (at_ s.last 1 + x12),s.fl⟩:Stv).last,3,77⟩),(10,12,one ⟨rI (⟨s.now,s.sure,s.last,s.slast.set (Int.toNat 1) (at_ s.last 1 + x12),s.fl⟩:Stv).slast,3,77⟩),(11,13,one ⟨rI (⟨s.now,s.sure,s.last,s.slast.set (Int.toNat 1) (at_ s.last 1 + x12),s.fl⟩:Stv).fl,3,77⟩)] (.inr rfl) ((.cell rfl rfl rfl rfl rfl .nil)) (by rw [List.length_set];rfl) rfl ⟨upOne rfl rfl rfl,trivial⟩ ⟨asFlat rfl (hls_flat (rS_flat (⟨s.now,s.sure,s.last,s.slast.set (Int.toNat 1) (at_ s.last 1 + x12),s.fl⟩:Stv).now)),asFlat rfl (rS_flat (⟨s.now,s.sure,s.last,s.slast.set (Int.toNat 1) (at_ s.last 1 + x12),s.fl⟩:Stv).sure),asFlat rfl (rI_flat (⟨s.now,s.sure,s.last,s.slast.set (Int.toNat 1) (at_ s.last 1 + x12),s.fl⟩:Stv).last),asFlat rfl (rI_flat (⟨s.now,s.sure,s.last,s.slast.set (Int.toNat 1) (at_ s.last 1 + x12),s.fl⟩:Stv).slast),asFlat rfl (rI_flat (⟨s.now,s.sure,s.last,s.slast.set (Int.toNat 1) (at_ s.last 1 + x12),s.fl⟩:Stv).fl),trivial⟩ rfl,(⟨s.now,s.sure,s.last,s.slast.set (Int.toNat 1) (at_ s.last 1 + x12),s.fl⟩:Stv),0,0,_,(bn_3 hb),(by omega),(by omega),rfl⟩
      ·skip
       have p52:=of_decide_eq_false c52
       refine vc_skip ?_
       refine vc_seq ?_
       refine vc_region hm ?_
       refine gL trivial rfl rfl rfl rfl rfl rfl rfl rfl ?_
       refine gT trivial rfl rfl rfl rfl rfl rfl rfl rfl rfl rfl (Nat.le_of_ble_eq_true rfl) rfl ?_
       refine rg_nil nofun ?_
       refine vc_re (S2:=⟨15,[(4,.pointer (some ⟨8,0,none⟩))],[(1,true,one ⟨[.slice (some ⟨0,k,none⟩) n 0,.int .i64 (p + 1)],83,2⟩),(8,true,one ⟨[.slice (some ⟨9,0,none⟩) s.now.length 0,.slice (some ⟨10,0,none⟩) s.sure.length 0,.slice (some ⟨11,0,none⟩) s.last.length 0,.slice (some ⟨12,0,none⟩) s.slast.length 0,.slice (some ⟨13,0,none⟩) s.fl.length 0],26,5⟩),(9,true,one ⟨hls 0 (rS s.now),9,0⟩),(10,true,one ⟨rS s.sure,9,77⟩),(11,true,one ⟨rI s.last,3,77⟩),(12,true,one ⟨rI s.slast,3,77⟩),(13,true,one ⟨rI s.fl,3,77⟩)]⟩) (re_nil (ms:=[0,1,2,3,4,5,6,7,8,9,10,11,12,13,14]) (C:=999) rfl ⟨⟨⟨rfl,rfl⟩,rfl⟩,trivial⟩ ⟨ktRow rfl rfl rfl (BlkW.refl _) id rfl,ktRow rfl rfl rfl ⟨.inl rfl,fun _=>rfl,.inr (.inl rfl),fun q=>(by cases q)⟩ id rfl,ktFlat (hls_flat (rS_flat _)) rfl (.inl rfl) id rfl,ktFlat (rS_flat _) rfl (.inr (.inr ⟨Nat.le_of_ble_eq_true rfl,Nat.le_of_ble_eq_true rfl,fun q=>absurd q (Nat.succ_ne_zero _)⟩)) id rfl,ktFlat (rI_flat _) rfl (.inr (.inr ⟨Nat.le_of_ble_eq_true rfl,Nat.le_of_ble_eq_true rfl,fun q=>absurd q (Nat.succ_ne_zero _)⟩)) id rfl,ktFlat (rI_flat _) rfl (.inr (.inr ⟨Nat.le_of_ble_eq_true rfl,Nat.le_of_ble_eq_true rfl,fun q=>absurd q (Nat.succ_ne_zero _)⟩)) id rfl,ktFlat (rI_flat _) rfl (.inr (.inr ⟨Nat.le_of_ble_eq_true rfl,Nat.le_of_ble_eq_true rfl,fun q=>absurd q (Nat.succ_ne_zero _)⟩)) id rfl,trivial⟩ rfl rfl (rig_of rfl) rfl) ?_
       refine vc_ret ?_
       exact ⟨mkF (.agg #[.slice (some ⟨7,0,none⟩) s.now.length 0,.slice (some ⟨8,0,none⟩) s.sure.length 0,.slice (some ⟨9,0,none⟩) s.last.length 0,.slice (some ⟨10,0,none⟩) s.slast.length 0,.slice (some ⟨11,0,none⟩) s.fl.length 0]) [0,2,3,4,5,6] [(1,one ⟨[.slice (some ⟨0,k,none⟩) n 0,.int .i64 (p + 1)],83,2⟩)] [(7,one ⟨hls 0 (rS s.now),9,0⟩),(8,one ⟨rS s.sure,9,77⟩),(9,one ⟨rI s.last,3,77⟩),(10,one ⟨rI s.slast,3,77⟩),(11,one ⟨rI s.fl,3,77⟩)],_,endsT [(7,9,one ⟨hls 0 (rS s.now),9,0⟩),(8,10,one ⟨rS s.sure,9,77⟩),(9,11,one ⟨rI s.last,3,77⟩),(10,12,one ⟨rI s.slast,3,77⟩),(11,13,one ⟨rI s.fl,3,77⟩)] (.inr rfl) ((.cell rfl rfl rfl rfl rfl .nil)) rfl rfl ⟨upOne rfl rfl rfl,trivial⟩ ⟨asFlat rfl (hls_flat (rS_flat s.now)),asFlat rfl (rS_flat s.sure),asFlat rfl (rI_flat s.last),asFlat rfl (rI_flat s.slast),asFlat rfl (rI_flat s.fl),trivial⟩ rfl,s,0,0,_,hb,(by omega),(by omega),rfl⟩
     ·skip
      have p47:=of_decide_eq_false c47
      refine gO ⟨_,_,rfl,rfl,c47⟩ rfl rfl ?_
      refine gO ⟨_,_,rfl,rfl,c47⟩ rfl rfl ?_
      refine gO ⟨_,_,rfl,rfl,c47⟩ rfl rfl ?_
      refine gO ⟨_,_,rfl,rfl,c47⟩ rfl rfl ?_
      refine gPF trivial rfl rfl c47 rfl rfl rfl ?_
      refine rg_nil nofun ?_
      refine cF rfl rfl ?_
      refine vc_skip ?_
      refine vc_seq ?_
      refine vc_region hm ?_
      refine gL trivial rfl rfl rfl rfl rfl rfl rfl rfl ?_
      refine gT trivial rfl rfl rfl rfl rfl rfl rfl rfl rfl rfl (Nat.le_of_ble_eq_true rfl) rfl ?_
      refine rg_nil nofun ?_
      refine vc_re (S2:=⟨15,[(4,.pointer (some ⟨8,0,none⟩))],[(1,true,one ⟨[.slice (some ⟨0,k,none⟩) n 0,.int .i64 (p + 1)],83,2⟩),(8,true,one ⟨[.slice (some ⟨9,0,none⟩) s.now.length 0,.slice (some ⟨10,0,none⟩) s.sure.length 0,.slice (some ⟨11,0,none⟩) s.last.length 0,.slice (some ⟨12,0,none⟩) s.slast.length 0,.slice (some ⟨13,0,none⟩) s.fl.length 0],26,5⟩),(9,true,one ⟨hls 0 (rS s.now),9,0⟩),(10,true,one ⟨rS s.sure,9,77⟩),(11,true,one ⟨rI s.last,3,77⟩),(12,true,one ⟨rI s.slast,3,77⟩),(13,true,one ⟨rI s.fl,3,77⟩)]⟩) (re_nil (ms:=[0,1,2,3,4,5,6,7,8,9,10,11,12,13,14]) (C:=999) rfl ⟨⟨⟨rfl,rfl⟩,rfl⟩,trivial⟩ ⟨ktRow rfl rfl rfl (BlkW.refl _) id rfl,ktRow rfl rfl rfl ⟨.inl rfl,fun _=>rfl,.inr (.inl rfl),fun q=>(by cases q)⟩ id rfl,ktFlat (hls_flat (rS_flat _)) rfl (.inl rfl) id rfl,ktFlat (rS_flat _) rfl (.inr (.inr ⟨Nat.le_of_ble_eq_true rfl,Nat.le_of_ble_eq_true rfl,fun q=>absurd q (Nat.succ_ne_zero _)⟩)) id rfl,ktFlat (rI_flat _) rfl (.inr (.inr ⟨Nat.le_of_ble_eq_true rfl,Nat.le_of_ble_eq_true rfl,fun q=>absurd q (Nat.succ_ne_zero _)⟩)) id rfl,ktFlat (rI_flat _) rfl (.inr (.inr ⟨Nat.le_of_ble_eq_true rfl,Nat.le_of_ble_eq_true rfl,fun q=>absurd q (Nat.succ_ne_zero _)⟩)) id rfl,ktFlat (rI_flat _) rfl (.inr (.inr ⟨Nat.le_of_ble_eq_true rfl,Nat.le_of_ble_eq_true rfl,fun q=>absurd q (Nat.succ_ne_zero _)⟩)) id rfl,trivial⟩ rfl rfl (rig_of rfl) rfl) ?_
      refine vc_ret ?_
      exact ⟨mkF (.agg #[.slice (some ⟨7,0,none⟩) s.now.length 0,.slice (some ⟨8,0,none⟩) s.sure.length 0,.slice (some ⟨9,0,none⟩) s.last.length 0,.slice (some ⟨10,0,none⟩) s.slast.length 0,.slice (some ⟨11,0,none⟩) s.fl.length 0]) [0,2,3,4,5,6] [(1,one ⟨[.slice (some ⟨0,k,none⟩) n 0,.int .i64 (p + 1)],83,2⟩)] [(7,one ⟨hls 0 (rS s.now),9,0⟩),(8,one ⟨rS s.sure,9,77⟩),(9,one ⟨rI s.last,3,77⟩),(10,one ⟨rI s.slast,3,77⟩),(11,one ⟨rI s.fl,3,77⟩)],_,endsT [(7,9,one ⟨hls 0 (rS s.now),9,0⟩),(8,10,one ⟨rS s.sure,9,77⟩),(9,11,one ⟨rI s.last,3,77⟩),(10,12,one ⟨rI s.slast,3,77⟩),(11,13,one ⟨rI s.fl,3,77⟩)] (.inr rfl) ((.cell rfl rfl rfl rfl rfl .nil)) rfl rfl ⟨upOne rfl rfl rfl,trivial⟩ ⟨asFlat rfl (hls_flat (rS_flat s.now)),asFlat rfl (rS_flat s.sure),asFlat rfl (rI_flat s.last),asFlat rfl (rI_flat s.slast),asFlat rfl (rI_flat s.fl),trivial⟩ rfl,s,0,0,_,hb,(by omega),(by omega),rfl⟩
    ·skip
     have p41:=ne_of_beq_false c41
     refine vc_seq ?_
     refine vc_region hm ?_
     refine gI trivial rfl rfl rfl rfl rfl rfl ?_
     refine gM trivial (.inr rfl) rfl rfl rfl ?_
     refine rg_nil nofun ?_
     refine cI rfl (fun c64=>?_) (fun c64=>?_)
     ·skip
      have p64:=eq_of_beq c64
      refine vc_seq ?_
      refine vc_region hm ?_
      refine gF trivial rfl rfl rfl rfl rfl ?_
      refine gL trivial rfl rfl rfl rfl rfl rfl rfl rfl ?_
      refine gK trivial rfl rfl rfl rfl rfl rfl rI_nil ?_
      refine gI trivial rfl rfl rfl rfl rfl rfl ?_
      refine rg_nil nofun ?_
      refine cI rfl (fun c69=>?_) (fun c69=>?_)
      ·skip
       have p69:=of_decide_eq_true c69
       refine vc_region hm ?_
       refine gF trivial rfl rfl rfl rfl rfl ?_
       refine gL trivial rfl rfl rfl rfl rfl rfl rfl rfl ?_
       refine gM trivial (.inl rfl) rfl rfl rfl ?_
       refine gR (u':=16) (out:=rI [-1,100,101]) trivial rfl rfl rfl rfl rfl rfl rfl rfl rfl rfl rfl rfl rfl rfl ?_
       obtain ⟨E15,hE15,x15,x15a,x15b,rfl⟩:=num_c (k:=k) (t0:=t0) (p:=p + 1) hl hn (by omega) (by omega) (L:=[-1,100,101]) (a:=-1) (b:=101) (by decide) (by decide)
       refine gCF (ups':=[(1,one ⟨[.slice (some ⟨0,k,none⟩) n 0,.int .i64 (p + 1 + 1)],83,2⟩)]) (as':=[]) (v':=.int .i64 x15) 16 [0,1,15] hE15 trivial rfl rfl rfl rfl ⟨rCode rfl rfl,rCells rfl ⟨rfl,rfl,.inr rfl⟩ rfl,rFlat (rI_flat _) rfl (.inl rfl) rfl,trivial⟩ ⟨frOne rfl rfl,trivial⟩ trivial rfl rfl (ho1 ⟨_,rfl⟩) (hu1 rfl) rfl rfl ?_
       refine gX trivial rfl rfl rfl rfl rfl rfl rfl rfl (by omega) (by omega) rI_ne ?_
       refine gT trivial rfl rfl rfl rfl rfl rfl rfl rfl rfl rfl (kI (by omega) (by omega)) (sI (by omega) (by omega)) ?_
       refine rg_nil (fun _=>by kernel_rfl) ?_
       refine vc_seq ?_
       refine vc_region hm ?_
       refine gL trivial rfl rfl rfl rfl rfl rfl rfl rfl ?_
       refine gT trivial rfl rfl rfl rfl rfl rfl rfl rfl rfl rfl (Nat.le_of_ble_eq_true rfl) rfl ?_
       refine rg_nil nofun ?_
       refine vc_re (S2:=⟨16,[(4,.pointer (some ⟨8,0,none⟩))],[(1,true,one ⟨[.slice (some ⟨0,k,none⟩) n 0,.int .i64 (p + 1 + 1)],83,2⟩),(8,true,one ⟨[.slice (some ⟨9,0,none⟩) s.now.length 0,.slice (some ⟨10,0,none⟩) s.sure.length 0,.slice (some ⟨11,0,none⟩) s.last.length 0,.slice (some ⟨12,0,none⟩) s.slast.length 0,.slice (some ⟨13,0,none⟩) s.fl.length 0],26,5⟩),(9,true,one ⟨hls 0 (rS (⟨s.now,s.sure,s.last,s.slast,s.fl.set (Int.toNat 0) x15⟩:Stv).now),9,0⟩),(10,true,one ⟨rS (⟨s.now,s.sure,s.last,s.slast,s.fl.set (Int.toNat 0) x15⟩:Stv).sure,9,77⟩),(11,true,one ⟨rI (⟨s.now,s.sure,s.last,s.slast,s.fl.set (Int.toNat 0) x15⟩:Stv).last,3,77⟩),(12,true,one ⟨rI (⟨s.now,s.sure,s.last,s.slast,s.fl.set (Int.toNat 0) x15⟩:Stv).slast,3,77⟩),(13,true,one ⟨rI (⟨s.now,s.sure,s.last,s.slast,s.fl.set (Int.toNat 0) x15⟩:Stv).fl,3,77⟩)]⟩) (re_nil (ms:=[0,1,2,3,4,5,6,7,8,9,10,11,12,13,14,15]) (C:=999) rfl ⟨⟨⟨rfl,rfl⟩,rfl⟩,trivial⟩ ⟨ktRow rfl rfl rfl (BlkW.refl _) id rfl,ktRow rfl rfl rfl ⟨.inl rfl,fun _=>rfl,.inr (.inl rfl),fun q=>(by cases q)⟩ id rfl,ktFlat (hls_flat (rS_flat _)) rfl (.inl rfl) id rfl,ktFlat (rS_flat _) rfl (.inr (.inr ⟨Nat.le_of_ble_eq_true rfl,Nat.le_of_ble_eq_true rfl,fun q=>absurd q (Nat.succ_ne_zero _)⟩)) id rfl,ktFlat (rI_flat _) rfl (.inr (.inr ⟨Nat.le_of_ble_eq_true rfl,Nat.le_of_ble_eq_true rfl,fun q=>absurd q (Nat.succ_ne_zero _)⟩)) id rfl,ktFlat (rI_flat _) rfl (.inr (.inr ⟨Nat.le_of_ble_eq_true rfl,Nat.le_of_ble_eq_true rfl,fun q=>absurd q (Nat.succ_ne_zero _)⟩)) id rfl,ktFlat (rI_flat _) rfl (.inr (.inr ⟨Nat.le_of_ble_eq_true rfl,Nat.le_of_ble_eq_true rfl,fun q=>absurd q (Nat.succ_ne_zero _)⟩)) id rfl,trivial⟩ rfl rfl (rig_of rfl) rfl) ?_
       refine vc_ret ?_
       exact ⟨mkF (.agg #[.slice (some ⟨7,0,none⟩) (⟨s.now,s.sure,s.last,s.slast,s.fl.set (Int.toNat 0) x15⟩:Stv).now.length 0,.slice (some ⟨8,0,none⟩) (⟨s.now,s.sure,s.last,s.slast,s.fl.set (Int.toNat 0) x15⟩:Stv).sure.length 0,.slice (some ⟨9,0,none⟩) (⟨s.now,s.sure,s.last,s.slast,s.fl.set (Int.toNat 0) x15⟩:Stv).last.length 0,.slice (some ⟨10,0,none⟩) (⟨s.now,s.sure,s.last,s.slast,s.fl.set (Int.toNat 0) x15⟩:Stv).slast.length 0,.slice (some ⟨11,0,none⟩) (⟨s.now,s.sure,s.last,s.slast,s.fl.set (Int.toNat 0) x15⟩:Stv).fl.length 0]) [0,2,3,4,5,6] [(1,one ⟨[.slice (some ⟨0,k,none⟩) n 0,.int .i64 (p + 1 + 1)],83,2⟩)] [(7,one ⟨hls 0 (rS (⟨s.now,s.sure,s.last,s.slast,s.fl.set (Int.toNat 0) x15⟩:Stv).now),9,0⟩),(8,one ⟨rS (⟨s.now,s.sure,s.last,s.slast,s.fl.set (Int.toNat 0) x15⟩:Stv).sure,9,77⟩),(9,one ⟨rI (⟨s.now,s.sure,s.last,s.slast,s.fl.set (Int.toNat 0) x15⟩:Stv).last,3,77⟩),(10,one ⟨rI (⟨s.now,s.sure,s.last,s.slast,s.fl.set (Int.toNat 0) x15⟩:Stv).slast,3,77⟩),(11,one ⟨rI (⟨s.now,s.sure,s.last,s.slast,s.fl.set (Int.toNat 0) x15⟩:Stv).fl,3,77⟩)],_,endsT [(7,9,one ⟨hls 0 (rS (⟨s.now,s.sure,s.last,s.slast,s.fl.set (Int.toNat 0) x15⟩:Stv).now),9,0⟩),(8,10,one ⟨rS (⟨s.now,s.sure,s.last,s.slast,s.fl.set (Int.toNat 0) x15⟩:Stv).sure,9,77⟩),(9,11,one ⟨rI (⟨s.now,s.sure,s.last,s.slast,s.fl.set (Int.toNat 0) x15⟩:Stv).last,3,77⟩),(10,12,one ⟨rI (⟨s.now,s.sure,s.last,s.slast,s.fl.set (Int.toNat 0) x15⟩:Stv).slast,3,77⟩),(11,13,one ⟨rI (⟨s.now,s.sure,s.last,s.slast,s.fl.set (Int.toNat 0) x15⟩:Stv).fl,3,77⟩)] (.inr rfl) ((.cell rfl rfl rfl rfl rfl .nil)) (by rw [List.length_set];rfl) rfl ⟨upOne rfl rfl rfl,trivial⟩ ⟨asFlat rfl (hls_flat (rS_flat (⟨s.now,s.sure,s.last,s.slast,s.fl.set (Int.toNat 0) x15⟩:Stv).now)),asFlat rfl (rS_flat (⟨s.now,s.sure,s.last,s.slast,s.fl.set (Int.toNat 0) x15⟩:Stv).sure),asFlat rfl (rI_flat (⟨s.now,s.sure,s.last,s.slast,s.fl.set (Int.toNat 0) x15⟩:Stv).last),asFlat rfl (rI_flat (⟨s.now,s.sure,s.last,s.slast,s.fl.set (Int.toNat 0) x15⟩:Stv).slast),asFlat rfl (rI_flat (⟨s.now,s.sure,s.last,s.slast,s.fl.set (Int.toNat 0) x15⟩:Stv).fl),trivial⟩ rfl,(⟨s.now,s.sure,s.last,s.slast,s.fl.set (Int.toNat 0) x15⟩:Stv),0,0,_,(bn_4 hb (by omega)),(by omega),(by omega),rfl⟩
      ·skip
       have p69:=of_decide_eq_false c69
       refine vc_skip ?_
       refine vc_seq ?_
       refine vc_region hm ?_
       refine gL trivial rfl rfl rfl rfl rfl rfl rfl rfl ?_
       refine gT trivial rfl rfl rfl rfl rfl rfl rfl rfl rfl rfl (Nat.le_of_ble_eq_true rfl) rfl ?_
       refine rg_nil nofun ?_
       refine vc_re (S2:=⟨15,[(4,.pointer (some ⟨8,0,none⟩))],[(1,true,one ⟨[.slice (some ⟨0,k,none⟩) n 0,.int .i64 (p + 1)],83,2⟩),(8,true,one ⟨[.slice (some ⟨9,0,none⟩) s.now.length 0,.slice (some ⟨10,0,none⟩) s.sure.length 0,.slice (some ⟨11,0,none⟩) s.last.length 0,.slice (some ⟨12,0,none⟩) s.slast.length 0,.slice (some ⟨13,0,none⟩) s.fl.length 0],26,5⟩),(9,true,one ⟨hls 0 (rS s.now),9,0⟩),(10,true,one ⟨rS s.sure,9,77⟩),(11,true,one ⟨rI s.last,3,77⟩),(12,true,one ⟨rI s.slast,3,77⟩),(13,true,one ⟨rI s.fl,3,77⟩)]⟩) (re_nil (ms:=[0,1,2,3,4,5,6,7,8,9,10,11,12,13,14]) (C:=999) rfl ⟨⟨⟨rfl,rfl⟩,rfl⟩,trivial⟩ ⟨ktRow rfl rfl rfl (BlkW.refl _) id rfl,ktRow rfl rfl rfl ⟨.inl rfl,fun _=>rfl,.inr (.inl rfl),fun q=>(by cases q)⟩ id rfl,ktFlat (hls_flat (rS_flat _)) rfl (.inl rfl) id rfl,ktFlat (rS_flat _) rfl (.inr (.inr ⟨Nat.le_of_ble_eq_true rfl,Nat.le_of_ble_eq_true rfl,fun q=>absurd q (Nat.succ_ne_zero _)⟩)) id rfl,ktFlat (rI_flat _) rfl (.inr (.inr ⟨Nat.le_of_ble_eq_true rfl,Nat.le_of_ble_eq_true rfl,fun q=>absurd q (Nat.succ_ne_zero _)⟩)) id rfl,ktFlat (rI_flat _) rfl (.inr (.inr ⟨Nat.le_of_ble_eq_true rfl,Nat.le_of_ble_eq_true rfl,fun q=>absurd q (Nat.succ_ne_zero _)⟩)) id rfl,ktFlat (rI_flat _) rfl (.inr (.inr ⟨Nat.le_of_ble_eq_true rfl,Nat.le_of_ble_eq_true rfl,fun q=>absurd q (Nat.succ_ne_zero _)⟩)) id rfl,trivial⟩ rfl rfl (rig_of rfl) rfl) ?_
       refine vc_ret ?_
       exact ⟨mkF (.agg #[.slice (some ⟨7,0,none⟩) s.now.length 0,.slice (some ⟨8,0,none⟩) s.sure.length 0,.slice (some ⟨9,0,none⟩) s.last.length 0,.slice (some ⟨10,0,none⟩) s.slast.length 0,.slice (some ⟨11,0,none⟩) s.fl.length 0]) [0,2,3,4,5,6] [(1,one ⟨[.slice (some ⟨0,k,none⟩) n 0,.int .i64 (p + 1)],83,2⟩)] [(7,one ⟨hls 0 (rS s.now),9,0⟩),(8,one ⟨rS s.sure,9,77⟩),(9,one ⟨rI s.last,3,77⟩),(10,one ⟨rI s.slast,3,77⟩),(11,one ⟨rI s.fl,3,77⟩)],_,endsT [(7,9,one ⟨hls 0 (rS s.now),9,0⟩),(8,10,one ⟨rS s.sure,9,77⟩),(9,11,one ⟨rI s.last,3,77⟩),(10,12,one ⟨rI s.slast,3,77⟩),(11,13,one ⟨rI s.fl,3,77⟩)] (.inr rfl) ((.cell rfl rfl rfl rfl rfl .nil)) rfl rfl ⟨upOne rfl rfl rfl,trivial⟩ ⟨asFlat rfl (hls_flat (rS_flat s.now)),asFlat rfl (rS_flat s.sure),asFlat rfl (rI_flat s.last),asFlat rfl (rI_flat s.slast),asFlat rfl (rI_flat s.fl),trivial⟩ rfl,s,0,0,_,hb,(by omega),(by omega),rfl⟩
     ·skip
      have p64:=ne_of_beq_false c64
      refine vc_seq ?_
      refine vc_region hm ?_
      refine gI trivial rfl rfl rfl rfl rfl rfl ?_
      refine gM trivial (.inr rfl) rfl rfl rfl ?_
      refine rg_nil nofun ?_
      refine cI rfl (fun c76=>?_) (fun c76=>?_)
      ·skip
       have p76:=eq_of_beq c76
       refine vc_region hm ?_
       refine gF trivial rfl rfl rfl rfl rfl ?_
       refine gT trivial rfl rfl rfl rfl rfl rfl rfl rfl rfl rfl (Nat.le_of_ble_eq_true rfl) rfl ?_
       refine rg_nil nofun ?_
       refine vc_seq ?_
       refine vc_region hm ?_
       refine gL trivial rfl rfl rfl rfl rfl rfl rfl rfl ?_
       refine gT trivial rfl rfl rfl rfl rfl rfl rfl rfl rfl rfl (Nat.le_of_ble_eq_true rfl) rfl ?_
       refine rg_nil nofun ?_
       refine vc_re (S2:=⟨16,[(4,.pointer (some ⟨8,0,none⟩))],[(1,true,one ⟨[.slice (some ⟨0,k,none⟩) n 0,.int .i64 (p + 1)],83,2⟩),(8,true,one ⟨[.slice (some ⟨9,0,none⟩) s.now.length 0,.slice (some ⟨10,0,none⟩) s.sure.length 0,.slice (some ⟨11,0,none⟩) s.last.length 0,.slice (some ⟨12,0,none⟩) s.slast.length 0,.slice (some ⟨15,0,none⟩) 0 0],26,5⟩),(9,true,one ⟨hls 0 (rS (⟨s.now,s.sure,s.last,s.slast,[]⟩:Stv).now),9,0⟩),(10,true,one ⟨rS (⟨s.now,s.sure,s.last,s.slast,[]⟩:Stv).sure,9,77⟩),(11,true,one ⟨rI (⟨s.now,s.sure,s.last,s.slast,[]⟩:Stv).last,3,77⟩),(12,true,one ⟨rI (⟨s.now,s.sure,s.last,s.slast,[]⟩:Stv).slast,3,77⟩),(15,true,one ⟨rI (⟨s.now,s.sure,s.last,s.slast,[]⟩:Stv).fl,3,77⟩)]⟩) (re_nil (ms:=[0,1,2,3,4,5,6,7,8,9,10,11,12,13,14]) (C:=15) rfl ⟨⟨⟨rfl,rfl⟩,rfl⟩,trivial⟩ ⟨ktRow rfl rfl rfl (BlkW.refl _) id rfl,ktRow rfl rfl rfl ⟨.inl rfl,fun _=>rfl,.inr (.inl rfl),fun q=>(by cases q)⟩ id rfl,ktFlat (hls_flat (rS_flat _)) rfl (.inl rfl) id rfl,ktFlat (rS_flat _) rfl (.inr (.inr ⟨Nat.le_of_ble_eq_true rfl,Nat.le_of_ble_eq_true rfl,fun q=>absurd q (Nat.succ_ne_zero _)⟩)) id rfl,ktFlat (rI_flat _) rfl (.inr (.inr ⟨Nat.le_of_ble_eq_true rfl,Nat.le_of_ble_eq_true rfl,fun q=>absurd q (Nat.succ_ne_zero _)⟩)) id rfl,ktFlat (rI_flat _) rfl (.inr (.inr ⟨Nat.le_of_ble_eq_true rfl,Nat.le_of_ble_eq_true rfl,fun q=>absurd q (Nat.succ_ne_zero _)⟩)) id rfl,ktC1 rfl (by decide) rfl,trivial⟩ rfl rfl (rig_of rfl) rfl) ?_
       refine vc_ret ?_
       exact ⟨mkF (.agg #[.slice (some ⟨7,0,none⟩) (⟨s.now,s.sure,s.last,s.slast,[]⟩:Stv).now.length 0,.slice (some ⟨8,0,none⟩) (⟨s.now,s.sure,s.last,s.slast,[]⟩:Stv).sure.length 0,.slice (some ⟨9,0,none⟩) (⟨s.now,s.sure,s.last,s.slast,[]⟩:Stv).last.length 0,.slice (some ⟨10,0,none⟩) (⟨s.now,s.sure,s.last,s.slast,[]⟩:Stv).slast.length 0,.slice (some ⟨11,0,none⟩) (⟨s.now,s.sure,s.last,s.slast,[]⟩:Stv).fl.length 0]) [0,2,3,4,5,6] [(1,one ⟨[.slice (some ⟨0,k,none⟩) n 0,.int .i64 (p + 1)],83,2⟩)] [(7,one ⟨hls 0 (rS (⟨s.now,s.sure,s.last,s.slast,[]⟩:Stv).now),9,0⟩),(8,one ⟨rS (⟨s.now,s.sure,s.last,s.slast,[]⟩:Stv).sure,9,77⟩),(9,one ⟨rI (⟨s.now,s.sure,s.last,s.slast,[]⟩:Stv).last,3,77⟩),(10,one ⟨rI (⟨s.now,s.sure,s.last,s.slast,[]⟩:Stv).slast,3,77⟩),(11,one ⟨rI (⟨s.now,s.sure,s.last,s.slast,[]⟩:Stv).fl,3,77⟩)],_,endsT [(7,9,one ⟨hls 0 (rS (⟨s.now,s.sure,s.last,s.slast,[]⟩:Stv).now),9,0⟩),(8,10,one ⟨rS (⟨s.now,s.sure,s.last,s.slast,[]⟩:Stv).sure,9,77⟩),(9,11,one ⟨rI (⟨s.now,s.sure,s.last,s.slast,[]⟩:Stv).last,3,77⟩),(10,12,one ⟨rI (⟨s.now,s.sure,s.last,s.slast,[]⟩:Stv).slast,3,77⟩),(11,15,one ⟨rI (⟨s.now,s.sure,s.last,s.slast,[]⟩:Stv).fl,3,77⟩)] (.inr rfl) ((.cell rfl rfl rfl rfl rfl .nil)) rfl rfl ⟨upOne rfl rfl rfl,trivial⟩ ⟨asFlat rfl (hls_flat (rS_flat (⟨s.now,s.sure,s.last,s.slast,[]⟩:Stv).now)),asFlat rfl (rS_flat (⟨s.now,s.sure,s.last,s.slast,[]⟩:Stv).sure),asFlat rfl (rI_flat (⟨s.now,s.sure,s.last,s.slast,[]⟩:Stv).last),asFlat rfl (rI_flat (⟨s.now,s.sure,s.last,s.slast,[]⟩:Stv).slast),asFlat rfl (rI_flat (⟨s.now,s.sure,s.last,s.slast,[]⟩:Stv).fl),trivial⟩ rfl,(⟨s.now,s.sure,s.last,s.slast,[]⟩:Stv),0,0,_,(bn_5 hb),(by omega),(by omega),rfl⟩
      ·skip
       have p76:=ne_of_beq_false c76
       refine vc_skip ?_
       refine vc_seq ?_
       refine vc_region hm ?_
       refine gL trivial rfl rfl rfl rfl rfl rfl rfl rfl ?_
       refine gT trivial rfl rfl rfl rfl rfl rfl rfl rfl rfl rfl (Nat.le_of_ble_eq_true rfl) rfl ?_
       refine rg_nil nofun ?_
       refine vc_re (S2:=⟨15,[(4,.pointer (some ⟨8,0,none⟩))],[(1,true,one ⟨[.slice (some ⟨0,k,none⟩) n 0,.int .i64 (p + 1)],83,2⟩),(8,true,one ⟨[.slice (some ⟨9,0,none⟩) s.now.length 0,.slice (some ⟨10,0,none⟩) s.sure.length 0,.slice (some ⟨11,0,none⟩) s.last.length 0,.slice (some ⟨12,0,none⟩) s.slast.length 0,.slice (some ⟨13,0,none⟩) s.fl.length 0],26,5⟩),(9,true,one ⟨hls 0 (rS s.now),9,0⟩),(10,true,one ⟨rS s.sure,9,77⟩),(11,true,one ⟨rI s.last,3,77⟩),(12,true,one ⟨rI s.slast,3,77⟩),(13,true,one ⟨rI s.fl,3,77⟩)]⟩) (re_nil (ms:=[0,1,2,3,4,5,6,7,8,9,10,11,12,13,14]) (C:=999) rfl ⟨⟨⟨rfl,rfl⟩,rfl⟩,trivial⟩ ⟨ktRow rfl rfl rfl (BlkW.refl _) id rfl,ktRow rfl rfl rfl ⟨.inl rfl,fun _=>rfl,.inr (.inl rfl),fun q=>(by cases q)⟩ id rfl,ktFlat (hls_flat (rS_flat _)) rfl (.inl rfl) id rfl,ktFlat (rS_flat _) rfl (.inr (.inr ⟨Nat.le_of_ble_eq_true rfl,Nat.le_of_ble_eq_true rfl,fun q=>absurd q (Nat.succ_ne_zero _)⟩)) id rfl,ktFlat (rI_flat _) rfl (.inr (.inr ⟨Nat.le_of_ble_eq_true rfl,Nat.le_of_ble_eq_true rfl,fun q=>absurd q (Nat.succ_ne_zero _)⟩)) id rfl,ktFlat (rI_flat _) rfl (.inr (.inr ⟨Nat.le_of_ble_eq_true rfl,Nat.le_of_ble_eq_true rfl,fun q=>absurd q (Nat.succ_ne_zero _)⟩)) id rfl,ktFlat (rI_flat _) rfl (.inr (.inr ⟨Nat.le_of_ble_eq_true rfl,Nat.le_of_ble_eq_true rfl,fun q=>absurd q (Nat.succ_ne_zero _)⟩)) id rfl,trivial⟩ rfl rfl (rig_of rfl) rfl) ?_
       refine vc_ret ?_
       exact ⟨mkF (.agg #[.slice (some ⟨7,0,none⟩) s.now.length 0,.slice (some ⟨8,0,none⟩) s.sure.length 0,.slice (some ⟨9,0,none⟩) s.last.length 0,.slice (some ⟨10,0,none⟩) s.slast.length 0,.slice (some ⟨11,0,none⟩) s.fl.length 0]) [0,2,3,4,5,6] [(1,one ⟨[.slice (some ⟨0,k,none⟩) n 0,.int .i64 (p + 1)],83,2⟩)] [(7,one ⟨hls 0 (rS s.now),9,0⟩),(8,one ⟨rS s.sure,9,77⟩),(9,one ⟨rI s.last,3,77⟩),(10,one ⟨rI s.slast,3,77⟩),(11,one ⟨rI s.fl,3,77⟩)],_,endsT [(7,9,one ⟨hls 0 (rS s.now),9,0⟩),(8,10,one ⟨rS s.sure,9,77⟩),(9,11,one ⟨rI s.last,3,77⟩),(10,12,one ⟨rI s.slast,3,77⟩),(11,13,one ⟨rI s.fl,3,77⟩)] (.inr rfl) ((.cell rfl rfl rfl rfl rfl .nil)) rfl rfl ⟨upOne rfl rfl rfl,trivial⟩ ⟨asFlat rfl (hls_flat (rS_flat s.now)),asFlat rfl (rS_flat s.sure),asFlat rfl (rI_flat s.last),asFlat rfl (rI_flat s.slast),asFlat rfl (rI_flat s.fl),trivial⟩ rfl,s,0,0,_,hb,(by omega),(by omega),rfl⟩
theorem rRq_snoc {l:List Rq} {q:Rq}:rRq l ++ eRq q=rRq (l ++ [q]):=row_snoc (enc:=eRq) (x:=q)
theorem rq_snoc {l:List Rq} {q:Rq} (h:∀ x ∈ l,x.d.size≤16) (hq:q.d.size≤16):∀ x ∈ l ++ [q],x.d.size≤16:=fun x hx=>by
 rcases List.mem_append.1 hx with h1|h1
 ·exact h x h1
 ·rw [List.mem_singleton.1 h1];exact hq
theorem list5_c {l:List Int} {k n t0:Nat} {p:Int} (hl:ByL l) (hn:n≤l.length) (hp0:0≤p) (hp1:p≤980000) {s:Stv} {kk cc:Nat} (hb:DrB s):∃ E,FDoes Try.prog 48 [.pointer (some ⟨1,0,none⟩),.agg #[.slice (some ⟨2,kk,none⟩) s.now.length cc,.slice (some ⟨3,0,none⟩) s.sure.length 0,.slice (some ⟨4,0,none⟩) s.last.length 0,.slice (some ⟨5,0,none⟩) s.slast.length 0,.slice (some ⟨6,0,none⟩) s.fl.length 0]] (hp [(0,false,one ⟨hls k (rY l),t0,0⟩),(1,true,one ⟨[.slice (some ⟨0,k,none⟩) n 0,.int .i64 (p)],83,2⟩),(2,false,one ⟨hls kk (rS s.now),9,0⟩),(3,false,one ⟨rS s.sure,9,0⟩),(4,false,one ⟨rI s.last,3,0⟩),(5,false,one ⟨rI s.slast,3,0⟩),(6,false,one ⟨rI s.fl,3,0⟩)]) E∧∃ (out:List Rq) (p2:Int),out.length≤8∧(∀ x ∈ out,x.d.size≤16)∧p≤p2∧p2≤p + 300∧E=mkF (.slice (some ⟨7,0,none⟩) out.length 0) [0,2,3,4,5,6] [(1,one ⟨[.slice (some ⟨0,k,none⟩) n 0,.int .i64 (p2)],83,2⟩)] [(7,one ⟨rRq out,52,6⟩)]:=by
 have hm:Try.prog.follows .mixedOrders=true:=by kernel_rfl
 have hd_:∀ x_ ∈ ([(0,false,one ⟨hls k (rY l),t0,0⟩),(1,true,one ⟨[.slice (some ⟨0,k,none⟩) n 0,.int .i64 (p)],83,2⟩),(2,false,one ⟨hls kk (rS s.now),9,0⟩),(3,false,one ⟨rS s.sure,9,0⟩),(4,false,one ⟨rI s.last,3,0⟩),(5,false,one ⟨rI s.slast,3,0⟩),(6,false,one ⟨rI s.fl,3,0⟩)]:List (Nat × Bool × Fam)),∀ k_ y_,x_.2.2 k_=some y_→DetB (lt 7) y_:=by
  intro x_ hx k_ y_ e
  simp only [List.mem_cons,List.not_mem_nil,or_false] at hx
  rcases hx with rfl|rfl|rfl|rfl|rfl|rfl|rfl
  ·exact det_code e
  ·exact det_ok rfl e
  ·exact det_row (hls_flat (rS_flat s.now)) e
  ·exact det_row (rS_flat s.sure) e
  ·exact det_row (rI_flat s.last) e
  ·exact det_row (rI_flat s.slast) e
  ·exact det_row (rI_flat s.fl) e
 refine fn_some (u0:=7) Try.func48 rfl rfl (gets rfl rfl rfl hd_ rfl) ?_
 clear hd_
 refine vc_seq ?_
 refine vc_region hm ?_
 refine gB (u':=8) trivial rfl rfl rfl rfl rfl rfl rfl rfl ?_
 refine gM trivial (.inr rfl) rfl rfl rfl ?_
 refine rg_nil nofun ?_
 refine vc_seq ?_
 refine vc_region hm ?_
 refine gR (u':=9) (out:=rRq []) trivial rfl rfl rfl rfl rfl rfl rfl rfl rfl rfl rfl rfl rfl rfl ?_
 refine gM trivial (.inr rfl) rfl rfl rfl ?_
 refine rg_nil nofun ?_
 refine vc_seq ?_
 refine vc_seq ?_
 refine vc_region hm ?_
 refine gM trivial (.inl rfl) rfl rfl rfl ?_
 refine gR (u':=10) (out:=rI [3,5,8,1,0]) trivial rfl rfl rfl rfl rfl rfl rfl rfl rfl rfl rfl rfl rfl rfl ?_
 obtain ⟨E1,hE1,x1,x1a,x1b,rfl⟩:=num_c (k:=k) (t0:=t0) (p:=p) hl hn (by omega) (by omega) (L:=[3,5,8,1,0]) (a:=0) (b:=8) (by decide) (by decide)
 refine gCF (ups':=[(1,one ⟨[.slice (some ⟨0,k,none⟩) n 0,.int .i64 (p + 1)],83,2⟩)]) (as':=[]) (v':=.int .i64 x1) 10 [0,1,9] hE1 trivial rfl rfl rfl rfl ⟨rCode rfl rfl,rCells rfl ⟨rfl,rfl,.inr rfl⟩ rfl,rFlat (rI_flat _) rfl (.inl rfl) rfl,trivial⟩ ⟨frOne rfl rfl,trivial⟩ trivial rfl rfl (ho1 ⟨_,rfl⟩) (hu1 rfl) rfl rfl ?_
 refine gM trivial (.inr rfl) rfl rfl rfl ?_
 refine rg_nil nofun ?_
 refine vc_block ?_
 refine vc_loopT (fun n_ S_=>∃ (s2:Stv) (k2 c2:Nat) (out:List Rq) (i q:Int),DrB s2∧(∀ x ∈ out,x.d.size≤16)∧0≤i∧(out.length:Int) + i≤8∧p≤q∧q≤p + 1 + 25 * (8 - i)∧n_=i.toNat∧S_=⟨14,[(0,.pointer (some ⟨1,0,none⟩)),(3,.pointer (some ⟨7,0,none⟩)),(5,.slice (some ⟨8,0,none⟩) out.length 0),(6,.int .i64 i)],[(0,false,one ⟨hls k (rY l),t0,0⟩),(1,true,one ⟨[.slice (some ⟨0,k,none⟩) n 0,.int .i64 (q)],83,2⟩),(7,true,one ⟨[.slice (some ⟨9,k2,none⟩) s2.now.length c2,.slice (some ⟨10,0,none⟩) s2.sure.length 0,.slice (some ⟨11,0,none⟩) s2.last.length 0,.slice (some ⟨12,0,none⟩) s2.slast.length 0,.slice (some ⟨13,0,none⟩) s2.fl.length 0],26,5⟩),(8,true,one ⟨rRq out,52,6⟩),(9,false,one ⟨hls k2 (rS s2.now),9,0⟩),(10,false,one ⟨rS s2.sure,9,0⟩),(11,false,one ⟨rI s2.last,3,0⟩),(12,false,one ⟨rI s2.slast,3,0⟩),(13,false,one ⟨rI s2.fl,3,0⟩)]⟩) ⟨s,kk,cc,[],x1,p + 1,hb,(fun x hx=>nomatch hx),(by omega),(by show ((0:Nat):Int) + _≤8;omega),(by omega),(by omega),rfl,rfl⟩ (re_nil (ms:=[0,1,2,3,4,5,6,7,8,2,3,4,5,6]) (C:=999) rfl ⟨⟨⟨rfl,rfl⟩,rfl⟩,⟨⟨rfl,rfl⟩,rfl⟩,⟨⟨rfl,rfl⟩,rfl⟩,⟨⟨rfl,rfl⟩,rfl⟩,trivial⟩ ⟨ktCode rfl rfl,ktRow rfl rfl rfl (BlkW.refl _) id rfl,ktRow rfl rfl rfl ⟨.inl rfl,fun _=>rfl,.inr (.inl rfl),fun q=>(by cases q)⟩ id rfl,ktFlat (rRq_flat _) rfl (.inr (.inl rfl)) id rfl,ktFlat (hls_flat (rS_flat _)) rfl (.inl rfl) (fun h=>nomatch h) rfl,ktFlat (rS_flat _) rfl (.inl rfl) (fun h=>nomatch h) rfl,ktFlat (rI_flat _) rfl (.inl rfl) (fun h=>nomatch h) rfl,ktFlat (rI_flat _) rfl (.inl rfl) (fun h=>nomatch h) rfl,ktFlat (rI_flat _) rfl (.inl rfl) (fun h=>nomatch h) rfl,trivial⟩ rfl rfl (rig_of rfl) rfl) ?_
 rintro n_ S_ ⟨s2,k2,c2,out,i,q,hb2,ho,i0,i1,q0,q1,rfl,rfl⟩
 refine vc_seq ?_
 refine vc_seq ?_
 refine vc_region hm ?_
 refine gM trivial (.inl rfl) rfl rfl rfl ?_
 refine gI trivial rfl rfl rfl rfl rfl rfl ?_
 refine rg_nil nofun ?_
 refine cI rfl (fun c13=>?_) (fun c13=>?_)
 ·skip
  have p13:=of_decide_eq_true c13
  refine vc_skip ?_
  refine vc_seq ?_
  refine vc_block ?_
  refine vc_seq ?_
  refine vc_region hm ?_
  refine gM trivial (.inl rfl) rfl rfl rfl ?_
  refine gL trivial rfl rfl rfl rfl rfl rfl rfl rfl ?_
  obtain ⟨E3,hE3,rq3,p3,d3,r3a,r3b,rfl⟩:=ask_c (k:=k) (t0:=t0) (p:=q) hl hn (by omega) (by omega) (s:=s2) (kk:=k2) (cc:=c2) hb2
  refine gCF (ups':=[(1,one ⟨[.slice (some ⟨0,k,none⟩) n 0,.int .i64 (p3)],83,2⟩)]) (as':=[]) (v':=vRq rq3) 14 [0,1,9,10,11,12,13] hE3 trivial rfl rfl rfl rfl ⟨rCode rfl rfl,rCells rfl ⟨rfl,rfl,.inr rfl⟩ rfl,rFlat (hls_flat (rS_flat s2.now)) rfl (.inl rfl) rfl,rFlat (rS_flat s2.sure) rfl (.inl rfl) rfl,rFlat (rI_flat s2.last) rfl (.inl rfl) rfl,rFlat (rI_flat s2.slast) rfl (.inl rfl) rfl,rFlat (rI_flat s2.fl) rfl (.inl rfl) rfl,trivial⟩ ⟨frOne rfl rfl,trivial⟩ trivial rfl rfl (ho1 ⟨_,rfl⟩) (hu1 rfl) rfl rfl ?_
  refine gZ (u':=15) trivial rfl rfl rfl rfl rfl rfl rfl rfl ?_
  refine gT trivial rfl rfl rfl rfl rfl rfl rfl rfl rfl rfl (Nat.le_of_ble_eq_true rfl) rfl ?_
  refine rg_nil nofun ?_
  refine vc_joinT (fun S_=>∃ (rq:Rq) (q2:Int),rq.d.size≤16∧q≤q2∧q2≤q + 22∧S_=⟨15,[(0,.pointer (some ⟨1,0,none⟩)),(3,.pointer (some ⟨7,0,none⟩)),(5,.slice (some ⟨8,0,none⟩) out.length 0),(6,.int .i64 i),(7,.pointer (some ⟨14,0,none⟩))],[(0,false,one ⟨hls k (rY l),t0,0⟩),(1,true,one ⟨[.slice (some ⟨0,k,none⟩) n 0,.int .i64 (q2)],83,2⟩),(7,true,one ⟨[.slice (some ⟨9,k2,none⟩) s2.now.length c2,.slice (some ⟨10,0,none⟩) s2.sure.length 0,.slice (some ⟨11,0,none⟩) s2.last.length 0,.slice (some ⟨12,0,none⟩) s2.slast.length 0,.slice (some ⟨13,0,none⟩) s2.fl.length 0],26,5⟩),(8,true,one ⟨rRq out,52,6⟩),(9,false,one ⟨hls k2 (rS s2.now),9,0⟩),(10,false,one ⟨rS s2.sure,9,0⟩),(11,false,one ⟨rI s2.last,3,0⟩),(12,false,one ⟨rI s2.slast,3,0⟩),(13,false,one ⟨rI s2.fl,3,0⟩),(14,true,one ⟨[.int .i64 rq.who,.int .i64 rq.ep,.int .i64 rq.num,.int .i64 rq.obj,.int .i64 rq.a,.string rq.d],52,6⟩)]⟩) ?_ ?_
  ·skip
   refine vc_seq ?_
   refine vc_region hm ?_
   refine gM trivial (.inl rfl) rfl rfl rfl ?_
   refine gK trivial rfl rfl rfl rfl rfl rfl rRq_nil ?_
   refine gI trivial rfl rfl rfl rfl rfl rfl ?_
   refine gM trivial (.inl rfl) rfl rfl rfl ?_
   refine gI2 (d:=22) rfl (fun c22=>?_) (fun c22=>?_)
   ·skip
    have p22:=of_decide_eq_true c22
    refine gM ⟨_,_,rfl,rfl,c22⟩ (.inl rfl) rfl rfl rfl ?_
    obtain ⟨E5,hE5,x5,x5a,x5b,rfl⟩:=pick_c (k:=k) (t0:=t0) (p:=p3) hl hn (by omega) (by omega) (m:=5) (by omega) (by omega)
    refine gCF (ups':=[(1,one ⟨[.slice (some ⟨0,k,none⟩) n 0,.int .i64 (p3 + 1)],83,2⟩)]) (as':=[]) (v':=.int .i64 x5) 15 [0,1] hE5 ⟨_,_,rfl,rfl,c22⟩ rfl rfl rfl rfl ⟨rCode rfl rfl,rCells rfl ⟨rfl,rfl,.inr rfl⟩ rfl,trivial⟩ ⟨frOne rfl rfl,trivial⟩ trivial rfl rfl (ho1 ⟨_,rfl⟩) (hu1 rfl) rfl rfl ?_
    refine gI ⟨_,_,rfl,rfl,c22⟩ rfl rfl rfl rfl rfl rfl ?_
    refine gPT trivial rfl rfl c22 rfl rfl rfl ?_
    refine rg_nil nofun ?_
    refine cI rfl (fun c26=>?_) (fun c26=>?_)
    ·skip
     have p26:=eq_of_beq c26
     refine vc_region hm ?_
     refine gM trivial (.inl rfl) rfl rfl rfl ?_
     refine gM trivial (.inl rfl) rfl rfl rfl ?_
     refine gM trivial (.inl rfl) rfl rfl rfl ?_
     refine gK trivial rfl rfl rfl rfl rfl rfl rRq_nil ?_
     obtain ⟨E7,hE7,x7,x7a,x7b,rfl⟩:=pick_c (k:=k) (t0:=t0) (p:=p3 + 1) hl hn (by omega) (by omega) (m:=(out.length:Int)) (by omega) (by omega)
     refine gCF (ups':=[(1,one ⟨[.slice (some ⟨0,k,none⟩) n 0,.int .i64 (p3 + 1 + 1)],83,2⟩)]) (as':=[]) (v':=.int .i64 x7) 15 [0,1] hE7 trivial rfl rfl rfl rfl ⟨rCode rfl rfl,rCells rfl ⟨rfl,rfl,.inr rfl⟩ rfl,trivial⟩ ⟨frOne rfl rfl,trivial⟩ trivial rfl rfl (ho1 ⟨_,rfl⟩) (hu1 rfl) rfl rfl ?_
     refine gX trivial rfl rfl rfl rfl rfl rfl rfl rfl (by omega) (by omega) rRq_ne ?_
     refine gL trivial rfl rfl rfl rfl rfl rfl rfl (aRq (by omega) (by omega)) ?_
     refine gT trivial rfl rfl rfl rfl rfl rfl rfl rfl rfl rfl (Nat.le_of_ble_eq_true rfl) rfl ?_
     refine rg_nil nofun ?_
     exact jn_hereT ⟨(at_ out x7),p3 + 1 + 1,(ho _ (at_mem (by omega) (by omega))),(by omega),(by omega),rfl⟩ (re_nil (ms:=[0,1,2,3,4,5,6,7,8,9,10,11,12,13,14]) (C:=999) rfl ⟨⟨⟨rfl,rfl⟩,rfl⟩,⟨⟨rfl,rfl⟩,rfl⟩,⟨⟨rfl,rfl⟩,rfl⟩,⟨⟨rfl,rfl⟩,rfl⟩,⟨⟨rfl,rfl⟩,rfl⟩,trivial⟩ ⟨ktCode rfl rfl,ktRow rfl rfl rfl (BlkW.refl _) id rfl,ktRow rfl rfl rfl ⟨.inl rfl,fun _=>rfl,.inr (.inl rfl),fun q=>(by cases q)⟩ id rfl,ktFlat (rRq_flat _) rfl (.inr (.inl rfl)) id rfl,ktFlat (hls_flat (rS_flat _)) rfl (.inl rfl) (fun h=>nomatch h) rfl,ktFlat (rS_flat _) rfl (.inl rfl) (fun h=>nomatch h) rfl,ktFlat (rI_flat _) rfl (.inl rfl) (fun h=>nomatch h) rfl,ktFlat (rI_flat _) rfl (.inl rfl) (fun h=>nomatch h) rfl,ktFlat (rI_flat _) rfl (.inl rfl) (fun h=>nomatch h) rfl,ktRow rfl rfl rfl (BlkW.refl _) id rfl,trivial⟩ rfl rfl (rig_of rfl) rfl)
    ·skip
     have p26:=ne_of_beq_false c26
     refine vc_skip ?_
     exact jn_hereT ⟨rq3,p3 + 1,d3,(by omega),(by omega),rfl⟩ (re_nil (ms:=[0,1,2,3,4,5,6,7,8,9,10,11,12,13,14]) (C:=999) rfl ⟨⟨⟨rfl,rfl⟩,rfl⟩,⟨⟨rfl,rfl⟩,rfl⟩,⟨⟨rfl,rfl⟩,rfl⟩,⟨⟨rfl,rfl⟩,rfl⟩,⟨⟨rfl,rfl⟩,rfl⟩,trivial⟩ ⟨ktCode rfl rfl,ktRow rfl rfl rfl (BlkW.refl _) id rfl,ktRow rfl rfl rfl ⟨.inl rfl,fun _=>rfl,.inr (.inl rfl),fun q=>(by cases q)⟩ id rfl,ktFlat (rRq_flat _) rfl (.inr (.inl rfl)) id rfl,ktFlat (hls_flat (rS_flat _)) rfl (.inl rfl) (fun h=>nomatch h) rfl,ktFlat (rS_flat _) rfl (.inl rfl) (fun h=>nomatch h) rfl,ktFlat (rI_flat _) rfl (.inl rfl) (fun h=>nomatch h) rfl,ktFlat (rI_flat _) rfl (.inl rfl) (fun h=>nomatch h) rfl,ktFlat (rI_flat _) rfl (.inl rfl) (fun h=>nomatch h) rfl,ktRow rfl rfl rfl (BlkW.refl _) id rfl,trivial⟩ rfl rfl (rig_of rfl) rfl)
   ·skip
    have p22:=of_decide_eq_false c22
    refine gO ⟨_,_,rfl,rfl,c22⟩ rfl rfl ?_
    refine gO ⟨_,_,rfl,rfl,c22⟩ rfl rfl ?_
    refine gO ⟨_,_,rfl,rfl,c22⟩ rfl rfl ?_
    refine gPF trivial rfl rfl c22 rfl rfl rfl ?_
    refine rg_nil nofun ?_
    refine cF rfl rfl ?_
    refine vc_skip ?_
    exact jn_hereT ⟨rq3,p3,d3,(by omega),(by omega),rfl⟩ (re_nil (ms:=[0,1,2,3,4,5,6,7,8,9,10,11,12,13,14]) (C:=999) rfl ⟨⟨⟨rfl,rfl⟩,rfl⟩,⟨⟨rfl,rfl⟩,rfl⟩,⟨⟨rfl,rfl⟩,rfl⟩,⟨⟨rfl,rfl⟩,rfl⟩,⟨⟨rfl,rfl⟩,rfl⟩,trivial⟩ ⟨ktCode rfl rfl,ktRow rfl rfl rfl (BlkW.refl _) id rfl,ktRow rfl rfl rfl ⟨.inl rfl,fun _=>rfl,.inr (.inl rfl),fun q=>(by cases q)⟩ id rfl,ktFlat (rRq_flat _) rfl (.inr (.inl rfl)) id rfl,ktFlat (hls_flat (rS_flat _)) rfl (.inl rfl) (fun h=>nomatch h) rfl,ktFlat (rS_flat _) rfl (.inl rfl) (fun h=>nomatch h) rfl,ktFlat (rI_flat _) rfl (.inl rfl) (fun h=>nomatch h) rfl,ktFlat (rI_flat _) rfl (.inl rfl) (fun h=>nomatch h) rfl,ktFlat (rI_flat _) rfl (.inl rfl) (fun h=>nomatch h) rfl,ktRow rfl rfl rfl (BlkW.refl _) id rfl,trivial⟩ rfl rfl (rig_of rfl) rfl)
  ·rintro S_ ⟨rq,q2,hrq,r1,r2,rfl⟩
   refine vc_seq ?_
   refine vc_region hm ?_
   refine gM trivial (.inl rfl) rfl rfl rfl ?_
   refine gL trivial rfl rfl rfl rfl rfl rfl rfl rfl ?_
   refine gR (u':=16) (out:=rRq [rq]) trivial rfl rfl rfl rfl rfl rfl rfl rfl rfl rfl rfl rfl rfl rfl ?_
   refine gAp (u':=17) trivial rfl rfl rfl rfl rfl rfl rfl rfl rfl rfl rfl rfl (by rw [rowL_len (n:=6) (fun _=>rfl)]) (Nat.le_refl _) rfl (show (out.length + 1) * (56 + 1)≤140737488355328 by omega) rRq_snoc rfl ?_
   refine gM trivial (.inr rfl) rfl rfl rfl ?_
   refine rg_nil nofun ?_
   refine vc_seq ?_
   refine vc_region hm ?_
   refine gL trivial rfl rfl rfl rfl rfl rfl rfl rfl ?_
   refine gC0 [9,10,11,12,13] (spec_StoreOk_c (s:=s2) (kk:=k2) (cc:=c2) hb2.z) trivial rfl rfl rfl rfl ⟨rFlat (hls_flat (rS_flat s2.now)) rfl (.inl rfl) rfl,rFlat (rS_flat s2.sure) rfl (.inl rfl) rfl,rFlat (rI_flat s2.last) rfl (.inl rfl) rfl,rFlat (rI_flat s2.slast) rfl (.inl rfl) rfl,rFlat (rI_flat s2.fl) rfl (.inl rfl) rfl,trivial⟩ rfl rfl rfl rfl rfl ?_
   refine rg_nil nofun ?_
   refine cI rfl (fun c39=>?_) (fun c39=>?_)
   ·skip
    refine vc_region hm ?_
    refine gL trivial rfl rfl rfl rfl rfl rfl rfl rfl ?_
    refine gL trivial rfl rfl rfl rfl rfl rfl rfl rfl ?_
    obtain ⟨E9,hE9,x9,c9,d9,rfl⟩:=spec_StoreDo_c (s:=s2) (q:=rq) (kk:=k2) (cc:=c2) c39 (by omega)
    refine gCF (ups':=[]) (as':=[(17,one ⟨rS x9.now,9,1⟩),(18,one ⟨rS x9.sure,9,1⟩),(19,one ⟨rI x9.last,3,1⟩),(20,one ⟨rI x9.slast,3,1⟩),(21,one ⟨rI x9.fl,3,1⟩)]) (v':=.tuple #[.agg #[.slice (some ⟨17,0,none⟩) x9.now.length 0,.slice (some ⟨18,0,none⟩) x9.sure.length 0,.slice (some ⟨19,0,none⟩) x9.last.length 0,.slice (some ⟨20,0,none⟩) x9.slast.length 0,.slice (some ⟨21,0,none⟩) x9.fl.length 0],.int .i64 c9]) 22 [9,10,11,12,13,17,18,19,20,21] hE9 trivial rfl rfl rfl rfl ⟨rFlat (hls_flat (rS_flat s2.now)) rfl (.inl rfl) rfl,rFlat (rS_flat s2.sure) rfl (.inl rfl) rfl,rFlat (rI_flat s2.last) rfl (.inl rfl) rfl,rFlat (rI_flat s2.slast) rfl (.inl rfl) rfl,rFlat (rI_flat s2.fl) rfl (.inl rfl) rfl,trivial⟩ trivial ⟨frF (rS_flat x9.now) rfl,frF (rS_flat x9.sure) rfl,frF (rI_flat x9.last) rfl,frF (rI_flat x9.slast) rfl,frF (rI_flat x9.fl) rfl,trivial⟩ rfl rfl (fun x hx=>nomatch hx) (fun x hx=>nomatch hx) rfl rfl ?_
    refine gM trivial (.inl rfl) rfl rfl rfl ?_
    refine gE trivial rfl rfl rfl rfl rfl rfl ?_
    refine gE trivial rfl rfl rfl rfl rfl rfl ?_
    refine gT trivial rfl rfl rfl rfl rfl rfl rfl rfl rfl rfl (Nat.le_of_ble_eq_true rfl) rfl ?_
    refine rg_nil nofun ?_
    refine vc_region hm ?_
    refine gM trivial (.inl rfl) rfl rfl rfl ?_
    refine gA trivial rfl rfl rfl rfl rfl rfl (by omega) ?_
    refine gM trivial (.inr rfl) rfl rfl rfl ?_
    refine rg_nil nofun ?_
    exact lp_nextT ⟨x9,0,0,(out ++ [rq]),i - 1,q2,(dr_ok (do_k d9 c39)),(rq_snoc ho hrq),(by omega),(by rw [List.length_append];show ((out.length + 1:Nat):Int) + (i - 1)≤8;omega),(by omega),(by omega),rfl,rfl⟩ (by omega) (re_nil (ms:=[0,1,2,3,4,5,6,7,16,17,18,19,20,21]) (C:=999) rfl ⟨⟨⟨rfl,rfl⟩,rfl⟩,⟨⟨rfl,rfl⟩,rfl⟩,⟨⟨rfl,by rw [List.length_append];rfl⟩,rfl⟩,⟨⟨rfl,rfl⟩,rfl⟩,trivial⟩ ⟨ktCode rfl rfl,ktRow rfl rfl rfl (BlkW.refl _) id rfl,ktRow rfl rfl rfl ⟨.inl rfl,fun _=>rfl,.inr (.inl rfl),fun q=>(by cases q)⟩ id rfl,ktFlat (rRq_flat _) rfl (.inr (.inl rfl)) id rfl,ktFlat (hls_flat (rS_flat _)) rfl (.inl rfl) (fun h=>nomatch h) rfl,ktFlat (rS_flat _) rfl (.inl rfl) (fun h=>nomatch h) rfl,ktFlat (rI_flat _) rfl (.inl rfl) (fun h=>nomatch h) rfl,ktFlat (rI_flat _) rfl (.inl rfl) (fun h=>nomatch h) rfl,ktFlat (rI_flat _) rfl (.inl rfl) (fun h=>nomatch h) rfl,trivial⟩ rfl rfl (rig_of rfl) rfl)
   ·skip
    refine vc_skip ?_
    refine vc_region hm ?_
    refine gM trivial (.inl rfl) rfl rfl rfl ?_
    refine gA trivial rfl rfl rfl rfl rfl rfl (by omega) ?_
    refine gM trivial (.inr rfl) rfl rfl rfl ?_
    refine rg_nil nofun ?_
    exact lp_nextT ⟨s2,k2,c2,(out ++ [rq]),i - 1,q2,hb2,(rq_snoc ho hrq),(by omega),(by rw [List.length_append];show ((out.length + 1:Nat):Int) + (i - 1)≤8;omega),(by omega),(by omega),rfl,rfl⟩ (by omega) (re_nil (ms:=[0,1,2,3,4,5,6,7,16,9,10,11,12,13]) (C:=999) rfl ⟨⟨⟨rfl,rfl⟩,rfl⟩,⟨⟨rfl,rfl⟩,rfl⟩,⟨⟨rfl,by rw [List.length_append];rfl⟩,rfl⟩,⟨⟨rfl,rfl⟩,rfl⟩,trivial⟩ ⟨ktCode rfl rfl,ktRow rfl rfl rfl (BlkW.refl _) id rfl,ktRow rfl rfl rfl ⟨.inl rfl,fun _=>rfl,.inr (.inl rfl),fun q=>(by cases q)⟩ id rfl,ktFlat (rRq_flat _) rfl (.inr (.inl rfl)) id rfl,ktFlat (hls_flat (rS_flat _)) rfl (.inl rfl) (fun h=>nomatch h) rfl,ktFlat (rS_flat _) rfl (.inl rfl) (fun h=>nomatch h) rfl,ktFlat (rI_flat _) rfl (.inl rfl) (fun h=>nomatch h) rfl,ktFlat (rI_flat _) rfl (.inl rfl) (fun h=>nomatch h) rfl,ktFlat (rI_flat _) rfl (.inl rfl) (fun h=>nomatch h) rfl,trivial⟩ rfl rfl (rig_of rfl) rfl)
 ·skip
  have p13:=of_decide_eq_false c13
  refine vc_exit ?_
  refine vc_seq ?_
  refine vc_region hm ?_
  refine gM trivial (.inl rfl) rfl rfl rfl ?_
  refine gM trivial (.inr rfl) rfl rfl rfl ?_
  refine rg_nil nofun ?_
  refine vc_ret ?_
  exact ⟨mkF (.slice (some ⟨7,0,none⟩) out.length 0) [0,2,3,4,5,6] [(1,one ⟨[.slice (some ⟨0,k,none⟩) n 0,.int .i64 (q)],83,2⟩)] [(7,one ⟨rRq out,52,6⟩)],_,endsT [(7,8,one ⟨rRq out,52,6⟩)] (.inr rfl) (.tmp rfl rfl .nil) rfl rfl ⟨upOne rfl rfl rfl,trivial⟩ ⟨asFlat rfl (rRq_flat _),trivial⟩ rfl,out,_,(by omega),ho,(by omega),(by omega),rfl⟩
theorem drawAll_c {l:List Int} {k:Nat} (hl:ByL l):∃ E,FDoes Try.prog 15 [.slice (some ⟨0,k,none⟩) l.length 0] (hp [(0,false,one ⟨hls k (rY l),capT + l.length,0⟩)]) E∧∃ (s:Stv) (kk cc:Nat) (L:List Rq),DrB s∧L.length≤8∧(∀ x ∈ L,x.d.size≤16)∧E=mkF (.tuple #[.agg #[.slice (some ⟨1,kk,none⟩) s.now.length cc,.slice (some ⟨2,0,none⟩) s.sure.length 0,.slice (some ⟨3,0,none⟩) s.last.length 0,.slice (some ⟨4,0,none⟩) s.slast.length 0,.slice (some ⟨5,0,none⟩) s.fl.length 0],.slice (some ⟨6,0,none⟩) L.length 0]) [0] [] [(1,one ⟨hls kk (rS s.now),9,0⟩),(2,one ⟨rS s.sure,9,77⟩),(3,one ⟨rI s.last,3,77⟩),(4,one ⟨rI s.slast,3,77⟩),(5,one ⟨rI s.fl,3,77⟩),(6,one ⟨rRq L,52,6⟩)]:=by
 have hm:Try.prog.follows .mixedOrders=true:=by kernel_rfl
 have hd_:∀ x_ ∈ ([(0,false,one ⟨hls k (rY l),capT + l.length,0⟩)]:List (Nat × Bool × Fam)),∀ k_ y_,x_.2.2 k_=some y_→DetB (lt 1) y_:=by
  intro x_ hx k_ y_ e
  simp only [List.mem_cons,List.not_mem_nil,or_false] at hx
  subst hx
  exact det_code e
 refine fn_some (u0:=1) Try.func15 rfl rfl (gets rfl rfl rfl hd_ rfl) ?_
 clear hd_
 refine vc_seq ?_
 refine vc_region hm ?_
 refine gZ (u':=2) trivial rfl rfl rfl rfl rfl rfl rfl rfl ?_
 refine gM trivial (.inr rfl) rfl rfl rfl ?_
 refine rg_nil nofun ?_
 refine vc_seq ?_
 refine vc_region hm ?_
 refine gM trivial (.inl rfl) rfl rfl rfl ?_
 obtain ⟨En1,hEn1,n,hn,rfl⟩:=open_c (l:=l) (k:=k) hl
 have hp0:(0:Int)≤0:=Int.le_refl _
 refine gCF (ups':=[]) (as':=[(2,one ⟨[.slice (some ⟨0,k,none⟩) n 0,.int .i64 (0)],83,2⟩)]) (v':=.pointer (some ⟨2,0,none⟩)) 3 [0,2] hEn1 trivial rfl rfl rfl rfl ⟨rCode rfl rfl,trivial⟩ trivial ⟨frOne rfl rfl,trivial⟩ rfl rfl (fun x hx=>nomatch hx) (fun x hx=>nomatch hx) rfl rfl ?_
 refine gM trivial (.inr rfl) rfl rfl rfl ?_
 refine rg_nil nofun ?_
 refine vc_seq ?_
 refine vc_region hm ?_
 refine gM trivial (.inl rfl) rfl rfl rfl ?_
 refine gM trivial (.inl rfl) rfl rfl rfl ?_
 obtain ⟨E2,hE2,s2,p2,k2,q2a,q2b,rfl⟩:=some5_c (k:=k) (t0:=capT + l.length) (p:=0) hl hn (by omega) (by omega) 
 refine gCF (ups':=[(2,one ⟨[.slice (some ⟨0,k,none⟩) n 0,.int .i64 (p2)],83,2⟩)]) (as':=[(3,one ⟨rS s2.now,9,77⟩),(4,one ⟨rS s2.sure,9,77⟩),(5,one ⟨rI s2.last,3,77⟩),(6,one ⟨rI s2.slast,3,77⟩),(7,one ⟨rI s2.fl,3,77⟩)]) (v':=.agg #[.slice (some ⟨3,0,none⟩) s2.now.length 0,.slice (some ⟨4,0,none⟩) s2.sure.length 0,.slice (some ⟨5,0,none⟩) s2.last.length 0,.slice (some ⟨6,0,none⟩) s2.slast.length 0,.slice (some ⟨7,0,none⟩) s2.fl.length 0]) 8 [0,2,3,4,5,6,7] hE2 trivial rfl rfl rfl rfl ⟨rCode rfl rfl,rCells rfl ⟨rfl,rfl,.inr rfl⟩ rfl,trivial⟩ ⟨frOne rfl rfl,trivial⟩ ⟨frF (rS_flat s2.now) rfl,frF (rS_flat s2.sure) rfl,frF (rI_flat s2.last) rfl,frF (rI_flat s2.slast) rfl,frF (rI_flat s2.fl) rfl,trivial⟩ rfl rfl (ho1 ⟨_,rfl⟩) (hu1 rfl) rfl rfl ?_
 obtain ⟨E3,hE3,s3,kk3,cc3,p3,b3,q3a,q3b,rfl⟩:=bent5_c (k:=k) (t0:=capT + l.length) (p:=p2) hl hn (by omega) (by omega) (s:=s2) (kk:=0) (cc:=0) (dr_ok k2)
 refine gCF (ups':=[(2,one ⟨[.slice (some ⟨0,k,none⟩) n 0,.int .i64 (p3)],83,2⟩)]) (as':=[(8,one ⟨hls kk3 (rS s3.now),9,0⟩),(9,one ⟨rS s3.sure,9,77⟩),(10,one ⟨rI s3.last,3,77⟩),(11,one ⟨rI s3.slast,3,77⟩),(12,one ⟨rI s3.fl,3,77⟩)]) (v':=.agg #[.slice (some ⟨8,kk3,none⟩) s3.now.length cc3,.slice (some ⟨9,0,none⟩) s3.sure.length 0,.slice (some ⟨10,0,none⟩) s3.last.length 0,.slice (some ⟨11,0,none⟩) s3.slast.length 0,.slice (some ⟨12,0,none⟩) s3.fl.length 0]) 13 [0,2,3,4,5,6,7,8,9,10,11,12] hE3 trivial rfl rfl rfl rfl ⟨rCode rfl rfl,rCells rfl ⟨rfl,rfl,.inr rfl⟩ rfl,rFlat (hls_flat (rS_flat s2.now)) rfl (.inl rfl) rfl,rFlat (rS_flat s2.sure) rfl (.inl rfl) rfl,rFlat (rI_flat s2.last) rfl (.inl rfl) rfl,rFlat (rI_flat s2.slast) rfl (.inl rfl) rfl,rFlat (rI_flat s2.fl) rfl (.inl rfl) rfl,trivial⟩ ⟨frOne rfl rfl,trivial⟩ ⟨frF (hls_flat (rS_flat s3.now)) rfl,frF (rS_flat s3.sure) rfl,frF (rI_flat s3.last) rfl,frF (rI_flat s3.slast) rfl,frF (rI_flat s3.fl) rfl,trivial⟩ rfl rfl (ho1 ⟨_,rfl⟩) (hu1 rfl) rfl rfl ?_
 refine gZ (u':=14) trivial rfl rfl rfl rfl rfl rfl rfl rfl ?_
 refine gT trivial rfl rfl rfl rfl rfl rfl rfl rfl rfl rfl (Nat.le_of_ble_eq_true rfl) rfl ?_
 refine rg_nil nofun ?_
 refine vc_seq ?_
 refine vc_region hm ?_
 refine gL trivial rfl rfl rfl rfl rfl rfl rfl rfl ?_
 refine gM trivial (.inl rfl) rfl rfl rfl ?_
 refine gL trivial rfl rfl rfl rfl rfl rfl rfl rfl ?_
 obtain ⟨E4,hE4,L4,p4,L4a,L4b,q4a,q4b,rfl⟩:=list5_c (k:=k) (t0:=capT + l.length) (p:=p3) hl hn (by omega) (by omega) (s:=s3) (kk:=kk3) (cc:=cc3) b3
 refine gCF (ups':=[(2,one ⟨[.slice (some ⟨0,k,none⟩) n 0,.int .i64 (p4)],83,2⟩)]) (as':=[(14,one ⟨rRq L4,52,6⟩)]) (v':=.slice (some ⟨14,0,none⟩) L4.length 0) 15 [0,2,8,9,10,11,12,14] hE4 trivial rfl rfl rfl rfl ⟨rCode rfl rfl,rCells rfl ⟨rfl,rfl,.inr rfl⟩ rfl,rFlat (hls_flat (rS_flat s3.now)) rfl (.inl rfl) rfl,rFlat (rS_flat s3.sure) rfl (.inl rfl) rfl,rFlat (rI_flat s3.last) rfl (.inl rfl) rfl,rFlat (rI_flat s3.slast) rfl (.inl rfl) rfl,rFlat (rI_flat s3.fl) rfl (.inl rfl) rfl,trivial⟩ ⟨frOne rfl rfl,trivial⟩ ⟨frF (rRq_flat _) rfl,trivial⟩ rfl rfl (ho1 ⟨_,rfl⟩) (hu1 rfl) rfl rfl ?_
 refine gT trivial rfl rfl rfl rfl rfl rfl rfl rfl rfl rfl (Nat.le_of_ble_eq_true rfl) rfl ?_
 refine gM trivial (.inr rfl) rfl rfl rfl ?_
 refine rg_nil (fun _=>by kernel_rfl) ?_
 refine vc_ret ?_
 exact ⟨mkF (.tuple #[.agg #[.slice (some ⟨1,kk3,none⟩) s3.now.length cc3,.slice (some ⟨2,0,none⟩) s3.sure.length 0,.slice (some ⟨3,0,none⟩) s3.last.length 0,.slice (some ⟨4,0,none⟩) s3.slast.length 0,.slice (some ⟨5,0,none⟩) s3.fl.length 0],.slice (some ⟨6,0,none⟩) L4.length 0]) [0] [] [(1,one ⟨hls kk3 (rS s3.now),9,0⟩),(2,one ⟨rS s3.sure,9,77⟩),(3,one ⟨rI s3.last,3,77⟩),(4,one ⟨rI s3.slast,3,77⟩),(5,one ⟨rI s3.fl,3,77⟩),(6,one ⟨rRq L4,52,6⟩)],_,endsT [(1,8,one ⟨hls kk3 (rS s3.now),9,0⟩),(2,9,one ⟨rS s3.sure,9,77⟩),(3,10,one ⟨rI s3.last,3,77⟩),(4,11,one ⟨rI s3.slast,3,77⟩),(5,12,one ⟨rI s3.fl,3,77⟩),(6,14,one ⟨rRq L4,52,6⟩)] (.inr rfl) (.cell rfl rfl rfl rfl rfl (.tmp rfl rfl .nil)) rfl rfl trivial ⟨asFlat rfl (hls_flat (rS_flat s3.now)),asFlat rfl (rS_flat s3.sure),asFlat rfl (rI_flat s3.last),asFlat rfl (rI_flat s3.slast),asFlat rfl (rI_flat s3.fl),asFlat rfl (rRq_flat _),trivial⟩ rfl,s3,kk3,cc3,L4,b3,L4a,L4b,rfl⟩
theorem wpNums_c {a b:List Int} {ka ca kb cb:Nat} (hn:a.length≤1048576):FDoes Try.prog 18 [.slice (some ⟨0,ka,none⟩) a.length ca,.slice (some ⟨1,kb,none⟩) b.length cb] (hp [(0,false,one ⟨hls ka (rI a),3,0⟩),(1,false,one ⟨hls kb (rI b),3,0⟩)]) { v:=.bool (decide (a=b)),rd:=[0,1] }:=by
 have hm:Try.prog.follows .mixedOrders=true:=by kernel_rfl
 have hd_:∀ x_ ∈ ([(0,false,one ⟨hls ka (rI a),3,0⟩),(1,false,one ⟨hls kb (rI b),3,0⟩)]:List (Nat × Bool × Fam)),∀ k_ y_,x_.2.2 k_=some y_→DetB (lt 2) y_:=by
  intro x_ hx k_ y_ e
  simp only [List.mem_cons,List.not_mem_nil,or_false] at hx
  rcases hx with rfl|rfl
  ·exact det_row (hls_flat (rI_flat a)) e
  ·exact det_row (hls_flat (rI_flat b)) e
 refine fn_exact (u0:=2) Try.func18 rfl rfl (gets rfl rfl rfl hd_ rfl) ?_
 clear hd_
 refine vc_seq ?_
 refine vc_region hm ?_
 refine gM trivial (.inr rfl) rfl rfl rfl ?_
 refine rg_nil nofun ?_
 refine vc_seq ?_
 refine vc_seq ?_
 refine vc_region hm ?_
 refine gM trivial (.inl rfl) rfl rfl rfl ?_
 refine gK trivial rfl rfl rfl rfl rfl rfl (hls_nil rI_nil) ?_
 refine gM trivial (.inl rfl) rfl rfl rfl ?_
 refine gK trivial rfl rfl rfl rfl rfl rfl (hls_nil rI_nil) ?_
 refine gI trivial rfl rfl rfl rfl rfl rfl ?_
 refine rg_nil nofun ?_
 refine cI rfl (fun c10=>?_) (fun c10=>?_)
 ·skip
  have p10:=bne_iff_ne.1 c10
  refine vc_seq ?_
  refine vc_region hm ?_
  refine gM trivial (.inr rfl) rfl rfl rfl ?_
  refine rg_nil nofun ?_
  refine vc_ret ?_
  exact ⟨idm,ends0 (.inr rfl) rfl (eqB (decide_eq_false (ln_ne p10))) rfl rfl rfl⟩
 ·skip
  have p10:=bne_eq_false_iff_eq.1 c10
  refine vc_skip ?_
  refine vc_seq ?_
  refine vc_seq ?_
  refine vc_region hm ?_
  refine gM trivial (.inr rfl) rfl rfl rfl ?_
  refine rg_nil nofun ?_
  refine vc_block ?_
  have hl:a.length=b.length:=by omega
  refine vc_loop' (fun n_ S_=>∃ (j:Nat),j≤a.length∧a.take j=b.take j∧n_=a.length - j∧S_=⟨2,[(0,.slice (some ⟨0,ka,none⟩) a.length ca),(1,.slice (some ⟨1,kb,none⟩) b.length cb),(5,.int .i64 j)],[(0,false,one ⟨hls ka (rI a),3,0⟩),(1,false,one ⟨hls kb (rI b),3,0⟩)]⟩) (m0:=idm) ⟨0,Nat.zero_le _,rfl,rfl,rfl⟩ (le_mk rfl ⟨⟨rfl,rfl⟩,⟨rfl,rfl⟩,⟨rfl,rfl⟩,trivial⟩ ⟨kFlat (hls_flat (rI_flat a)) rfl id rfl,kFlat (hls_flat (rI_flat b)) rfl id rfl,trivial⟩ rfl (fun _ _=>rfl)) ?_
  rintro n_ S_ ⟨j,hj,hk,rfl,rfl⟩
  refine vc_seq ?_
  refine vc_seq ?_
  refine vc_region hm ?_
  refine gM trivial (.inl rfl) rfl rfl rfl ?_
  refine gM trivial (.inl rfl) rfl rfl rfl ?_
  refine gK trivial rfl rfl rfl rfl rfl rfl (hls_nil rI_nil) ?_
  refine gI trivial rfl rfl rfl rfl rfl rfl ?_
  refine rg_nil nofun ?_
  refine cI rfl (fun c14=>?_) (fun c14=>?_)
  ·skip
   have p14:=of_decide_eq_true c14
   refine vc_skip ?_
   refine vc_seq ?_
   refine vc_block ?_
   refine vc_seq ?_
   refine vc_region hm ?_
   refine gM trivial (.inl rfl) rfl rfl rfl ?_
   refine gM trivial (.inl rfl) rfl rfl rfl ?_
   refine gX trivial rfl rfl rfl rfl rfl rfl rfl rfl (by omega) (by omega) (fun h=>hls_ne (rI_ne h)) ?_
   refine gL trivial rfl rfl rfl rfl rfl rfl rfl (wR (lI (by omega) (by omega)) rfl) ?_
   refine gM trivial (.inl rfl) rfl rfl rfl ?_
   refine gM trivial (.inl rfl) rfl rfl rfl ?_
   refine gX trivial rfl rfl rfl rfl rfl rfl rfl rfl (by omega) (by omega) (fun h=>hls_ne (rI_ne h)) ?_
   refine gL trivial rfl rfl rfl rfl rfl rfl rfl (wR (lI (by omega) (by omega)) rfl) ?_
   refine gI trivial rfl rfl rfl rfl rfl rfl ?_
   refine rg_nil (fun _=>by kernel_rfl) ?_
   refine cI rfl (fun c25=>?_) (fun c25=>?_)
   ·skip
    have p25:=bne_iff_ne.1 c25
    refine vc_seq ?_
    refine vc_region hm ?_
    refine gM trivial (.inr rfl) rfl rfl rfl ?_
    refine rg_nil nofun ?_
    refine vc_ret ?_
    exact ⟨idm,ends0 (.inr rfl) rfl (eqB (decide_eq_false (at_ne p25))) rfl rfl rfl⟩
   ·skip
    have p25:=bne_eq_false_iff_eq.1 c25
    refine vc_skip ?_
    refine vc_region hm ?_
    refine gM trivial (.inl rfl) rfl rfl rfl ?_
    refine gA trivial rfl rfl rfl rfl rfl rfl (by omega) ?_
    refine gM trivial (.inr rfl) rfl rfl rfl ?_
    refine rg_nil nofun ?_
    exact lp_next (m:=idm) ⟨j + 1,(by omega),(take_step hk p14 hl p25),rfl,rfl⟩ (by omega) (le_mk rfl ⟨⟨rfl,rfl⟩,⟨rfl,rfl⟩,⟨rfl,rfl⟩,trivial⟩ ⟨kFlat (hls_flat (rI_flat a)) rfl id rfl,kFlat (hls_flat (rI_flat b)) rfl id rfl,trivial⟩ rfl (fun _ _=>rfl))
  ·skip
   have p14:=of_decide_eq_false c14
   refine vc_exit ?_
   refine vc_seq ?_
   refine vc_region hm ?_
   refine gM trivial (.inr rfl) rfl rfl rfl ?_
   refine rg_nil nofun ?_
   refine vc_ret ?_
   exact ⟨idm,ends0 (.inr rfl) rfl (eqB (decide_eq_true (take_all hk p14 hl))) rfl rfl rfl⟩
theorem eqnnS_c : FDoes Try.prog 55 [.slice none 0 0,.slice none 0 0] (hp []) { v:=.bool true }:=by
 have hm:Try.prog.follows .mixedOrders=true:=by kernel_rfl
 have hd_:∀ x ∈ ([]:List (Nat × Bool × Fam)),∀ k y,x.2.2 k=some y→DetB (lt 0) y:=fun x_ hx=>(by cases hx)
 refine fn_exact (u0:=0) Try.func55 rfl rfl (gets rfl rfl rfl hd_ rfl) ?_
 clear hd_
 refine vc_seq ?_
 refine vc_region hm ?_
 refine gM trivial (.inr rfl) rfl rfl rfl ?_
 refine rg_nil nofun ?_
 refine vc_seq ?_
 refine vc_seq ?_
 refine vc_region hm ?_
 refine gM trivial (.inl rfl) rfl rfl rfl ?_
 refine gKN trivial rfl rfl rfl rfl rfl ?_
 refine gM trivial (.inl rfl) rfl rfl rfl ?_
 refine gKN trivial rfl rfl rfl rfl rfl ?_
 refine gI trivial rfl rfl rfl rfl rfl rfl ?_
 refine rg_nil nofun ?_
 refine cF rfl rfl ?_
 refine vc_skip ?_
 refine vc_seq ?_
 refine vc_seq ?_
 refine vc_region hm ?_
 refine gM trivial (.inl rfl) rfl rfl rfl ?_
 refine gKN trivial rfl rfl rfl rfl rfl ?_
 refine gM trivial (.inl rfl) rfl rfl rfl ?_
 refine rg_nil nofun ?_
 refine vc_block ?_
 refine vc_loop' (fun n_ S_=>∃ (j:Nat),j=0∧n_=0∧S_=⟨0,[(0,.slice none 0 0),(1,.slice none 0 0),(12,.int .i64 (0:Nat)),(13,.int .i64 j)],[]⟩) (m0:=idm) ⟨0,rfl,rfl,rfl⟩ (le_mk rfl ⟨⟨rfl,rfl⟩,⟨rfl,rfl⟩,⟨rfl,rfl⟩,⟨rfl,rfl⟩,trivial⟩ trivial rfl (fun _ _=>rfl)) ?_
 rintro n_ S_ ⟨j,hj,rfl,rfl⟩
 refine vc_seq ?_
 refine vc_region hm ?_
 refine gI trivial rfl rfl rfl rfl rfl rfl ?_
 refine rg_nil nofun ?_
 refine vc_seq ?_
 refine cF rfl (decide_eq_false (by omega)) ?_
 refine vc_exit ?_
 refine vc_seq ?_
 refine vc_region hm ?_
 refine gM trivial (.inr rfl) rfl rfl rfl ?_
 refine rg_nil nofun ?_
 refine vc_ret ?_
 exact ⟨idm,ends0 (.inr rfl) rfl (eqB rfl) rfl rfl rfl⟩
theorem eqnnI_c : FDoes Try.prog 56 [.slice none 0 0,.slice none 0 0] (hp []) { v:=.bool true }:=by
 have hm:Try.prog.follows .mixedOrders=true:=by kernel_rfl
 have hd_:∀ x ∈ ([]:List (Nat × Bool × Fam)),∀ k y,x.2.2 k=some y→DetB (lt 0) y:=fun x_ hx=>(by cases hx)
 refine fn_exact (u0:=0) Try.func56 rfl rfl (gets rfl rfl rfl hd_ rfl) ?_
 clear hd_
 refine vc_seq ?_
 refine vc_region hm ?_
 refine gM trivial (.inr rfl) rfl rfl rfl ?_
 refine rg_nil nofun ?_
 refine vc_seq ?_
 refine vc_seq ?_
 refine vc_region hm ?_
 refine gM trivial (.inl rfl) rfl rfl rfl ?_
 refine gKN trivial rfl rfl rfl rfl rfl ?_
 refine gM trivial (.inl rfl) rfl rfl rfl ?_
 refine gKN trivial rfl rfl rfl rfl rfl ?_
 refine gI trivial rfl rfl rfl rfl rfl rfl ?_
 refine rg_nil nofun ?_
 refine cF rfl rfl ?_
 refine vc_skip ?_
 refine vc_seq ?_
 refine vc_seq ?_
 refine vc_region hm ?_
 refine gM trivial (.inl rfl) rfl rfl rfl ?_
 refine gKN trivial rfl rfl rfl rfl rfl ?_
 refine gM trivial (.inl rfl) rfl rfl rfl ?_
 refine rg_nil nofun ?_
 refine vc_block ?_
 refine vc_loop' (fun n_ S_=>∃ (j:Nat),j=0∧n_=0∧S_=⟨0,[(0,.slice none 0 0),(1,.slice none 0 0),(12,.int .i64 (0:Nat)),(13,.int .i64 j)],[]⟩) (m0:=idm) ⟨0,rfl,rfl,rfl⟩ (le_mk rfl ⟨⟨rfl,rfl⟩,⟨rfl,rfl⟩,⟨rfl,rfl⟩,⟨rfl,rfl⟩,trivial⟩ trivial rfl (fun _ _=>rfl)) ?_
 rintro n_ S_ ⟨j,hj,rfl,rfl⟩
 refine vc_seq ?_
 refine vc_region hm ?_
 refine gI trivial rfl rfl rfl rfl rfl rfl ?_
 refine rg_nil nofun ?_
 refine vc_seq ?_
 refine cF rfl (decide_eq_false (by omega)) ?_
 refine vc_exit ?_
 refine vc_seq ?_
 refine vc_region hm ?_
 refine gM trivial (.inr rfl) rfl rfl rfl ?_
 refine rg_nil nofun ?_
 refine vc_ret ?_
 exact ⟨idm,ends0 (.inr rfl) rfl (eqB rfl) rfl rfl rfl⟩
theorem same_nn : FDoes Try.prog 22 [.agg #[.slice none 0 0,.slice none 0 0,.slice none 0 0,.slice none 0 0,.slice none 0 0],.agg #[.slice none 0 0,.slice none 0 0,.slice none 0 0,.slice none 0 0,.slice none 0 0]] (hp []) { v:=.bool true }:=by
 have hm:Try.prog.follows .mixedOrders=true:=by kernel_rfl
 have hd_:∀ x ∈ ([]:List (Nat × Bool × Fam)),∀ k y,x.2.2 k=some y→DetB (lt 0) y:=fun x_ hx=>(by cases hx)
 refine fn_exact (u0:=0) Try.func22 rfl rfl (gets rfl rfl rfl hd_ rfl) ?_
 clear hd_
 refine vc_seq ?_
 refine vc_region hm ?_
 refine gB (u':=1) trivial rfl rfl rfl rfl rfl rfl rfl rfl ?_
 refine gB (u':=2) trivial rfl rfl rfl rfl rfl rfl rfl rfl ?_
 refine gM trivial (.inr rfl) rfl rfl rfl ?_
 refine rg_nil nofun ?_
 refine vc_seq ?_
 refine vc_region hm ?_
 refine gF trivial rfl rfl rfl rfl rfl ?_
 refine gL trivial rfl rfl rfl rfl rfl rfl rfl rfl ?_
 refine gF trivial rfl rfl rfl rfl rfl ?_
 refine gL trivial rfl rfl rfl rfl rfl rfl rfl rfl ?_
 refine gC0 [] (eqnnS_c) trivial rfl rfl rfl rfl (by trivial) rfl rfl rfl rfl rfl ?_
 refine gM trivial (.inl rfl) rfl rfl rfl ?_
 refine gF ⟨_,_,rfl,rfl,rfl⟩ rfl rfl rfl rfl rfl ?_
 refine gL ⟨_,_,rfl,rfl,rfl⟩ rfl rfl rfl rfl rfl rfl rfl rfl ?_
 refine gF ⟨_,_,rfl,rfl,rfl⟩ rfl rfl rfl rfl rfl ?_
 refine gL ⟨_,_,rfl,rfl,rfl⟩ rfl rfl rfl rfl rfl rfl rfl rfl ?_
 refine gC0 [] (eqnnS_c) ⟨_,_,rfl,rfl,rfl⟩ rfl rfl rfl rfl (by trivial) rfl rfl rfl rfl rfl ?_
 refine gPT trivial rfl rfl rfl rfl rfl rfl ?_
 refine gM trivial (.inl rfl) rfl rfl rfl ?_
 refine gF ⟨_,_,rfl,rfl,rfl⟩ rfl rfl rfl rfl rfl ?_
 refine gL ⟨_,_,rfl,rfl,rfl⟩ rfl rfl rfl rfl rfl rfl rfl rfl ?_
 refine gF ⟨_,_,rfl,rfl,rfl⟩ rfl rfl rfl rfl rfl ?_
 refine gL ⟨_,_,rfl,rfl,rfl⟩ rfl rfl rfl rfl rfl rfl rfl rfl ?_
 refine gC0 [] (eqnnI_c) ⟨_,_,rfl,rfl,rfl⟩ rfl rfl rfl rfl (by trivial) rfl rfl rfl rfl rfl ?_
 refine gPT trivial rfl rfl rfl rfl rfl rfl ?_
 refine gM trivial (.inl rfl) rfl rfl rfl ?_
 refine gF ⟨_,_,rfl,rfl,rfl⟩ rfl rfl rfl rfl rfl ?_
 refine gL ⟨_,_,rfl,rfl,rfl⟩ rfl rfl rfl rfl rfl rfl rfl rfl ?_
 refine gF ⟨_,_,rfl,rfl,rfl⟩ rfl rfl rfl rfl rfl ?_
 refine gL ⟨_,_,rfl,rfl,rfl⟩ rfl rfl rfl rfl rfl rfl rfl rfl ?_
 refine gC0 [] (eqnnI_c) ⟨_,_,rfl,rfl,rfl⟩ rfl rfl rfl rfl (by trivial) rfl rfl rfl rfl rfl ?_
 refine gPT trivial rfl rfl rfl rfl rfl rfl ?_
 refine gM trivial (.inl rfl) rfl rfl rfl ?_
 refine gF ⟨_,_,rfl,rfl,rfl⟩ rfl rfl rfl rfl rfl ?_
 refine gL ⟨_,_,rfl,rfl,rfl⟩ rfl rfl rfl rfl rfl rfl rfl rfl ?_
 refine gF ⟨_,_,rfl,rfl,rfl⟩ rfl rfl rfl rfl rfl ?_
 refine gL ⟨_,_,rfl,rfl,rfl⟩ rfl rfl rfl rfl rfl rfl rfl rfl ?_
 refine gC0 [] (eqnnI_c) ⟨_,_,rfl,rfl,rfl⟩ rfl rfl rfl rfl (by trivial) rfl rfl rfl rfl rfl ?_
 refine gPT trivial rfl rfl rfl rfl rfl rfl ?_
 refine gM trivial (.inr rfl) rfl rfl rfl ?_
 refine rg_nil nofun ?_
 refine vc_ret ?_
 exact ⟨idm,ends0 (.inr rfl) rfl (eqB rfl) rfl rfl rfl⟩
theorem wpNums_n : FDoes Try.prog 18 [.slice none 0 0,.slice (some ⟨0,0,none⟩) 0 0] (hp [(0,false,one ⟨rI [],3,0⟩)]) { v:=.bool true,rd:=[0] }:=by
 have hm:Try.prog.follows .mixedOrders=true:=by kernel_rfl
 have hd_:∀ x_ ∈ ([(0,false,one ⟨rI [],3,0⟩)]:List (Nat × Bool × Fam)),∀ k_ y_,x_.2.2 k_=some y_→DetB (lt 1) y_:=by
  intro x_ hx k_ y_ e
  simp only [List.mem_cons,List.not_mem_nil,or_false] at hx
  subst hx
  exact det_row (rI_flat []) e
 refine fn_exact (u0:=1) Try.func18 rfl rfl (gets rfl rfl rfl hd_ rfl) ?_
 clear hd_
 refine vc_seq ?_
 refine vc_region hm ?_
 refine gM trivial (.inr rfl) rfl rfl rfl ?_
 refine rg_nil nofun ?_
 refine vc_seq ?_
 refine vc_seq ?_
 refine vc_region hm ?_
 refine gM trivial (.inl rfl) rfl rfl rfl ?_
 refine gKN trivial rfl rfl rfl rfl rfl ?_
 refine gM trivial (.inl rfl) rfl rfl rfl ?_
 refine gK trivial rfl rfl rfl rfl rfl rfl rI_nil ?_
 refine gI trivial rfl rfl rfl rfl rfl rfl ?_
 refine rg_nil nofun ?_
 refine cF rfl rfl ?_
 refine vc_skip ?_
 refine vc_seq ?_
 refine vc_seq ?_
 refine vc_region hm ?_
 refine gM trivial (.inr rfl) rfl rfl rfl ?_
 refine rg_nil nofun ?_
 refine vc_block ?_
 refine vc_loop' (fun n_ S_=>∃ (j:Nat),j=0∧n_=0∧S_=⟨1,[(0,.slice none 0 0),(1,.slice (some ⟨0,0,none⟩) 0 0),(5,.int .i64 j)],[(0,false,one ⟨rI [],3,0⟩)]⟩) (m0:=idm) ⟨0,rfl,rfl,rfl⟩ (le_mk rfl ⟨⟨rfl,rfl⟩,⟨rfl,rfl⟩,⟨rfl,rfl⟩,trivial⟩ ⟨kFlat (rI_flat []) rfl id rfl,trivial⟩ rfl (fun _ _=>rfl)) ?_
 rintro n_ S_ ⟨j,hj,rfl,rfl⟩
 refine vc_seq ?_
 refine vc_seq ?_
 refine vc_region hm ?_
 refine gM trivial (.inl rfl) rfl rfl rfl ?_
 refine gM trivial (.inl rfl) rfl rfl rfl ?_
 refine gKN trivial rfl rfl rfl rfl rfl ?_
 refine gI trivial rfl rfl rfl rfl rfl rfl ?_
 refine rg_nil nofun ?_
 refine cF rfl (decide_eq_false (by omega)) ?_
 refine vc_exit ?_
 refine vc_seq ?_
 refine vc_region hm ?_
 refine gM trivial (.inr rfl) rfl rfl rfl ?_
 refine rg_nil nofun ?_
 refine vc_ret ?_
 exact ⟨idm,ends0 (.inr rfl) rfl (eqB rfl) rfl rfl rfl⟩
end Go.Proofs.Ytmekkapacbdbeaa.A
namespace Go.Proofs.Ytmekkapacbdbeaa.A
open Go Go.RowKit
theorem all_inj {s x y:Stv} {l:List Rq} {c e:List Int} (h:allSt s l=(x,c)) (k:allSt s l=(y,e)):x=y∧c=e:=by
 rw [h] at k;cases k;exact ⟨rfl,rfl⟩
theorem do_fl {s:Stv} {q:Rq}:(doSt s q).1.fl=s.fl:=by
 rcases do_cases s q with ⟨_,_,_,e⟩|⟨e,_⟩
 ·rw [e];rfl
 ·rw [e]
theorem all_fl {l:List Rq}:∀ {s:Stv},(allSt s l).1.fl=s.fl:=by
 induction l with
 | nil=>intro s;rfl
 | cons q l ih=>intro s;rw [all_cons];exact ih.trans do_fl
end Go.Proofs.Ytmekkapacbdbeaa.A
namespace Go.Proofs.Ytmekkapacbdbeaa.A
open Go Go.RowKit
set_option maxHeartbeats 4000000
theorem do_sure {s:Stv} {q:Rq}:(doSt s q).1.sure=s.sure∧(doSt s q).1.slast=s.slast:=by
 rcases do_cases s q with ⟨_,_,_,e⟩|⟨e,_⟩
 ·rw [e];exact ⟨rfl,rfl⟩
 ·rw [e];exact ⟨rfl,rfl⟩
theorem all_sure {l:List Rq}:∀ {s:Stv},(allSt s l).1.sure=s.sure∧(allSt s l).1.slast=s.slast:=by
 induction l with
 | nil=>intro s;exact ⟨rfl,rfl⟩
 | cons q l ih =>
  intro s;rw [all_cons]
  obtain ⟨a,b⟩:=ih (s:=(doSt s q).1)
  obtain ⟨c,d⟩:=do_sure (s:=s) (q:=q)
  exact ⟨a.trans c,b.trans d⟩
theorem fall_all {s x:Stv} {l:List Rq} {c:List Int} (h:allSt s l=(x,c)):fallSt x=fallSt s:=by
 have h1:=all_sure (s:=s) (l:=l)
 have h2:=all_fl (s:=s) (l:=l)
 rw [h] at h1 h2
 show Stv.mk _ _ _ _ _=Stv.mk _ _ _ _ _
 rw [h1.1,h1.2,h2]
theorem do_alike {s t:Stv} {q:Rq} (h0:s.now=t.now) (h1:s.last=t.last) (h2:s.fl=t.fl):(doSt s q).2=(doSt t q).2∧(doSt s q).1.now=(doSt t q).1.now∧(doSt s q).1.last=(doSt t q).1.last∧(doSt s q).1.fl=(doSt t q).1.fl:=by
 unfold doSt
 rw [h1,h2]
 split
 ·exact ⟨rfl,h0,h1,h2⟩
 ·split
  ·exact ⟨rfl,h0,h1,h2⟩
  ·split
   ·exact ⟨rfl,h0,h1,h2⟩
   ·split
    ·exact ⟨rfl,h0,h1,h2⟩
    ·refine ⟨rfl,?_,?_,h2⟩
     ·show s.now.set _ _=t.now.set _ _;rw [h0]
     ·show s.last.set _ _=t.last.set _ _;rw [h1]
theorem all_alike {l:List Rq}:∀ {s t:Stv},s.now=t.now→s.last=t.last→s.fl=t.fl→(allSt s l).2=(allSt t l).2:=by
 induction l with
 | nil=>intro s t _ _ _;rfl
 | cons q l ih =>
  intro s t h0 h1 h2
  rw [all_cons,all_cons]
  obtain ⟨a,b,c,d⟩:=do_alike (q:=q) h0 h1 h2
  show (doSt s q).2 :: _=(doSt t q).2 :: _
  rw [a,ih b c d]
theorem sync_codes {s x a:Stv} {l:List Rq} {c e:List Int} (h:allSt s l=(x,c)) (k:allSt (syncSt s) l=(a,e)):e=c:=by
 have:=all_alike (l:=l) (s:=s) (t:=syncSt s) rfl rfl rfl
 rw [h,k] at this
 exact this.symm
theorem fall_sync {s a:Stv} {l:List Rq} {e:List Int} (k:allSt (syncSt s) l=(a,e)):fallSt a=syncSt s:=fall_all k
end Go.Proofs.Ytmekkapacbdbeaa.A
namespace Go.Proofs.Ytmekkapacbdbeaa.A
open Go Go.RowKit
open Go.Joins Go.ChangeShapes Go.WideShapes Go.Deep
def RawN (w:World) (v:Value) (N:Nam) (k n:Nat) (cs:List Value):Prop :=
 v=(if N.nil=true then zv N.z else .slice (some ⟨N.blk,k,none⟩) n (N.cap - 0))∧(if N.nil=true then hls k cs = [] else ∃ (c:Array Value) (t:TypeId) (z:Nat × Nat),w.heap[N.blk]?=some (.cells c t z)∧∀ (i:Nat) (x:Value),(hls k cs)[i]?=some x→x ≠ hole→c[i]?=some x)
theorem raw_none {w:World}:RawN w (.slice none 0 0) ⟨0,0,true,none⟩ 0 0 []:=⟨rfl,rfl⟩
theorem raw_of' {α:Type} {enc:α→List Value} {m:Nat} (he:∀ x,(enc x).length=m) (hm:0<m) {w:World} {a:Addr} {cap:Nat} {l:List α} (h:∀ i x,(rowL enc l)[i]?=some x→w.cell? (a.add i)=some x):∃ N k,RawN w (.slice (some a) l.length cap) N k l.length (rowL enc l)∧(N.nil=false→N.cap=cap):=by
 rcases l with _|⟨x,xs⟩
 ·exact ⟨⟨0,0,true,some (a,cap)⟩,0,⟨rfl,rfl⟩,fun q=>(by cases q)⟩
 ·have hp0:0<(rowL enc (x :: xs)).length:=by rw [rowL_len he,List.length_cons];exact Nat.mul_pos (Nat.succ_pos _) hm
  have h0:=h 0 _ (List.getElem?_eq_getElem hp0)
  have h1:∃ c t z,w.heap[a.block]?=some (.cells c t z)∧a.spot=none:=by
   have e:a.add 0=a:=by simp [Addr.add]
   unfold World.cell? at h0
   rw [e] at h0
   split at h0
   ·rename_i c t z hh
    refine ⟨c,t,z,hh,?_⟩
    split at h0
    ·cases h0
    ·rename_i hs;simpa using hs
   ·cases h0
  obtain ⟨c,t,z,hh,hs⟩:=h1
  obtain ⟨b,off,sp⟩:=a
  simp only at hs hh
  subst hs
  refine ⟨⟨b,cap,false,none⟩,off,⟨rfl,(if_neg Bool.false_ne_true).mpr ⟨c,t,z,hh,fun i v hv hne=>?_⟩⟩,fun _=>rfl⟩
  unfold hls at hv
  by_cases hi:i<off
  ·rw [List.getElem?_append_left (by simpa using hi)] at hv
   have:=List.mem_of_getElem? hv
   exact absurd (List.eq_of_mem_replicate this) hne
  ·rw [List.getElem?_append_right (by simpa using hi),List.length_replicate] at hv
   have:=h (i - off) v hv
   rw [add_eq,cell_eq hh] at this
   rw [← this]
   congr 1
   omega
def envL (l:List Nam):Env:=fun n=>(l[n % 1000]?).getD ⟨0,0,true,none⟩
theorem raw_atR {w:World} {v:Value} {N:Nam} {k n:Nat} {cs:List Value} {t:TypeId} {l:List Nam} {b:Nat} (h:RawN w v N k n cs) (hf:cs.all flat1=true) (hb:l[b]?=some N) (hb':b<1000) (ht:N.nil=false→t - capT≤N.cap):famAt (envL l) w b (one ⟨hls k cs,t,0⟩):=by
 intro k' x e
 obtain ⟨rfl,rfl⟩:=one_some e
 have e1:envL l (nm b 0)=N:=by unfold envL;rw [nm_mod hb',hb];rfl
 unfold blkAt
 rw [e1]
 have h2:=h.2
 cases hn:N.nil with
 | true=>rw [hn,if_pos rfl] at h2;rw [if_pos rfl];exact ⟨h2,fun q=>absurd rfl q,(by decide:0<100)⟩
 | false =>
  rw [hn,if_neg (by decide)] at h2
  rw [if_neg (by decide),if_pos rfl]
  obtain ⟨c,t',z,h3,h4⟩:=h2
  refine ⟨c,t',z,h3,fun i v hv hne=>?_,ht hn⟩
  rw [r1_flat (List.all_eq_true.1 (hls_flat (k:=k) hf) v (List.mem_of_getElem? hv))]
  exact h4 i v hv hne
theorem raw_r1 {w:World} {v:Value} {N:Nam} {k n:Nat} {cs:List Value} {l:List Nam} {b:Nat} (h:RawN w v N k n cs) (hb:l[b]?=some N) (hb':b<1000):r1 (envL l) (.slice (some ⟨b,k,none⟩) n 0)=v:=by
 show (if (envL l b).nil=true then zv (envL l b).z else .slice (some ⟨(envL l b).blk,k,none⟩) n ((envL l b).cap - 0))=v
 have e1:envL l b=N:=by unfold envL;rw [Nat.mod_eq_of_lt hb',hb];rfl
 rw [e1,h.1]
def AtL (ρ:Env) (w:World):List (Nat × Bool × Fam)→Prop
 | []=>True
 | x :: l=>famAt ρ w x.1 x.2.2∧AtL ρ w l
theorem atL_mem {ρ:Env} {w:World}:∀ {l:List (Nat × Bool × Fam)},AtL ρ w l→∀ b o F,l.lookup b=some (o,F)→famAt ρ w b F
 | x :: l,h,b,o,F,e=>by
  obtain ⟨c,y⟩:=x
  rw [List.lookup_cons] at e
  by_cases hb:b=c
  ·subst hb
   simp at e
   subst e
   exact h.1
  ·have:(b == c)=false:=by simpa using hb
   rw [this] at e
   exact atL_mem h.2 b o F e
theorem law_done {P:Program} {f:FuncId} {args:List Value} {hl:List (Nat × Bool × Fam)} {rd:List Nat} {ρ:Env} {w:World} {vs:Array Value} (h:FDoes P f args (hp hl) { v:=.bool true,rd:=rd }) (ha:(args.map (r3 ρ)).toArray=vs) (hr:AtL ρ w hl) :
  Calls P f vs w fun e w'=>e = .returned (.bool true)∧Below w.heap.size w w':=by
 subst ha
 refine (h.run ρ w ⟨fun b _ o F e=>atL_mem hr b o F e,fun b hb=>(by cases hb)⟩).mono fun e w' ⟨ρ',hB,he⟩=>⟨he,?_⟩
 have hf:=hB.frm
 exact Frm.below ⟨hf.os,hf.tape,hf.output,hf.size,fun k hk hn=>hf.block k hk fun ⟨b,hb,_⟩=>(by cases hb)⟩
section
variable {H:Type} {enc:TypeId × Value→H} {P:Program} {w:World} {base:Nat} {spare:Nat→Bool} {held:Bool}
end
section
variable {H:Type} {enc:TypeId × Value→H} {w:World} {base:Nat} {spare:Nat→Bool} {held:Bool}
end
theorem u8_in {n:Int} (h:(Lit.int .u8 n).wf=true):0≤n∧n≤255:=by
 have e1:IntKind.u8.min=0:=by decide
 have e2:IntKind.u8.max=255:=by decide
 simp only [Lit.wf,e1,e2,Bool.and_eq_true,decide_eq_true_eq] at h
 exact h
def CodeArg (w:World) (v:Value) (l:List Int) (N:Nam) (k:Nat):Prop:=RawN w v N k l.length (rY l)∧(N.nil=false→l.length≤N.cap)∧ByL l∧l.length≤9223372036854775807
theorem code_at {w:World} {v:Value} {l:List Int} {N:Nam} {k:Nat} {ns:List Nam} {b:Nat} (h:CodeArg w v l N k) (hb:ns[b]?=some N) (hb':b<1000):famAt (envL ns) w b (one ⟨hls k (rY l),capT + l.length,0⟩) :=
 raw_atR h.1 (rY_flat l) hb hb' fun hn=>by rw [Nat.add_sub_cancel_left];exact h.2.1 hn
theorem code_r3 {w:World} {v:Value} {l:List Int} {N:Nam} {k:Nat} {ns:List Nam} {b:Nat} (h:CodeArg w v l N k) (hb:ns[b]?=some N) (hb':b<1000):r3 (envL ns) (.slice (some ⟨b,k,none⟩) l.length 0)=v:=raw_r1 h.1 hb hb'
theorem open_bytesA {H:Type} {enc:TypeId × Value→H} {w:World} {base:Nat} {spare:Nat→Bool} {held:Bool} {r:Reach} {b0:Nat} {v:Value} {d:DataW H} {p:List MemPlace} (hv:Value.okWide Try.prog w r b0 22 v) (h:DataW.Trod enc Try.prog w base spare held 22 v d p):∃ l N k,CodeArg w v l N k:=by
 obtain ⟨a1,len,cap,rfl⟩:=okWide_slice Try.underlying22 hv
 obtain ⟨fuel,hf⟩:=h
 rcases open_ints Try.underlying22 Try.underlying5 (by kernel_rfl) hf with ⟨h1,_⟩|⟨a,len',cap',zs,h1,_,hl,hm,hz,_,hcell,hw⟩
 ·simp only [Value.cells,List.cons.injEq,_root_.and_true,Value.slice.injEq] at h1
  obtain ⟨rfl,rfl,rfl⟩:=h1
  exact ⟨[],_,_,raw_none,fun q=>(by cases q),(fun _ hx=>(nomatch hx)),by decide⟩
 ·simp only [Value.cells,List.cons.injEq,_root_.and_true,Value.slice.injEq] at h1
  obtain ⟨rfl,rfl,rfl⟩:=h1
  unfold maxLen at hm
  have hlz:len≤zs.length:=by rw [hz];split <;> omega
  have hn:(zs.take len).length=len:=by rw [List.length_take,Nat.min_eq_left hlz]
  have key:∀ i x,(rY (zs.take len))[i]?=some x→w.cell? (a.add i)=some x:=fun i x hx=>by
   have hi:=(List.getElem?_eq_some_iff.1 hx).1
   rw [rowL_len (n:=1) (fun _=>rfl),hn,Nat.mul_one] at hi
   have e1:x = .int .u8 (zs.getD i 0):=by
    have hg:=rowL_get (enc:=eY) (n:=1) (fun _=>rfl) (zs.take len) i 0 (by rw [hn];exact hi) (by decide)
    rw [Nat.mul_one,Nat.add_zero,hx,List.getElem_take] at hg
    rw [List.getD_eq_getElem?_getD,List.getElem?_eq_getElem (by omega)]
    exact Option.some.inj hg
   rw [e1]
   exact hcell i (by omega)
  obtain ⟨N,k,hr,hc⟩:=raw_of' (enc:=eY) (m:=1) (fun _=>rfl) (by decide) (cap:=cap) key
  refine ⟨zs.take len,N,k,by rw [hn] at hr ⊢;exact hr,fun q=>by rw [hc q,hn];omega,fun x hx=>u8_in (hw x (List.mem_of_mem_take hx)),by rw [hn];omega⟩
end Go.Proofs.Ytmekkapacbdbeaa.A
namespace Go.Proofs.Ytmekkapacbdbeaa.A
open Go Go.RowKit
set_option maxHeartbeats 4000000
theorem FnStoreReplay_c {l:List Int} {k:Nat} (hl:ByL l) (hl9:l.length≤9223372036854775807):FDoes Try.prog 14 [.slice (some ⟨0,k,none⟩) l.length 0] (hp [(0,false,one ⟨hls k (rY l),capT + l.length,0⟩)]) { v:=.bool true,rd:=[0] }:=by
 have hm:Try.prog.follows .mixedOrders=true:=by kernel_rfl
 have hd_:∀ x_ ∈ ([(0,false,one ⟨hls k (rY l),capT + l.length,0⟩)]:List (Nat × Bool × Fam)),∀ k_ y_,x_.2.2 k_=some y_→DetB (lt 1) y_:=by
  intro x_ hx k_ y_ e
  simp only [List.mem_cons,List.not_mem_nil,or_false] at hx
  subst hx
  exact det_code e
 refine fn_exact (u0:=1) Try.func14 rfl rfl (gets rfl rfl rfl hd_ rfl) ?_
 clear hd_
 refine vc_seq ?_
 refine vc_region hm ?_
 refine gM trivial (.inr rfl) rfl rfl rfl ?_
 refine rg_nil nofun ?_
 refine vc_seq ?_
 refine vc_seq ?_
 refine vc_region hm ?_
 refine gM trivial (.inl rfl) rfl rfl rfl ?_
 refine gK trivial rfl rfl rfl rfl rfl rfl (hls_nil fun e=>rY_nil e) ?_
 refine gI trivial rfl rfl rfl rfl rfl rfl ?_
 refine rg_nil nofun ?_
 refine cI rfl (fun c17=>?_) (fun c17=>?_)
 ·skip
  have p17:=of_decide_eq_true c17
  refine vc_seq ?_
  refine vc_region hm ?_
  refine gM trivial (.inr rfl) rfl rfl rfl ?_
  refine rg_nil nofun ?_
  refine vc_ret ?_
  exact ⟨idm,ends0 (.inr rfl) rfl (eqB rfl) rfl rfl rfl⟩
 ·skip
  have p17:=of_decide_eq_false c17
  refine vc_skip ?_
  refine vc_seq ?_
  refine vc_region hm ?_
  refine gM trivial (.inl rfl) rfl rfl rfl ?_
  obtain ⟨E2,hE2,s,kk,cc,L,hb,hL,hq,rfl⟩:=drawAll_c (l:=l) (k:=k) hl
  have hn:L.length≤1048576:=by omega
  have hQ:∀ q ∈ L,q.d.size≤1048576:=fun q hh=>Nat.le_trans (hq q hh) (by decide)
  have z0:=hb.z.a0
  have z1:=hb.z.a1
  have z2:=hb.z.a2
  have z3:=hb.z.a3
  have z4:=hb.z.a4
  refine gCF (ups':=[]) (as':=[(1,one ⟨hls kk (rS s.now),9,0⟩),(2,one ⟨rS s.sure,9,77⟩),(3,one ⟨rI s.last,3,77⟩),(4,one ⟨rI s.slast,3,77⟩),(5,one ⟨rI s.fl,3,77⟩),(6,one ⟨rRq L,52,6⟩)]) (v':=.tuple #[.agg #[.slice (some ⟨1,kk,none⟩) s.now.length cc,.slice (some ⟨2,0,none⟩) s.sure.length 0,.slice (some ⟨3,0,none⟩) s.last.length 0,.slice (some ⟨4,0,none⟩) s.slast.length 0,.slice (some ⟨5,0,none⟩) s.fl.length 0],.slice (some ⟨6,0,none⟩) L.length 0]) 7 [0,1,2,3,4,5,6] hE2 trivial rfl rfl rfl rfl ⟨rCode rfl rfl,trivial⟩ trivial ⟨frF (hls_flat (rS_flat s.now)) rfl,frF (rS_flat s.sure) rfl,frF (rI_flat s.last) rfl,frF (rI_flat s.slast) rfl,frF (rI_flat s.fl) rfl,frF (rRq_flat _) rfl,trivial⟩ rfl rfl (fun x hx=>nomatch hx) (fun x hx=>nomatch hx) rfl rfl ?_
  refine gM trivial (.inl rfl) rfl rfl rfl ?_
  refine gE trivial rfl rfl rfl rfl rfl rfl ?_
  refine gE trivial rfl rfl rfl rfl rfl rfl ?_
  refine gZ (u':=8) trivial rfl rfl rfl rfl rfl rfl rfl rfl ?_
  refine gT trivial rfl rfl rfl rfl rfl rfl rfl rfl rfl rfl (Nat.le_of_ble_eq_true rfl) rfl ?_
  refine gM trivial (.inr rfl) rfl rfl rfl ?_
  refine rg_nil nofun ?_
  refine vc_seq ?_
  rcases Bool.eq_false_or_eq_true (stOk s) with hk|hk
  ·skip
   refine vc_region hm ?_
   refine gL trivial rfl rfl rfl rfl rfl rfl rfl rfl ?_
   refine gM trivial (.inl rfl) rfl rfl rfl ?_
   obtain ⟨E3,hE3,x3,c3,d3,rfl⟩:=impl_StoreAll_c (s:=s) (l:=L) (M:=L) (kk:=kk) (cc:=cc) (o:=0) (cl:=0) (part_0 _) hk hn hQ
   refine gCF (ups':=[]) (as':=[(8,one ⟨rS x3.now,9,1⟩),(9,one ⟨rS x3.sure,9,1⟩),(10,one ⟨rI x3.last,3,1⟩),(11,one ⟨rI x3.slast,3,1⟩),(12,one ⟨rI x3.fl,3,1⟩),(13,one ⟨rI c3,3,1⟩)]) (v':=.tuple #[.agg #[.slice (some ⟨8,0,none⟩) x3.now.length 0,.slice (some ⟨9,0,none⟩) x3.sure.length 0,.slice (some ⟨10,0,none⟩) x3.last.length 0,.slice (some ⟨11,0,none⟩) x3.slast.length 0,.slice (some ⟨12,0,none⟩) x3.fl.length 0],.slice (some ⟨13,0,none⟩) c3.length 0]) 14 [1,2,3,4,5,6,8,9,10,11,12,13] hE3 trivial rfl rfl rfl rfl ⟨rFlat (hls_flat (rS_flat s.now)) rfl (.inl rfl) rfl,rFlat (rS_flat s.sure) rfl (.inl rfl) rfl,rFlat (rI_flat s.last) rfl (.inl rfl) rfl,rFlat (rI_flat s.slast) rfl (.inl rfl) rfl,rFlat (rI_flat s.fl) rfl (.inl rfl) rfl,rFlat (rRq_flat _) rfl (.inl rfl) rfl,trivial⟩ trivial ⟨frF (rS_flat x3.now) rfl,frF (rS_flat x3.sure) rfl,frF (rI_flat x3.last) rfl,frF (rI_flat x3.slast) rfl,frF (rI_flat x3.fl) rfl,frF (rI_flat _) rfl,trivial⟩ rfl rfl (fun x hx=>nomatch hx) (fun x hx=>nomatch hx) rfl rfl ?_
   refine gM trivial (.inl rfl) rfl rfl rfl ?_
   refine gE trivial rfl rfl rfl rfl rfl rfl ?_
   refine gE trivial rfl rfl rfl rfl rfl rfl ?_
   refine gZ (u':=15) trivial rfl rfl rfl rfl rfl rfl rfl rfl ?_
   refine gT trivial rfl rfl rfl rfl rfl rfl rfl rfl rfl rfl (Nat.le_of_ble_eq_true rfl) rfl ?_
   refine gM trivial (.inr rfl) rfl rfl rfl ?_
   refine rg_nil nofun ?_
   refine vc_seq ?_
   refine vc_region hm ?_
   refine gL trivial rfl rfl rfl rfl rfl rfl rfl rfl ?_
   refine gM trivial (.inl rfl) rfl rfl rfl ?_
   obtain ⟨E4,hE4,x4,c4,d4,rfl⟩:=spec_StoreAll_c (s:=s) (l:=L) (M:=L) (kk:=kk) (cc:=cc) (o:=0) (cl:=0) (part_0 _) hk hn hQ
   refine gCF (ups':=[]) (as':=[(15,one ⟨rS x4.now,9,1⟩),(16,one ⟨rS x4.sure,9,1⟩),(17,one ⟨rI x4.last,3,1⟩),(18,one ⟨rI x4.slast,3,1⟩),(19,one ⟨rI x4.fl,3,1⟩),(20,one ⟨rI c4,3,1⟩)]) (v':=.tuple #[.agg #[.slice (some ⟨15,0,none⟩) x4.now.length 0,.slice (some ⟨16,0,none⟩) x4.sure.length 0,.slice (some ⟨17,0,none⟩) x4.last.length 0,.slice (some ⟨18,0,none⟩) x4.slast.length 0,.slice (some ⟨19,0,none⟩) x4.fl.length 0],.slice (some ⟨20,0,none⟩) c4.length 0]) 21 [1,2,3,4,5,6,15,16,17,18,19,20] hE4 trivial rfl rfl rfl rfl ⟨rFlat (hls_flat (rS_flat s.now)) rfl (.inl rfl) rfl,rFlat (rS_flat s.sure) rfl (.inl rfl) rfl,rFlat (rI_flat s.last) rfl (.inl rfl) rfl,rFlat (rI_flat s.slast) rfl (.inl rfl) rfl,rFlat (rI_flat s.fl) rfl (.inl rfl) rfl,rFlat (rRq_flat _) rfl (.inl rfl) rfl,trivial⟩ trivial ⟨frF (rS_flat x4.now) rfl,frF (rS_flat x4.sure) rfl,frF (rI_flat x4.last) rfl,frF (rI_flat x4.slast) rfl,frF (rI_flat x4.fl) rfl,frF (rI_flat _) rfl,trivial⟩ rfl rfl (fun x hx=>nomatch hx) (fun x hx=>nomatch hx) rfl rfl ?_
   obtain ⟨rfl,rfl⟩:=all_inj d3 d4
   refine gM trivial (.inl rfl) rfl rfl rfl ?_
   refine gE trivial rfl rfl rfl rfl rfl rfl ?_
   refine gE trivial rfl rfl rfl rfl rfl rfl ?_
   refine gZ (u':=22) trivial rfl rfl rfl rfl rfl rfl rfl rfl ?_
   refine gT trivial rfl rfl rfl rfl rfl rfl rfl rfl rfl rfl (Nat.le_of_ble_eq_true rfl) rfl ?_
   refine gM trivial (.inr rfl) rfl rfl rfl ?_
   refine rg_nil nofun ?_
   refine vc_seq ?_
   refine vc_seq ?_
   refine vc_region hm ?_
   refine gL trivial rfl rfl rfl rfl rfl rfl rfl rfl ?_
   refine gL trivial rfl rfl rfl rfl rfl rfl rfl rfl ?_
   refine gC0 [8,9,10,11,12,15,16,17,18,19] (impl_StoreSame_c (a:=x3) (b:=x3) (ka:=0) (ca:=0) (kb:=0) (cb:=0) (sz_ok (all_k d3 hk))) trivial rfl rfl rfl rfl ⟨rFlat (hls_flat (rS_flat x3.now)) rfl (.inl rfl) rfl,rFlat (rS_flat x3.sure) rfl (.inl rfl) rfl,rFlat (rI_flat x3.last) rfl (.inl rfl) rfl,rFlat (rI_flat x3.slast) rfl (.inl rfl) rfl,rFlat (rI_flat x3.fl) rfl (.inl rfl) rfl,rFlat (hls_flat (rS_flat x3.now)) rfl (.inl rfl) rfl,rFlat (rS_flat x3.sure) rfl (.inl rfl) rfl,rFlat (rI_flat x3.last) rfl (.inl rfl) rfl,rFlat (rI_flat x3.slast) rfl (.inl rfl) rfl,rFlat (rI_flat x3.fl) rfl (.inl rfl) rfl,trivial⟩ rfl rfl rfl rfl rfl ?_
   refine gN trivial rfl rfl rfl rfl ?_
   refine gM trivial (.inl rfl) rfl rfl rfl ?_
   refine gM ⟨_,_,rfl,rfl,(notT (decide_eq_true rfl))⟩ (.inl rfl) rfl rfl rfl ?_
   refine gM ⟨_,_,rfl,rfl,(notT (decide_eq_true rfl))⟩ (.inl rfl) rfl rfl rfl ?_
   refine gC0 [13,20] (wpNums_c (a:=c3) (b:=c3) (ka:=0) (ca:=0) (kb:=0) (cb:=0) (by rw [all_n d3];omega)) ⟨_,_,rfl,rfl,(notT (decide_eq_true rfl))⟩ rfl rfl rfl rfl ⟨rFlat (hls_flat (rI_flat _)) rfl (.inl rfl) rfl,rFlat (hls_flat (rI_flat _)) rfl (.inl rfl) rfl,trivial⟩ rfl rfl rfl rfl rfl ?_
   refine gN ⟨_,_,rfl,rfl,(notT (decide_eq_true rfl))⟩ rfl rfl rfl rfl ?_
   refine gPF trivial rfl rfl (notT (decide_eq_true rfl)) rfl rfl rfl ?_
   refine gM trivial (.inl rfl) rfl rfl rfl ?_
   refine gL ⟨_,_,rfl,rfl,(notT (decide_eq_true rfl))⟩ rfl rfl rfl rfl rfl rfl rfl rfl ?_
   refine gC0 [1,2,3,4,5] (spec_StoreOk_c (s:=s) (kk:=kk) (cc:=cc) hb.z) ⟨_,_,rfl,rfl,(notT (decide_eq_true rfl))⟩ rfl rfl rfl rfl ⟨rFlat (hls_flat (rS_flat s.now)) rfl (.inl rfl) rfl,rFlat (rS_flat s.sure) rfl (.inl rfl) rfl,rFlat (rI_flat s.last) rfl (.inl rfl) rfl,rFlat (rI_flat s.slast) rfl (.inl rfl) rfl,rFlat (rI_flat s.fl) rfl (.inl rfl) rfl,trivial⟩ rfl rfl rfl rfl rfl ?_
   refine gN ⟨_,_,rfl,rfl,(notT (decide_eq_true rfl))⟩ rfl rfl rfl rfl ?_
   refine gPF trivial rfl rfl (notT (decide_eq_true rfl)) rfl rfl rfl ?_
   refine rg_nil nofun ?_
   refine cF rfl (notT hk) ?_
   refine vc_skip ?_
   refine vc_seq ?_
   refine vc_region hm ?_
   refine gL trivial rfl rfl rfl rfl rfl rfl rfl rfl ?_
   refine gCn 27 [1,2,3,4,5,22,23,24,25,26] (impl_StoreSync_c (s:=s) (kk:=kk) (cc:=cc) hk) trivial rfl rfl rfl rfl ⟨rFlat (hls_flat (rS_flat s.now)) rfl (.inl rfl) rfl,rFlat (rS_flat s.sure) rfl (.inl rfl) rfl,rFlat (rI_flat s.last) rfl (.inl rfl) rfl,rFlat (rI_flat s.slast) rfl (.inl rfl) rfl,rFlat (rI_flat s.fl) rfl (.inl rfl) rfl,trivial⟩ ⟨rS_flat _,rS_flat _,rI_flat _,rI_flat _,rI_flat _,trivial⟩ rfl rfl rfl rfl ?_
   refine gZ (u':=28) trivial rfl rfl rfl rfl rfl rfl rfl rfl ?_
   refine gT trivial rfl rfl rfl rfl rfl rfl rfl rfl rfl rfl (Nat.le_of_ble_eq_true rfl) rfl ?_
   refine rg_nil nofun ?_
   refine vc_seq ?_
   refine vc_region hm ?_
   refine gL trivial rfl rfl rfl rfl rfl rfl rfl rfl ?_
   refine gM trivial (.inl rfl) rfl rfl rfl ?_
   obtain ⟨E5,hE5,x5,c5,d5,rfl⟩:=impl_StoreAll_c (s:=(syncSt s)) (l:=L) (M:=L) (kk:=0) (cc:=0) (o:=0) (cl:=0) (part_0 _) (sync_ok hk) hn hQ
   refine gCF (ups':=[]) (as':=[(28,one ⟨rS x5.now,9,1⟩),(29,one ⟨rS x5.sure,9,1⟩),(30,one ⟨rI x5.last,3,1⟩),(31,one ⟨rI x5.slast,3,1⟩),(32,one ⟨rI x5.fl,3,1⟩),(33,one ⟨rI c5,3,1⟩)]) (v':=.tuple #[.agg #[.slice (some ⟨28,0,none⟩) x5.now.length 0,.slice (some ⟨29,0,none⟩) x5.sure.length 0,.slice (some ⟨30,0,none⟩) x5.last.length 0,.slice (some ⟨31,0,none⟩) x5.slast.length 0,.slice (some ⟨32,0,none⟩) x5.fl.length 0],.slice (some ⟨33,0,none⟩) c5.length 0]) 34 [22,23,24,25,26,6,28,29,30,31,32,33] hE5 trivial rfl rfl rfl rfl ⟨rFlat (hls_flat (rS_flat (syncSt s).now)) rfl (.inl rfl) rfl,rFlat (rS_flat (syncSt s).sure) rfl (.inl rfl) rfl,rFlat (rI_flat (syncSt s).last) rfl (.inl rfl) rfl,rFlat (rI_flat (syncSt s).slast) rfl (.inl rfl) rfl,rFlat (rI_flat (syncSt s).fl) rfl (.inl rfl) rfl,rFlat (rRq_flat _) rfl (.inl rfl) rfl,trivial⟩ trivial ⟨frF (rS_flat x5.now) rfl,frF (rS_flat x5.sure) rfl,frF (rI_flat x5.last) rfl,frF (rI_flat x5.slast) rfl,frF (rI_flat x5.fl) rfl,frF (rI_flat _) rfl,trivial⟩ rfl rfl (fun x hx=>nomatch hx) (fun x hx=>nomatch hx) rfl rfl ?_
   refine gM trivial (.inl rfl) rfl rfl rfl ?_
   refine gE trivial rfl rfl rfl rfl rfl rfl ?_
   refine gE trivial rfl rfl rfl rfl rfl rfl ?_
   refine gZ (u':=35) trivial rfl rfl rfl rfl rfl rfl rfl rfl ?_
   refine gT trivial rfl rfl rfl rfl rfl rfl rfl rfl rfl rfl (Nat.le_of_ble_eq_true rfl) rfl ?_
   refine gM trivial (.inr rfl) rfl rfl rfl ?_
   refine rg_nil nofun ?_
   refine vc_seq ?_
   refine vc_region hm ?_
   refine gL trivial rfl rfl rfl rfl rfl rfl rfl rfl ?_
   refine gCn 40 [28,29,30,31,32,35,36,37,38,39] (impl_StoreFall_c (s:=x5) (kk:=0) (cc:=0) (all_k d5 (sync_ok hk))) trivial rfl rfl rfl rfl ⟨rFlat (hls_flat (rS_flat x5.now)) rfl (.inl rfl) rfl,rFlat (rS_flat x5.sure) rfl (.inl rfl) rfl,rFlat (rI_flat x5.last) rfl (.inl rfl) rfl,rFlat (rI_flat x5.slast) rfl (.inl rfl) rfl,rFlat (rI_flat x5.fl) rfl (.inl rfl) rfl,trivial⟩ ⟨rS_flat _,rS_flat _,rI_flat _,rI_flat _,rI_flat _,trivial⟩ rfl rfl rfl rfl ?_
   refine gZ (u':=41) trivial rfl rfl rfl rfl rfl rfl rfl rfl ?_
   refine gT trivial rfl rfl rfl rfl rfl rfl rfl rfl rfl rfl (Nat.le_of_ble_eq_true rfl) rfl ?_
   refine rg_nil nofun ?_
   refine vc_seq ?_
   refine vc_region hm ?_
   refine gL trivial rfl rfl rfl rfl rfl rfl rfl rfl ?_
   refine gM trivial (.inl rfl) rfl rfl rfl ?_
   obtain ⟨E6,hE6,x6,c6,d6,rfl⟩:=impl_StoreAll_c (s:=(fallSt x5)) (l:=L) (M:=L) (kk:=0) (cc:=0) (o:=0) (cl:=0) (part_0 _) (fall_ok (all_k d5 (sync_ok hk))) hn hQ
   refine gCF (ups':=[]) (as':=[(41,one ⟨rS x6.now,9,1⟩),(42,one ⟨rS x6.sure,9,1⟩),(43,one ⟨rI x6.last,3,1⟩),(44,one ⟨rI x6.slast,3,1⟩),(45,one ⟨rI x6.fl,3,1⟩),(46,one ⟨rI c6,3,1⟩)]) (v':=.tuple #[.agg #[.slice (some ⟨41,0,none⟩) x6.now.length 0,.slice (some ⟨42,0,none⟩) x6.sure.length 0,.slice (some ⟨43,0,none⟩) x6.last.length 0,.slice (some ⟨44,0,none⟩) x6.slast.length 0,.slice (some ⟨45,0,none⟩) x6.fl.length 0],.slice (some ⟨46,0,none⟩) c6.length 0]) 47 [35,36,37,38,39,6,41,42,43,44,45,46] hE6 trivial rfl rfl rfl rfl ⟨rFlat (hls_flat (rS_flat (fallSt x5).now)) rfl (.inl rfl) rfl,rFlat (rS_flat (fallSt x5).sure) rfl (.inl rfl) rfl,rFlat (rI_flat (fallSt x5).last) rfl (.inl rfl) rfl,rFlat (rI_flat (fallSt x5).slast) rfl (.inl rfl) rfl,rFlat (rI_flat (fallSt x5).fl) rfl (.inl rfl) rfl,rFlat (rRq_flat _) rfl (.inl rfl) rfl,trivial⟩ trivial ⟨frF (rS_flat x6.now) rfl,frF (rS_flat x6.sure) rfl,frF (rI_flat x6.last) rfl,frF (rI_flat x6.slast) rfl,frF (rI_flat x6.fl) rfl,frF (rI_flat _) rfl,trivial⟩ rfl rfl (fun x hx=>nomatch hx) (fun x hx=>nomatch hx) rfl rfl ?_
   have v1:=fall_sync d5
   rw [v1] at d6
   obtain ⟨v2,v3⟩:=all_inj d5 d6
   have v4:=sync_codes d3 d5
   refine gM trivial (.inl rfl) rfl rfl rfl ?_
   refine gE trivial rfl rfl rfl rfl rfl rfl ?_
   refine gE trivial rfl rfl rfl rfl rfl rfl ?_
   refine gZ (u':=48) trivial rfl rfl rfl rfl rfl rfl rfl rfl ?_
   refine gT trivial rfl rfl rfl rfl rfl rfl rfl rfl rfl rfl (Nat.le_of_ble_eq_true rfl) rfl ?_
   refine gM trivial (.inr rfl) rfl rfl rfl ?_
   refine rg_nil nofun ?_
   refine vc_seq ?_
   refine vc_region hm ?_
   refine gM trivial (.inl rfl) rfl rfl rfl ?_
   refine gM trivial (.inl rfl) rfl rfl rfl ?_
   refine gC0 [33,13] (wpNums_c (a:=c5) (b:=c3) (ka:=0) (ca:=0) (kb:=0) (cb:=0) (by rw [all_n d5];omega)) trivial rfl rfl rfl rfl ⟨rFlat (hls_flat (rI_flat _)) rfl (.inl rfl) rfl,rFlat (hls_flat (rI_flat _)) rfl (.inl rfl) rfl,trivial⟩ rfl rfl rfl rfl rfl ?_
   refine gM trivial (.inl rfl) rfl rfl rfl ?_
   refine gL ⟨_,_,rfl,rfl,(decide_eq_true v4)⟩ rfl rfl rfl rfl rfl rfl rfl rfl ?_
   refine gL ⟨_,_,rfl,rfl,(decide_eq_true v4)⟩ rfl rfl rfl rfl rfl rfl rfl rfl ?_
   refine gC0 [35,36,37,38,39,22,23,24,25,26] (impl_StoreSame_c (a:=(fallSt x5)) (b:=(syncSt s)) (ka:=0) (ca:=0) (kb:=0) (cb:=0) (sz_ok (fall_ok (all_k d5 (sync_ok hk))))) ⟨_,_,rfl,rfl,(decide_eq_true v4)⟩ rfl rfl rfl rfl ⟨rFlat (hls_flat (rS_flat (fallSt x5).now)) rfl (.inl rfl) rfl,rFlat (rS_flat (fallSt x5).sure) rfl (.inl rfl) rfl,rFlat (rI_flat (fallSt x5).last) rfl (.inl rfl) rfl,rFlat (rI_flat (fallSt x5).slast) rfl (.inl rfl) rfl,rFlat (rI_flat (fallSt x5).fl) rfl (.inl rfl) rfl,rFlat (hls_flat (rS_flat (syncSt s).now)) rfl (.inl rfl) rfl,rFlat (rS_flat (syncSt s).sure) rfl (.inl rfl) rfl,rFlat (rI_flat (syncSt s).last) rfl (.inl rfl) rfl,rFlat (rI_flat (syncSt s).slast) rfl (.inl rfl) rfl,rFlat (rI_flat (syncSt s).fl) rfl (.inl rfl) rfl,trivial⟩ rfl rfl rfl rfl rfl ?_
   refine gPT trivial rfl rfl (decide_eq_true v4) rfl rfl rfl ?_
   refine gM trivial (.inl rfl) rfl rfl rfl ?_
   refine gL ⟨_,_,rfl,rfl,(decide_eq_true v1)⟩ rfl rfl rfl rfl rfl rfl rfl rfl ?_
   refine gL ⟨_,_,rfl,rfl,(decide_eq_true v1)⟩ rfl rfl rfl rfl rfl rfl rfl rfl ?_
   refine gC0 [28,29,30,31,32,41,42,43,44,45] (impl_StoreSame_c (a:=x5) (b:=x6) (ka:=0) (ca:=0) (kb:=0) (cb:=0) (sz_ok (all_k d5 (sync_ok hk)))) ⟨_,_,rfl,rfl,(decide_eq_true v1)⟩ rfl rfl rfl rfl ⟨rFlat (hls_flat (rS_flat x5.now)) rfl (.inl rfl) rfl,rFlat (rS_flat x5.sure) rfl (.inl rfl) rfl,rFlat (rI_flat x5.last) rfl (.inl rfl) rfl,rFlat (rI_flat x5.slast) rfl (.inl rfl) rfl,rFlat (rI_flat x5.fl) rfl (.inl rfl) rfl,rFlat (hls_flat (rS_flat x6.now)) rfl (.inl rfl) rfl,rFlat (rS_flat x6.sure) rfl (.inl rfl) rfl,rFlat (rI_flat x6.last) rfl (.inl rfl) rfl,rFlat (rI_flat x6.slast) rfl (.inl rfl) rfl,rFlat (rI_flat x6.fl) rfl (.inl rfl) rfl,trivial⟩ rfl rfl rfl rfl rfl ?_
   refine gPT trivial rfl rfl (decide_eq_true v1) rfl rfl rfl ?_
   refine gM trivial (.inl rfl) rfl rfl rfl ?_
   refine gM ⟨_,_,rfl,rfl,(decide_eq_true v2)⟩ (.inl rfl) rfl rfl rfl ?_
   refine gM ⟨_,_,rfl,rfl,(decide_eq_true v2)⟩ (.inl rfl) rfl rfl rfl ?_
   refine gC0 [46,13] (wpNums_c (a:=c6) (b:=c3) (ka:=0) (ca:=0) (kb:=0) (cb:=0) (by rw [all_n d6];omega)) ⟨_,_,rfl,rfl,(decide_eq_true v2)⟩ rfl rfl rfl rfl ⟨rFlat (hls_flat (rI_flat _)) rfl (.inl rfl) rfl,rFlat (hls_flat (rI_flat _)) rfl (.inl rfl) rfl,trivial⟩ rfl rfl rfl rfl rfl ?_
   refine gPT trivial rfl rfl (decide_eq_true v2) rfl rfl rfl ?_
   refine gM trivial (.inr rfl) rfl rfl rfl ?_
   refine rg_nil nofun ?_
   refine vc_ret ?_
   exact ⟨idm,ends0 (.inr rfl) rfl (eqB (decide_eq_true (v3.symm.trans v4)).symm) rfl rfl rfl⟩
  ·skip
   refine vc_region hm ?_
   refine gL trivial rfl rfl rfl rfl rfl rfl rfl rfl ?_
   refine gM trivial (.inl rfl) rfl rfl rfl ?_
   refine gC0 [1,2,3,4,5,6] (impl_StoreAll_n (s:=s) (l:=L) (M:=L) (kk:=kk) (cc:=cc) (o:=0) (cl:=0) hb.z hk) trivial rfl rfl rfl rfl ⟨rFlat (hls_flat (rS_flat s.now)) rfl (.inl rfl) rfl,rFlat (rS_flat s.sure) rfl (.inl rfl) rfl,rFlat (rI_flat s.last) rfl (.inl rfl) rfl,rFlat (rI_flat s.slast) rfl (.inl rfl) rfl,rFlat (rI_flat s.fl) rfl (.inl rfl) rfl,rFlat (rRq_flat _) rfl (.inl rfl) rfl,trivial⟩ rfl rfl rfl rfl rfl ?_
   refine gM trivial (.inl rfl) rfl rfl rfl ?_
   refine gE trivial rfl rfl rfl rfl rfl rfl ?_
   refine gE trivial rfl rfl rfl rfl rfl rfl ?_
   refine gZ (u':=9) trivial rfl rfl rfl rfl rfl rfl rfl rfl ?_
   refine gT trivial rfl rfl rfl rfl rfl rfl rfl rfl rfl rfl (Nat.le_of_ble_eq_true rfl) rfl ?_
   refine gM trivial (.inr rfl) rfl rfl rfl ?_
   refine rg_nil nofun ?_
   refine vc_seq ?_
   refine vc_region hm ?_
   refine gL trivial rfl rfl rfl rfl rfl rfl rfl rfl ?_
   refine gM trivial (.inl rfl) rfl rfl rfl ?_
   refine gCn 10 [1,2,3,4,5,6,9] (spec_StoreAll_n (s:=s) (l:=L) (M:=L) (kk:=kk) (cc:=cc) (o:=0) (cl:=0) hb.z hk) trivial rfl rfl rfl rfl ⟨rFlat (hls_flat (rS_flat s.now)) rfl (.inl rfl) rfl,rFlat (rS_flat s.sure) rfl (.inl rfl) rfl,rFlat (rI_flat s.last) rfl (.inl rfl) rfl,rFlat (rI_flat s.slast) rfl (.inl rfl) rfl,rFlat (rI_flat s.fl) rfl (.inl rfl) rfl,rFlat (rRq_flat _) rfl (.inl rfl) rfl,trivial⟩ ⟨rI_flat _,trivial⟩ rfl rfl rfl rfl ?_
   refine gM trivial (.inl rfl) rfl rfl rfl ?_
   refine gE trivial rfl rfl rfl rfl rfl rfl ?_
   refine gE trivial rfl rfl rfl rfl rfl rfl ?_
   refine gZ (u':=11) trivial rfl rfl rfl rfl rfl rfl rfl rfl ?_
   refine gT trivial rfl rfl rfl rfl rfl rfl rfl rfl rfl rfl (Nat.le_of_ble_eq_true rfl) rfl ?_
   refine gM trivial (.inr rfl) rfl rfl rfl ?_
   refine rg_nil nofun ?_
   refine vc_seq ?_
   refine vc_seq ?_
   refine vc_region hm ?_
   refine gL trivial rfl rfl rfl rfl rfl rfl rfl rfl ?_
   refine gL trivial rfl rfl rfl rfl rfl rfl rfl rfl ?_
   refine gC0 [] (same_nn) trivial rfl rfl rfl rfl (by trivial) rfl rfl rfl rfl rfl ?_
   refine gN trivial rfl rfl rfl rfl ?_
   refine gM trivial (.inl rfl) rfl rfl rfl ?_
   refine gM ⟨_,_,rfl,rfl,(notT rfl)⟩ (.inl rfl) rfl rfl rfl ?_
   refine gM ⟨_,_,rfl,rfl,(notT rfl)⟩ (.inl rfl) rfl rfl rfl ?_
   refine gC0 [9] (wpNums_n) ⟨_,_,rfl,rfl,(notT rfl)⟩ rfl rfl rfl rfl ⟨rFlat (rI_flat []) rfl (.inl rfl) rfl,trivial⟩ rfl rfl rfl rfl rfl ?_
   refine gN ⟨_,_,rfl,rfl,(notT rfl)⟩ rfl rfl rfl rfl ?_
   refine gPF trivial rfl rfl (notT rfl) rfl rfl rfl ?_
   refine gM trivial (.inl rfl) rfl rfl rfl ?_
   refine gL ⟨_,_,rfl,rfl,(notT rfl)⟩ rfl rfl rfl rfl rfl rfl rfl rfl ?_
   refine gC0 [1,2,3,4,5] (spec_StoreOk_c (s:=s) (kk:=kk) (cc:=cc) hb.z) ⟨_,_,rfl,rfl,(notT rfl)⟩ rfl rfl rfl rfl ⟨rFlat (hls_flat (rS_flat s.now)) rfl (.inl rfl) rfl,rFlat (rS_flat s.sure) rfl (.inl rfl) rfl,rFlat (rI_flat s.last) rfl (.inl rfl) rfl,rFlat (rI_flat s.slast) rfl (.inl rfl) rfl,rFlat (rI_flat s.fl) rfl (.inl rfl) rfl,trivial⟩ rfl rfl rfl rfl rfl ?_
   refine gN ⟨_,_,rfl,rfl,(notT rfl)⟩ rfl rfl rfl rfl ?_
   refine gPF trivial rfl rfl (notT rfl) rfl rfl rfl ?_
   refine rg_nil nofun ?_
   refine cT rfl (notF hk) ?_
   refine vc_seq ?_
   refine vc_region hm ?_
   refine gL trivial rfl rfl rfl rfl rfl rfl rfl rfl ?_
   refine gL trivial rfl rfl rfl rfl rfl rfl rfl rfl ?_
   refine gC0 [] (same_nn) trivial rfl rfl rfl rfl (by trivial) rfl rfl rfl rfl rfl ?_
   refine gM trivial (.inl rfl) rfl rfl rfl ?_
   refine gM ⟨_,_,rfl,rfl,rfl⟩ (.inl rfl) rfl rfl rfl ?_
   refine gM ⟨_,_,rfl,rfl,rfl⟩ (.inl rfl) rfl rfl rfl ?_
   refine gC0 [9] (wpNums_n) ⟨_,_,rfl,rfl,rfl⟩ rfl rfl rfl rfl ⟨rFlat (rI_flat []) rfl (.inl rfl) rfl,trivial⟩ rfl rfl rfl rfl rfl ?_
   refine gPT trivial rfl rfl rfl rfl rfl rfl ?_
   refine gM trivial (.inr rfl) rfl rfl rfl ?_
   refine rg_nil nofun ?_
   refine vc_ret ?_
   exact ⟨idm,ends0 (.inr rfl) rfl (eqB rfl) rfl rfl rfl⟩
theorem FnStoreReplay_walk {w:World} {v0:Value} {l0:List Int} {N0:Nam} {k0:Nat} (h0:CodeArg w v0 l0 N0 k0):Calls Try.prog 14 #[v0] w fun e w'=>e = .returned (.bool true)∧Below w.heap.size w w' :=
 law_done (FnStoreReplay_c h0.2.2.1 h0.2.2.2) (ρ:=envL [N0]) (by simp only [List.map_cons,List.map_nil,code_r3 (ns:=[N0]) (b:=0) h0 rfl (of_blt rfl)]) ⟨code_at h0 rfl (of_blt rfl),trivial⟩
end Go.Proofs.Ytmekkapacbdbeaa.A

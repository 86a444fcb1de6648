/- Part 2 of the proof of FnExactLockSame: words, contracts of callees, plain lemmas. -/
import Derived.Test.YtcdhnaojdhdehaaZLockSame1
set_option maxHeartbeats 8000000
set_option maxRecDepth 100000
set_option linter.unusedVariables false
set_option linter.unusedSimpArgs false
namespace Go.Proofs.Ytcdhnaojdhdehaa.A
open Go Go.RowKit
set_option maxHeartbeats 4000000
theorem laws_toHoldS_c {T:List Ho} {k:Nat} {off:Nat→Nat} (hT:T.length≤1048576) (hB:∀ h ∈ T,h.r.length≤1048576∧h.w.length≤1048576):FDoes Try.prog 13 [.slice (some ⟨0,k,none⟩) T.length 0] (hp [(0,false,one ⟨hls k (rHv (tabV 1 off T)),50,0⟩),(1,false,inF off 31 0 T)]) (mkF (.slice (some ⟨2,0,none⟩) T.length 0) [0,1] [] [(2,one ⟨rHv (tabV 3 zo T),54,102⟩),(3,inF zo 33 77 T)]):=by
 have hm:Try.prog.follows .mixedOrders=true:=by kernel_rfl
 have hd_:∀ x_ ∈ ([(0,false,one ⟨hls k (rHv (tabV 1 off T)),50,0⟩),(1,false,inF off 31 0 T)]:List (Nat × Bool × Fam)),∀ k_ y_,x_.2.2 k_=some y_→DetB (lt 2) y_:=by
  intro x_ hx k_ y_ e
  simp only [List.mem_cons,List.not_mem_nil,or_false] at hx
  rcases hx with rfl|rfl
  ·exact det_tab (k0:=k) rfl e
  ·exact det_in e
 refine fn_exact (u0:=2) Try.func13 rfl rfl (gets rfl rfl rfl hd_ rfl) ?_
 clear hd_
 refine vc_seq ?_
 refine vc_region hm ?_
 refine gM trivial (.inr rfl) rfl rfl rfl ?_
 refine rg_nil nofun ?_
 refine vc_seq ?_
 refine vc_region hm ?_
 refine gM trivial (.inl rfl) rfl rfl rfl ?_
 refine gK trivial rfl rfl rfl rfl rfl rfl (hls_nil tabV_nil) ?_
 refine gMk (u':=3) trivial rfl rfl rfl rfl rfl rfl rfl rfl rfl rfl rfl rfl rfl rfl ⟨(show 48 * T.length≤1000000000 by omega),by omega⟩ (zeros_row (enc:=eHv) (n:=2) (fun _=>rfl) (by decide) rfl _) ?_
 refine gM trivial (.inr rfl) rfl rfl rfl ?_
 refine rg_nil nofun ?_
 refine vc_seq ?_
 refine vc_seq ?_
 refine vc_region hm ?_
 refine gM trivial (.inr rfl) rfl rfl rfl ?_
 refine rg_nil nofun ?_
 refine vc_block ?_
 refine vc_loopT (fun n_ S_=>∃ (j:Nat),j≤T.length∧n_=T.length - j∧S_=⟨4,[(0,.slice (some ⟨0,k,none⟩) T.length 0),(3,.slice (some ⟨2,0,none⟩) T.length 0),(4,.int .i64 j)],[(0,false,one ⟨hls k (rHv (tabV 1 off T)),50,0⟩),(1,false,inF off 31 0 T),(2,true,one ⟨rHv (tabV 3 zo (fillR T j)),54,102⟩),(3,true,inF zo 33 77 (fillR T j))]⟩) ⟨0,Nat.zero_le _,rfl,rfl⟩ (re_nil (ms:=[0,1,2,3]) (C:=3) rfl ⟨⟨⟨rfl,rfl⟩,rfl⟩,⟨⟨rfl,rfl⟩,rfl⟩,⟨⟨rfl,rfl⟩,rfl⟩,trivial⟩ ⟨ktTab rfl rfl (.inr (.inl rfl)) id rfl rfl,ktIn rfl id rfl,ktTabN rfl fill_0 (.inr (.inl rfl)) id rfl rfl,ktInN fill_0 (by decide) rfl,trivial⟩ rfl rfl (rig_of rfl) rfl) ?_
 rintro n_ S_ ⟨j,hj,rfl,rfl⟩
 refine vc_seq ?_
 refine vc_seq ?_
 refine vc_region hm ?_
 refine gM trivial (.inl rfl) rfl rfl rfl ?_
 refine gM trivial (.inl rfl) rfl rfl rfl ?_
 refine gK trivial rfl rfl rfl rfl rfl rfl (hls_nil tabV_nil) ?_
 refine gI trivial rfl rfl rfl rfl rfl rfl ?_
 refine rg_nil nofun ?_
 refine cI rfl (fun c11=>?_) (fun c11=>?_)
 ·skip
  have p11:=of_decide_eq_true c11
  refine vc_skip ?_
  refine vc_seq ?_
  refine vc_block ?_
  refine vc_region hm ?_
  refine gM trivial (.inl rfl) rfl rfl rfl ?_
  refine gM trivial (.inl rfl) rfl rfl rfl ?_
  refine gM trivial (.inl rfl) rfl rfl rfl ?_
  refine gM trivial (.inl rfl) rfl rfl rfl ?_
  refine gX trivial rfl rfl rfl rfl rfl rfl rfl rfl (by omega) p11 (fun h=>hls_ne (tabV_ne h)) ?_
  refine gL trivial rfl rfl rfl rfl rfl rfl rfl (wR (aH (by omega) p11) rfl) ?_
  refine gCT (as':=[(4,one ⟨rSp (at_ T (j:Int)).r,33,102⟩),(5,one ⟨rSp (at_ T (j:Int)).w,33,102⟩)]) 6 [nA (nm 1 (2 * (j:Int).toNat)),nA (nm 1 (2 * (j:Int).toNat + 1)),nF 4,nF 5] [1] (laws_toHold_c (o:=(at_ T (j:Int))) (k0:=(off (2 * (j:Int).toNat))) (k1:=(off (2 * (j:Int).toNat + 1))) (hB _ (at_mem (by omega) p11)).1 (hB _ (at_mem (by omega) p11)).2) trivial rfl rfl rfl rfl rfl ⟨aRow rfl (hls_flat (rSp_flat _)) rfl (inF_0 (by omega) p11) (.inl rfl) (.inl rfl) rfl,aRow rfl (hls_flat (rSp_flat _)) rfl (inF_1 (by omega) p11) (.inl rfl) (.inl rfl) rfl,trivial⟩ ⟨rFlatT (rSp_flat _) rfl,rFlatT (rSp_flat _) rfl,trivial⟩ ⟨rfl,rfl⟩ rfl rfl rfl ?_
  refine gX trivial rfl rfl rfl rfl rfl rfl rfl rfl (by omega) p11 (fun h=>tabV_ne (by rw [fill_len (by omega)];exact h)) ?_
  refine gT trivial rfl rfl rfl rfl rfl rfl rfl rfl rfl rfl (show 0 + (j:Int).toNat * 2 + 2≤_ from by rw [rowL_len (n:=2) (fun _=>rfl),tabV_len,fill_len (by omega)];omega) (tab_put (i:=j) (show 0 + (j:Int).toNat * 2=j * 2 by omega) (by rw [tabV_len,fill_len (by omega)];omega)) ?_
  refine rg_nil nofun ?_
  refine vc_region hm ?_
  refine gM trivial (.inl rfl) rfl rfl rfl ?_
  refine gA trivial rfl rfl rfl rfl rfl rfl (by omega) ?_
  refine gM trivial (.inr rfl) rfl rfl rfl ?_
  refine rg_nil nofun ?_
  exact lp_nextT ⟨j + 1,(by omega),rfl,rfl⟩ (by omega) (re_fold (ms:=[0,1,2,3]) (C:=3) (C':=3) (i:=2 * (j)) (a:=4) (b:=5) rfl ⟨⟨⟨rfl,rfl⟩,rfl⟩,⟨⟨rfl,rfl⟩,rfl⟩,⟨⟨rfl,rfl⟩,rfl⟩,trivial⟩ ⟨ktTab rfl rfl (.inr (.inl rfl)) id rfl rfl,ktIn rfl id rfl,ktTabC rfl (by rw [List.length_set,tabV_len,fill_len (by omega),fill_len (by omega)]) (fun _=>fl_i p11) (fun i h h'=>fl_j p11 h h') (.inr (.inl rfl)) id rfl rfl,kPutC (fun i h _=>fl_g p11 h) (fl_ho p11) rfl rfl rfl (.inr ⟨.inl rfl,.inr ⟨by decide,by decide,by decide⟩,.inr ⟨by decide,by decide,by decide⟩⟩) (fun _=>⟨rfl,rfl,rfl⟩) rfl,trivial⟩ rfl rfl (rig_of rfl) rfl rfl)
 ·skip
  have p11:=of_decide_eq_false c11
  refine vc_exit ?_
  refine vc_seq ?_
  refine vc_region hm ?_
  refine gM trivial (.inl rfl) rfl rfl rfl ?_
  refine gM trivial (.inr rfl) rfl rfl rfl ?_
  refine rg_nil nofun ?_
  refine vc_ret ?_
  obtain rfl:j=T.length:=by omega
  rw [fill_end]
  exact ⟨_,endsT [(2,2,one ⟨rHv (tabV 3 zo T),54,102⟩),(3,3,inF zo 33 77 T)] (.inr rfl) (.tmp rfl rfl .nil) rfl rfl trivial ⟨asTab rfl rfl rfl,asIn rfl,trivial⟩ rfl⟩
theorem laws_szHold_c {o:Ho} {k0 k1:Nat} {left:Int} (h0:0≤left) (h1:left≤1048576) (hr:o.r.length≤9223372036854775807) (hw:o.w.length≤9223372036854775807):FDoes Try.prog 36 [.agg #[.slice (some ⟨0,k0,none⟩) o.r.length 0,.slice (some ⟨1,k1,none⟩) o.w.length 0],.int .i64 left] (hp [(0,false,one ⟨hls k0 (rSp o.r),31,0⟩),(1,false,one ⟨hls k1 (rSp o.w),31,0⟩)]) { v:=.int .i64 (szH o left),rd:=[0,1] }:=by
 have hm:Try.prog.follows .mixedOrders=true:=by kernel_rfl
 have hd_:∀ x_ ∈ ([(0,false,one ⟨hls k0 (rSp o.r),31,0⟩),(1,false,one ⟨hls k1 (rSp o.w),31,0⟩)]:List (Nat × Bool × Fam)),∀ k_ y_,x_.2.2 k_=some y_→DetB (lt 2) y_:=by
  intro x_ hx k_ y_ e
  simp only [List.mem_cons,List.not_mem_nil,or_false] at hx
  rcases hx with rfl|rfl
  ·exact det_row (hls_flat (rSp_flat o.r)) e
  ·exact det_row (hls_flat (rSp_flat o.w)) e
 refine fn_exact (u0:=2) Try.func36 rfl rfl (gets rfl rfl rfl hd_ rfl) ?_
 clear hd_
 refine vc_seq ?_
 refine vc_region hm ?_
 refine gB (u':=3) trivial rfl rfl rfl rfl rfl rfl rfl rfl ?_
 refine gM trivial (.inr rfl) rfl rfl rfl ?_
 refine rg_nil nofun ?_
 refine vc_seq ?_
 refine vc_region hm ?_
 refine gF trivial rfl rfl rfl rfl rfl ?_
 refine gL trivial rfl rfl rfl rfl rfl rfl rfl rfl ?_
 refine gM trivial (.inl rfl) rfl rfl rfl ?_
 refine gC0 [0] (laws_szSpanS_c (l:=o.r) (k:=k0) (left:=left) (by omega) (by first|omega|(unfold szL;split <;> omega)) hr) trivial rfl rfl rfl rfl ⟨rFlat (hls_flat (rSp_flat o.r)) rfl (.inl rfl) rfl,trivial⟩ rfl rfl rfl rfl rfl ?_
 refine gM trivial (.inr rfl) rfl rfl rfl ?_
 refine rg_nil nofun ?_
 refine vc_seq ?_
 refine vc_seq ?_
 refine vc_region hm ?_
 refine gM trivial (.inl rfl) rfl rfl rfl ?_
 refine gI trivial rfl rfl rfl rfl rfl rfl ?_
 refine rg_nil nofun ?_
 refine cI rfl (fun c10=>?_) (fun c10=>?_)
 ·skip
  have p10:=of_decide_eq_true c10
  refine vc_seq ?_
  refine vc_region hm ?_
  refine gM trivial (.inr rfl) rfl rfl rfl ?_
  refine rg_nil nofun ?_
  refine vc_ret ?_
  exact ⟨idm,ends0 (.inr rfl) rfl (eqI (by unfold szH;unfold szL at *;first|omega|(split <;> omega)|(repeat' split at *) <;> omega)) rfl rfl rfl⟩
 ·skip
  have p10:=of_decide_eq_false c10
  refine vc_skip ?_
  refine vc_seq ?_
  refine vc_region hm ?_
  refine gF trivial rfl rfl rfl rfl rfl ?_
  refine gL trivial rfl rfl rfl rfl rfl rfl rfl rfl ?_
  refine gM trivial (.inl rfl) rfl rfl rfl ?_
  refine gC0 [1] (laws_szSpanS_c (l:=o.w) (k:=k1) (left:=szL left o.r.length) (by omega) (by first|omega|(unfold szL;split <;> omega)) hw) trivial rfl rfl rfl rfl ⟨rFlat (hls_flat (rSp_flat o.w)) rfl (.inl rfl) rfl,trivial⟩ rfl rfl rfl rfl rfl ?_
  refine gM trivial (.inr rfl) rfl rfl rfl ?_
  refine rg_nil nofun ?_
  refine vc_seq ?_
  refine vc_seq ?_
  refine vc_region hm ?_
  refine gM trivial (.inl rfl) rfl rfl rfl ?_
  refine gI trivial rfl rfl rfl rfl rfl rfl ?_
  refine rg_nil nofun ?_
  refine cI rfl (fun c16=>?_) (fun c16=>?_)
  ·skip
   have p16:=of_decide_eq_true c16
   refine vc_seq ?_
   refine vc_region hm ?_
   refine gM trivial (.inr rfl) rfl rfl rfl ?_
   refine rg_nil nofun ?_
   refine vc_ret ?_
   exact ⟨idm,ends0 (.inr rfl) rfl (eqI (by unfold szH;unfold szL at *;first|omega|(split <;> omega)|(repeat' split at *) <;> omega)) rfl rfl rfl⟩
  ·skip
   have p16:=of_decide_eq_false c16
   refine vc_skip ?_
   refine vc_seq ?_
   refine vc_region hm ?_
   refine gM trivial (.inl rfl) rfl rfl rfl ?_
   refine gM trivial (.inr rfl) rfl rfl rfl ?_
   refine rg_nil nofun ?_
   refine vc_ret ?_
   exact ⟨idm,ends0 (.inr rfl) rfl (eqI (by unfold szH;unfold szL at *;first|omega|(split <;> omega)|(repeat' split at *) <;> omega)) rfl rfl rfl⟩
theorem laws_szHoldS_c {T:List Ho} {k:Nat} {off:Nat→Nat} {left:Int} (h0:0≤left) (h1:left≤1048576) (hT:T.length≤9223372036854775807) (hB:∀ h ∈ T,h.r.length≤9223372036854775807∧h.w.length≤9223372036854775807):FDoes Try.prog 11 [.slice (some ⟨0,k,none⟩) T.length 0,.int .i64 left] (hp [(0,false,one ⟨hls k (rHv (tabV 1 off T)),50,0⟩),(1,false,inF off 31 0 T)]) { v:=.int .i64 (szT T left),rd:=[0,1] }:=by
 have hm:Try.prog.follows .mixedOrders=true:=by kernel_rfl
 have hd_:∀ x_ ∈ ([(0,false,one ⟨hls k (rHv (tabV 1 off T)),50,0⟩),(1,false,inF off 31 0 T)]:List (Nat × Bool × Fam)),∀ k_ y_,x_.2.2 k_=some y_→DetB (lt 2) y_:=by
  intro x_ hx k_ y_ e
  simp only [List.mem_cons,List.not_mem_nil,or_false] at hx
  rcases hx with rfl|rfl
  ·exact det_tab (k0:=k) rfl e
  ·exact det_in e
 refine fn_exact (u0:=2) Try.func11 rfl rfl (gets rfl rfl rfl hd_ rfl) ?_
 clear hd_
 refine vc_seq ?_
 refine vc_region hm ?_
 refine gM trivial (.inr rfl) rfl rfl rfl ?_
 refine rg_nil nofun ?_
 refine vc_seq ?_
 refine vc_region hm ?_
 refine gM trivial (.inl rfl) rfl rfl rfl ?_
 refine gM trivial (.inl rfl) rfl rfl rfl ?_
 refine gK trivial rfl rfl rfl rfl rfl rfl (hls_nil tabV_nil) ?_
 refine gA trivial rfl rfl rfl rfl rfl rfl (by omega) ?_
 refine gM trivial (.inr rfl) rfl rfl rfl ?_
 refine rg_nil nofun ?_
 refine vc_seq ?_
 refine vc_seq ?_
 refine vc_region hm ?_
 refine gM trivial (.inl rfl) rfl rfl rfl ?_
 refine gI trivial rfl rfl rfl rfl rfl rfl ?_
 refine rg_nil nofun ?_
 refine cI rfl (fun c11=>?_) (fun c11=>?_)
 ·skip
  have p11:=of_decide_eq_true c11
  refine vc_seq ?_
  refine vc_region hm ?_
  refine gM trivial (.inr rfl) rfl rfl rfl ?_
  refine rg_nil nofun ?_
  refine vc_ret ?_
  exact ⟨idm,ends0 (.inr rfl) rfl (eqI (by first|exact (szT_1 p11)|exact (szT_1 p11).symm)) rfl rfl rfl⟩
 ·skip
  have p11:=of_decide_eq_false c11
  refine vc_skip ?_
  refine vc_seq ?_
  refine vc_seq ?_
  refine vc_region hm ?_
  refine gM trivial (.inr rfl) rfl rfl rfl ?_
  refine rg_nil nofun ?_
  refine vc_block ?_
  refine vc_loopT (fun n_ S_=>∃ (j:Nat),j≤T.length∧0≤(left - T.length - tot (T.take j))∧n_=T.length - j∧S_=⟨2,[(0,.slice (some ⟨0,k,none⟩) T.length 0),(1,.int .i64 (left - T.length - tot (T.take j))),(5,.int .i64 j)],[(0,false,one ⟨hls k (rHv (tabV 1 off T)),50,0⟩),(1,false,inF off 31 0 T)]⟩) ⟨0,Nat.zero_le _,(show 0≤left - T.length - tot [] by unfold tot;omega),rfl,rfl⟩ (re_nil (ms:=[0,1]) (C:=999) rfl ⟨⟨⟨rfl,rfl⟩,rfl⟩,⟨⟨rfl,eqI (show _ - (0:Int)=_ by omega)⟩,rfl⟩,⟨⟨rfl,rfl⟩,rfl⟩,trivial⟩ ⟨ktTab rfl rfl (.inr (.inl rfl)) id rfl rfl,ktIn rfl id rfl,trivial⟩ rfl rfl (rig_of rfl) rfl) ?_
  rintro n_ S_ ⟨j,hj,hl,rfl,rfl⟩
  refine vc_seq ?_
  refine vc_seq ?_
  refine vc_region hm ?_
  refine gM trivial (.inl rfl) rfl rfl rfl ?_
  refine gM trivial (.inl rfl) rfl rfl rfl ?_
  refine gK trivial rfl rfl rfl rfl rfl rfl (hls_nil tabV_nil) ?_
  refine gI trivial rfl rfl rfl rfl rfl rfl ?_
  refine rg_nil nofun ?_
  refine cI rfl (fun c15=>?_) (fun c15=>?_)
  ·skip
   have p15:=of_decide_eq_true c15
   refine vc_skip ?_
   refine vc_seq ?_
   refine vc_block ?_
   refine vc_seq ?_
   refine vc_region hm ?_
   refine gM trivial (.inl rfl) rfl rfl rfl ?_
   refine gM trivial (.inl rfl) rfl rfl rfl ?_
   refine gX trivial rfl rfl rfl rfl rfl rfl rfl rfl (by omega) p15 (fun h=>hls_ne (tabV_ne h)) ?_
   refine gL trivial rfl rfl rfl rfl rfl rfl rfl (wR (aH (by omega) p15) rfl) ?_
   refine gM trivial (.inl rfl) rfl rfl rfl ?_
   refine gCT0 [nA (nm 1 (2 * ((j:Int)).toNat)),nA (nm 1 (2 * ((j:Int)).toNat + 1))] [1] (laws_szHold_c (o:=(at_ T (j:Int))) (k0:=off (2 * ((j:Int)).toNat)) (k1:=off (2 * ((j:Int)).toNat + 1)) hl (by have:=tot_nn (T.take j);omega) (hB _ (at_mem (by omega) p15)).1 (hB _ (at_mem (by omega) p15)).2) trivial rfl rfl rfl rfl rfl ⟨aRow rfl (hls_flat (rSp_flat _)) rfl (inF_0 (by omega) p15) (.inl rfl) (.inl rfl) rfl,aRow rfl (hls_flat (rSp_flat _)) rfl (inF_1 (by omega) p15) (.inl rfl) (.inl rfl) rfl,trivial⟩ rfl rfl rfl rfl ?_
   refine gM trivial (.inr rfl) rfl rfl rfl ?_
   refine rg_nil nofun ?_
   refine vc_seq ?_
   refine vc_region hm ?_
   refine gM trivial (.inl rfl) rfl rfl rfl ?_
   refine gI trivial rfl rfl rfl rfl rfl rfl ?_
   refine rg_nil nofun ?_
   refine cI rfl (fun c25=>?_) (fun c25=>?_)
   ·skip
    have p25:=of_decide_eq_true c25
    refine vc_seq ?_
    refine vc_region hm ?_
    refine gM trivial (.inr rfl) rfl rfl rfl ?_
    refine rg_nil nofun ?_
    refine vc_ret ?_
    exact ⟨idm,ends0 (.inr rfl) rfl (eqI (by first|exact (szT_2 p15 p25)|exact (szT_2 p15 p25).symm)) rfl rfl rfl⟩
   ·skip
    have p25:=of_decide_eq_false c25
    refine vc_skip ?_
    refine vc_region hm ?_
    refine gM trivial (.inl rfl) rfl rfl rfl ?_
    refine gA trivial rfl rfl rfl rfl rfl rfl (by omega) ?_
    refine gM trivial (.inr rfl) rfl rfl rfl ?_
    refine rg_nil nofun ?_
    exact lp_nextT ⟨j + 1,(by omega),(szT_step p15 p25).2,rfl,rfl⟩ (by omega) (re_nil (ms:=[0,1]) (C:=999) rfl ⟨⟨⟨rfl,rfl⟩,rfl⟩,⟨⟨rfl,eqI (szT_step p15 p25).1.symm⟩,rfl⟩,⟨⟨rfl,rfl⟩,rfl⟩,trivial⟩ ⟨ktTab rfl rfl (.inr (.inl rfl)) id rfl rfl,ktIn rfl id rfl,trivial⟩ rfl rfl (rig_of rfl) rfl)
  ·skip
   have p15:=of_decide_eq_false c15
   refine vc_exit ?_
   refine vc_seq ?_
   refine vc_region hm ?_
   refine gM trivial (.inl rfl) rfl rfl rfl ?_
   refine gM trivial (.inr rfl) rfl rfl rfl ?_
   refine rg_nil nofun ?_
   refine vc_ret ?_
   exact ⟨idm,ends0 (.inr rfl) rfl (eqI (by first|exact (szT_3 p15 hj hl)|exact (szT_3 p15 hj hl).symm)) rfl rfl rfl⟩
theorem laws_eqHold_c {x y:Ho} (hr:x.r.length≤1048576) (hw:x.w.length≤1048576):FDoes Try.prog 42 [.agg #[.slice (some ⟨0,0,none⟩) x.r.length 0,.slice (some ⟨1,0,none⟩) x.w.length 0],.agg #[.slice (some ⟨2,0,none⟩) y.r.length 0,.slice (some ⟨3,0,none⟩) y.w.length 0]] (hp [(0,false,one ⟨rSp x.r,33,0⟩),(1,false,one ⟨rSp x.w,33,0⟩),(2,false,one ⟨rSp y.r,33,0⟩),(3,false,one ⟨rSp y.w,33,0⟩)]) { v:=.bool (decide (x=y)),rd:=[0,1,2,3] }:=by
 have hm:Try.prog.follows .mixedOrders=true:=by kernel_rfl
 have hd_:∀ x_ ∈ ([(0,false,one ⟨rSp x.r,33,0⟩),(1,false,one ⟨rSp x.w,33,0⟩),(2,false,one ⟨rSp y.r,33,0⟩),(3,false,one ⟨rSp y.w,33,0⟩)]:List (Nat × Bool × Fam)),∀ k_ y_,x_.2.2 k_=some y_→DetB (lt 4) y_:=by
  intro x_ hx k_ y_ e
  simp only [List.mem_cons,List.not_mem_nil,or_false] at hx
  rcases hx with rfl|rfl|rfl|rfl
  ·exact det_row (rSp_flat x.r) e
  ·exact det_row (rSp_flat x.w) e
  ·exact det_row (rSp_flat y.r) e
  ·exact det_row (rSp_flat y.w) e
 refine fn_exact (u0:=4) Try.func42 rfl rfl (gets rfl rfl rfl hd_ rfl) ?_
 clear hd_
 refine vc_seq ?_
 refine vc_region hm ?_
 refine gB (u':=5) trivial rfl rfl rfl rfl rfl rfl rfl rfl ?_
 refine gB (u':=6) trivial rfl rfl rfl rfl rfl rfl rfl rfl ?_
 refine gM trivial (.inr rfl) rfl rfl rfl ?_
 refine rg_nil nofun ?_
 refine vc_seq ?_
 refine vc_seq ?_
 refine vc_region hm ?_
 refine gF trivial rfl rfl rfl rfl rfl ?_
 refine gL trivial rfl rfl rfl rfl rfl rfl rfl rfl ?_
 refine gF trivial rfl rfl rfl rfl rfl ?_
 refine gL trivial rfl rfl rfl rfl rfl rfl rfl rfl ?_
 refine gC0 [0,2] (laws_eqSpanS_c (a:=x.r) (b:=y.r) hr) trivial rfl rfl rfl rfl ⟨rFlat (rSp_flat x.r) rfl (.inl rfl) rfl,rFlat (rSp_flat y.r) rfl (.inl rfl) rfl,trivial⟩ rfl rfl rfl rfl rfl ?_
 refine gN trivial rfl rfl rfl rfl ?_
 refine rg_nil nofun ?_
 refine cI rfl (fun c10=>?_) (fun c10=>?_)
 ·skip
  have n10:=unT c10
  refine vc_seq ?_
  refine vc_region hm ?_
  refine gM trivial (.inr rfl) rfl rfl rfl ?_
  refine rg_nil nofun ?_
  refine vc_ret ?_
  exact ⟨idm,ends0 (.inr rfl) rfl (eqB (ho_ne1 n10)) rfl rfl rfl⟩
 ·skip
  have n10:=unF c10
  refine vc_skip ?_
  refine vc_seq ?_
  refine vc_seq ?_
  refine vc_region hm ?_
  refine gF trivial rfl rfl rfl rfl rfl ?_
  refine gL trivial rfl rfl rfl rfl rfl rfl rfl rfl ?_
  refine gF trivial rfl rfl rfl rfl rfl ?_
  refine gL trivial rfl rfl rfl rfl rfl rfl rfl rfl ?_
  refine gC0 [1,3] (laws_eqSpanS_c (a:=x.w) (b:=y.w) hw) trivial rfl rfl rfl rfl ⟨rFlat (rSp_flat x.w) rfl (.inl rfl) rfl,rFlat (rSp_flat y.w) rfl (.inl rfl) rfl,trivial⟩ rfl rfl rfl rfl rfl ?_
  refine gN trivial rfl rfl rfl rfl ?_
  refine rg_nil nofun ?_
  refine cI rfl (fun c16=>?_) (fun c16=>?_)
  ·skip
   have n16:=unT c16
   refine vc_seq ?_
   refine vc_region hm ?_
   refine gM trivial (.inr rfl) rfl rfl rfl ?_
   refine rg_nil nofun ?_
   refine vc_ret ?_
   exact ⟨idm,ends0 (.inr rfl) rfl (eqB (ho_ne2 n16)) rfl rfl rfl⟩
  ·skip
   have n16:=unF c16
   refine vc_skip ?_
   refine vc_seq ?_
   refine vc_region hm ?_
   refine gM trivial (.inr rfl) rfl rfl rfl ?_
   refine rg_nil nofun ?_
   refine vc_ret ?_
   exact ⟨idm,ends0 (.inr rfl) rfl (eqB (ho_eq n10 n16)) rfl rfl rfl⟩
theorem laws_eqHoldS_c {A B:List Ho} (hT:A.length≤1048576) (hA:∀ h ∈ A,h.r.length≤1048576∧h.w.length≤1048576):FDoes Try.prog 15 [.slice (some ⟨0,0,none⟩) A.length 0,.slice (some ⟨2,0,none⟩) B.length 0] (hp [(0,false,one ⟨rHv (tabV 1 zo A),54,0⟩),(1,false,inF zo 33 0 A),(2,false,one ⟨rHv (tabV 3 zo B),54,0⟩),(3,false,inF zo 33 0 B)]) { v:=.bool (decide (A=B)),rd:=[0,1,2,3] }:=by
 have hm:Try.prog.follows .mixedOrders=true:=by kernel_rfl
 have hd_:∀ x_ ∈ ([(0,false,one ⟨rHv (tabV 1 zo A),54,0⟩),(1,false,inF zo 33 0 A),(2,false,one ⟨rHv (tabV 3 zo B),54,0⟩),(3,false,inF zo 33 0 B)]:List (Nat × Bool × Fam)),∀ k_ y_,x_.2.2 k_=some y_→DetB (lt 4) y_:=by
  intro x_ hx k_ y_ e
  simp only [List.mem_cons,List.not_mem_nil,or_false] at hx
  rcases hx with rfl|rfl|rfl|rfl
  ·exact det_tab (k0:=0) rfl e
  ·exact det_in e
  ·exact det_tab (k0:=0) rfl e
  ·exact det_in e
 refine fn_exact (u0:=4) Try.func15 rfl rfl (gets rfl rfl rfl hd_ rfl) ?_
 clear hd_
 refine vc_seq ?_
 refine vc_region hm ?_
 refine gM trivial (.inr rfl) rfl rfl rfl ?_
 refine rg_nil nofun ?_
 refine vc_seq ?_
 refine vc_seq ?_
 refine vc_region hm ?_
 refine gM trivial (.inl rfl) rfl rfl rfl ?_
 refine gK trivial rfl rfl rfl rfl rfl rfl tabV_nil ?_
 refine gM trivial (.inl rfl) rfl rfl rfl ?_
 refine gK trivial rfl rfl rfl rfl rfl rfl tabV_nil ?_
 refine gI trivial rfl rfl rfl rfl rfl rfl ?_
 refine rg_nil nofun ?_
 refine cI rfl (fun c10=>?_) (fun c10=>?_)
 ·skip
  have p10:=bne_iff_ne.1 c10
  refine vc_seq ?_
  refine vc_region hm ?_
  refine gM trivial (.inr rfl) rfl rfl rfl ?_
  refine rg_nil nofun ?_
  refine vc_ret ?_
  exact ⟨idm,ends0 (.inr rfl) rfl (eqB (decide_eq_false (len_ne p10))) rfl rfl rfl⟩
 ·skip
  have p10:=bne_eq_false_iff_eq.1 c10
  refine vc_skip ?_
  refine vc_seq ?_
  refine vc_seq ?_
  refine vc_region hm ?_
  refine gM trivial (.inr rfl) rfl rfl rfl ?_
  refine rg_nil nofun ?_
  refine vc_block ?_
  have hl:A.length=B.length:=by omega
  refine vc_loopT (fun n_ S_=>∃ (j:Nat),j≤A.length∧A.take j=B.take j∧n_=A.length - j∧S_=⟨4,[(0,.slice (some ⟨0,0,none⟩) A.length 0),(1,.slice (some ⟨2,0,none⟩) B.length 0),(5,.int .i64 j)],[(0,false,one ⟨rHv (tabV 1 zo A),54,0⟩),(1,false,inF zo 33 0 A),(2,false,one ⟨rHv (tabV 3 zo B),54,0⟩),(3,false,inF zo 33 0 B)]⟩) ⟨0,Nat.zero_le _,rfl,rfl,rfl⟩ (re_nil (ms:=[0,1,2,3]) (C:=999) rfl ⟨⟨⟨rfl,rfl⟩,rfl⟩,⟨⟨rfl,rfl⟩,rfl⟩,⟨⟨rfl,rfl⟩,rfl⟩,trivial⟩ ⟨ktTab (k:=0) rfl rfl (.inr (.inl rfl)) id rfl rfl,ktIn rfl id rfl,ktTab (k:=0) rfl rfl (.inr (.inl rfl)) id rfl rfl,ktIn rfl id rfl,trivial⟩ rfl rfl (rig_of rfl) rfl) ?_
  rintro n_ S_ ⟨j,hj,hk,rfl,rfl⟩
  refine vc_seq ?_
  refine vc_seq ?_
  refine vc_region hm ?_
  refine gM trivial (.inl rfl) rfl rfl rfl ?_
  refine gM trivial (.inl rfl) rfl rfl rfl ?_
  refine gK trivial rfl rfl rfl rfl rfl rfl tabV_nil ?_
  refine gI trivial rfl rfl rfl rfl rfl rfl ?_
  refine rg_nil nofun ?_
  refine cI rfl (fun c14=>?_) (fun c14=>?_)
  ·skip
   have p14:=of_decide_eq_true c14
   refine vc_skip ?_
   refine vc_seq ?_
   refine vc_block ?_
   refine vc_seq ?_
   refine vc_region hm ?_
   refine gM trivial (.inl rfl) rfl rfl rfl ?_
   refine gM trivial (.inl rfl) rfl rfl rfl ?_
   refine gX trivial rfl rfl rfl rfl rfl rfl rfl rfl (by omega) (by omega) tabV_ne ?_
   refine gL trivial rfl rfl rfl rfl rfl rfl rfl (aH (by omega) p14) ?_
   refine gM trivial (.inl rfl) rfl rfl rfl ?_
   refine gM trivial (.inl rfl) rfl rfl rfl ?_
   refine gX trivial rfl rfl rfl rfl rfl rfl rfl rfl (by omega) (by omega) tabV_ne ?_
   refine gL trivial rfl rfl rfl rfl rfl rfl rfl (aH (by omega) (by omega)) ?_
   refine gCT0 [nA (nm 1 (2 * ((j:Int)).toNat)),nA (nm 1 (2 * ((j:Int)).toNat + 1)),nA (nm 3 (2 * ((j:Int)).toNat)),nA (nm 3 (2 * ((j:Int)).toNat + 1))] [1,3] (laws_eqHold_c (x:=(at_ A (j:Int))) (y:=(at_ B (j:Int))) (hA _ (at_mem (by omega) p14)).1 (hA _ (at_mem (by omega) p14)).2) trivial rfl rfl rfl rfl rfl ⟨aRow rfl (rSp_flat _) rfl (inF_0 (by omega) p14) (.inl rfl) (.inl rfl) rfl,aRow rfl (rSp_flat _) rfl (inF_1 (by omega) p14) (.inl rfl) (.inl rfl) rfl,aRow rfl (rSp_flat _) rfl (inF_0 (by omega) (by omega)) (.inl rfl) (.inl rfl) rfl,aRow rfl (rSp_flat _) rfl (inF_1 (by omega) (by omega)) (.inl rfl) (.inl rfl) rfl,trivial⟩ rfl rfl rfl rfl ?_
   refine gN trivial rfl rfl rfl rfl ?_
   refine rg_nil (fun _=>by kernel_rfl) ?_
   refine cI rfl (fun c26=>?_) (fun c26=>?_)
   ·skip
    have n26:=unT c26
    refine vc_seq ?_
    refine vc_region hm ?_
    refine gM trivial (.inr rfl) rfl rfl rfl ?_
    refine rg_nil nofun ?_
    refine vc_ret ?_
    exact ⟨idm,ends0 (.inr rfl) rfl (eqB (decide_eq_false (at_ne (of_dF n26)))) rfl rfl rfl⟩
   ·skip
    have n26:=unF c26
    refine vc_skip ?_
    refine vc_region hm ?_
    refine gM trivial (.inl rfl) rfl rfl rfl ?_
    refine gA trivial rfl rfl rfl rfl rfl rfl (by omega) ?_
    refine gM trivial (.inr rfl) rfl rfl rfl ?_
    refine rg_nil nofun ?_
    have q26:=of_dT n26
    exact lp_nextT ⟨j + 1,(by omega),(take_step hk p14 hl q26),rfl,rfl⟩ (by omega) (re_nil (ms:=[0,1,2,3]) (C:=999) rfl ⟨⟨⟨rfl,rfl⟩,rfl⟩,⟨⟨rfl,rfl⟩,rfl⟩,⟨⟨rfl,rfl⟩,rfl⟩,trivial⟩ ⟨ktTab (k:=0) rfl rfl (.inr (.inl rfl)) id rfl rfl,ktIn rfl id rfl,ktTab (k:=0) rfl rfl (.inr (.inl rfl)) id rfl rfl,ktIn rfl id rfl,trivial⟩ rfl rfl (rig_of rfl) rfl)
  ·skip
   have p14:=of_decide_eq_false c14
   refine vc_exit ?_
   refine vc_seq ?_
   refine vc_region hm ?_
   refine gM trivial (.inr rfl) rfl rfl rfl ?_
   refine rg_nil nofun ?_
   refine vc_ret ?_
   exact ⟨idm,ends0 (.inr rfl) rfl (eqB (decide_eq_true (take_all hk p14 hl))) rfl rfl rfl⟩
theorem spec_l4Spans_c {a b:List Sp} (hn:a.length≤1048576):FDoes Try.prog 37 [.slice (some ⟨0,0,none⟩) a.length 0,.slice (some ⟨1,0,none⟩) b.length 0] (hp [(0,false,one ⟨rSp a,33,0⟩),(1,false,one ⟨rSp b,33,0⟩)]) { v:=.bool (decide (a=b)),rd:=[0,1] }:=by
 have hm:Try.prog.follows .mixedOrders=true:=by kernel_rfl
 have hd_:∀ x_ ∈ ([(0,false,one ⟨rSp a,33,0⟩),(1,false,one ⟨rSp b,33,0⟩)]:List (Nat × Bool × Fam)),∀ k_ y_,x_.2.2 k_=some y_→DetB (lt 2) y_:=by
  intro x_ hx k_ y_ e
  simp only [List.mem_cons,List.not_mem_nil,or_false] at hx
  rcases hx with rfl|rfl
  ·exact det_row (rSp_flat a) e
  ·exact det_row (rSp_flat b) e
 refine fn_exact (u0:=2) Try.func37 rfl rfl (gets rfl rfl rfl hd_ rfl) ?_
 clear hd_
 refine vc_seq ?_
 refine vc_region hm ?_
 refine gM trivial (.inr rfl) rfl rfl rfl ?_
 refine rg_nil nofun ?_
 refine vc_seq ?_
 refine vc_seq ?_
 refine vc_region hm ?_
 refine gM trivial (.inl rfl) rfl rfl rfl ?_
 refine gK trivial rfl rfl rfl rfl rfl rfl rSp_nil ?_
 refine gM trivial (.inl rfl) rfl rfl rfl ?_
 refine gK trivial rfl rfl rfl rfl rfl rfl rSp_nil ?_
 refine gI trivial rfl rfl rfl rfl rfl rfl ?_
 refine rg_nil nofun ?_
 refine cI rfl (fun c10=>?_) (fun c10=>?_)
 ·skip
  have p10:=bne_iff_ne.1 c10
  refine vc_seq ?_
  refine vc_region hm ?_
  refine gM trivial (.inr rfl) rfl rfl rfl ?_
  refine rg_nil nofun ?_
  refine vc_ret ?_
  exact ⟨idm,ends0 (.inr rfl) rfl (eqB (decide_eq_false (len_ne p10))) rfl rfl rfl⟩
 ·skip
  have p10:=bne_eq_false_iff_eq.1 c10
  refine vc_skip ?_
  refine vc_seq ?_
  refine vc_seq ?_
  refine vc_region hm ?_
  refine gM trivial (.inr rfl) rfl rfl rfl ?_
  refine rg_nil nofun ?_
  refine vc_block ?_
  have hl:a.length=b.length:=by omega
  refine vc_loop' (fun n_ S_=>∃ (j:Nat),j≤a.length∧a.take j=b.take j∧n_=a.length - j∧S_=⟨2,[(0,.slice (some ⟨0,0,none⟩) a.length 0),(1,.slice (some ⟨1,0,none⟩) b.length 0),(5,.int .i64 j)],[(0,false,one ⟨rSp a,33,0⟩),(1,false,one ⟨rSp b,33,0⟩)]⟩) (m0:=idm) ⟨0,Nat.zero_le _,rfl,rfl,rfl⟩ (le_mk rfl ⟨⟨rfl,rfl⟩,⟨rfl,rfl⟩,⟨rfl,rfl⟩,trivial⟩ ⟨kFlat (rSp_flat a) rfl id rfl,kFlat (rSp_flat b) rfl id rfl,trivial⟩ rfl (fun _ _=>rfl)) ?_
  rintro n_ S_ ⟨j,hj,hk,rfl,rfl⟩
  refine vc_seq ?_
  refine vc_seq ?_
  refine vc_region hm ?_
  refine gM trivial (.inl rfl) rfl rfl rfl ?_
  refine gM trivial (.inl rfl) rfl rfl rfl ?_
  refine gK trivial rfl rfl rfl rfl rfl rfl rSp_nil ?_
  refine gI trivial rfl rfl rfl rfl rfl rfl ?_
  refine rg_nil nofun ?_
  refine cI rfl (fun c14=>?_) (fun c14=>?_)
  ·skip
   have p14:=of_decide_eq_true c14
   refine vc_skip ?_
   refine vc_seq ?_
   refine vc_block ?_
   refine vc_seq ?_
   refine vc_region hm ?_
   refine gM trivial (.inl rfl) rfl rfl rfl ?_
   refine gM trivial (.inl rfl) rfl rfl rfl ?_
   refine gX trivial rfl rfl rfl rfl rfl rfl rfl rfl (by omega) (by omega) rSp_ne ?_
   refine gL trivial rfl rfl rfl rfl rfl rfl rfl (aSp (by omega) (by omega)) ?_
   refine gM trivial (.inl rfl) rfl rfl rfl ?_
   refine gM trivial (.inl rfl) rfl rfl rfl ?_
   refine gX trivial rfl rfl rfl rfl rfl rfl rfl rfl (by omega) (by omega) rSp_ne ?_
   refine gL trivial rfl rfl rfl rfl rfl rfl rfl (aSp (by omega) (by omega)) ?_
   refine gNeS trivial rfl (by kernel_rfl) rfl rfl rfl rfl ?_
   refine rg_nil (fun _=>by kernel_rfl) ?_
   refine cI rfl (fun c25=>?_) (fun c25=>?_)
   ·skip
    have n25:=unT c25
    refine vc_seq ?_
    refine vc_region hm ?_
    refine gM trivial (.inr rfl) rfl rfl rfl ?_
    refine rg_nil nofun ?_
    refine vc_ret ?_
    exact ⟨idm,ends0 (.inr rfl) rfl (eqB (decide_eq_false (at_ne (of_dF n25)))) rfl rfl rfl⟩
   ·skip
    have n25:=unF c25
    refine vc_skip ?_
    refine vc_region hm ?_
    refine gM trivial (.inl rfl) rfl rfl rfl ?_
    refine gA trivial rfl rfl rfl rfl rfl rfl (by omega) ?_
    refine gM trivial (.inr rfl) rfl rfl rfl ?_
    refine rg_nil nofun ?_
    have q:=of_dT n25
    exact lp_next (m:=idm) ⟨j + 1,(by omega),(take_step hk p14 hl q),rfl,rfl⟩ (by omega) (le_mk rfl ⟨⟨rfl,rfl⟩,⟨rfl,rfl⟩,⟨rfl,rfl⟩,trivial⟩ ⟨kFlat (rSp_flat a) rfl id rfl,kFlat (rSp_flat b) rfl id rfl,trivial⟩ rfl (fun _ _=>rfl))
  ·skip
   have p14:=of_decide_eq_false c14
   refine vc_exit ?_
   refine vc_seq ?_
   refine vc_region hm ?_
   refine gM trivial (.inr rfl) rfl rfl rfl ?_
   refine rg_nil nofun ?_
   refine vc_ret ?_
   exact ⟨idm,ends0 (.inr rfl) rfl (eqB (decide_eq_true (take_all hk p14 hl))) rfl rfl rfl⟩
theorem equal_c {a b:List Sp} (hn:a.length≤1048576):FDoes Try.prog 41 [.slice (some ⟨0,0,none⟩) a.length 0,.slice (some ⟨1,0,none⟩) b.length 0] (hp [(0,false,one ⟨rSp a,33,0⟩),(1,false,one ⟨rSp b,33,0⟩)]) { v:=.bool (decide (a=b)),rd:=[0,1] }:=by
 have hm:Try.prog.follows .mixedOrders=true:=by kernel_rfl
 have hd_:∀ x_ ∈ ([(0,false,one ⟨rSp a,33,0⟩),(1,false,one ⟨rSp b,33,0⟩)]:List (Nat × Bool × Fam)),∀ k_ y_,x_.2.2 k_=some y_→DetB (lt 2) y_:=by
  intro x_ hx k_ y_ e
  simp only [List.mem_cons,List.not_mem_nil,or_false] at hx
  rcases hx with rfl|rfl
  ·exact det_row (rSp_flat a) e
  ·exact det_row (rSp_flat b) e
 refine fn_exact (u0:=2) Try.func41 rfl rfl (gets rfl rfl rfl hd_ rfl) ?_
 clear hd_
 refine vc_seq ?_
 refine vc_region hm ?_
 refine gM trivial (.inr rfl) rfl rfl rfl ?_
 refine rg_nil nofun ?_
 refine vc_seq ?_
 refine vc_seq ?_
 refine vc_region hm ?_
 refine gM trivial (.inl rfl) rfl rfl rfl ?_
 refine gK trivial rfl rfl rfl rfl rfl rfl rSp_nil ?_
 refine gM trivial (.inl rfl) rfl rfl rfl ?_
 refine gK trivial rfl rfl rfl rfl rfl rfl rSp_nil ?_
 refine gI trivial rfl rfl rfl rfl rfl rfl ?_
 refine rg_nil nofun ?_
 refine cI rfl (fun c10=>?_) (fun c10=>?_)
 ·skip
  have p10:=bne_iff_ne.1 c10
  refine vc_seq ?_
  refine vc_region hm ?_
  refine gM trivial (.inr rfl) rfl rfl rfl ?_
  refine rg_nil nofun ?_
  refine vc_ret ?_
  exact ⟨idm,ends0 (.inr rfl) rfl (eqB (decide_eq_false (len_ne p10))) rfl rfl rfl⟩
 ·skip
  have p10:=bne_eq_false_iff_eq.1 c10
  refine vc_skip ?_
  refine vc_seq ?_
  refine vc_seq ?_
  refine vc_region hm ?_
  refine gM trivial (.inl rfl) rfl rfl rfl ?_
  refine gK trivial rfl rfl rfl rfl rfl rfl rSp_nil ?_
  refine gM trivial (.inl rfl) rfl rfl rfl ?_
  refine rg_nil nofun ?_
  refine vc_block ?_
  have hl:a.length=b.length:=by omega
  refine vc_loop' (fun n_ S_=>∃ (j:Nat),j≤a.length∧a.take j=b.take j∧n_=a.length - j∧S_=⟨2,[(0,.slice (some ⟨0,0,none⟩) a.length 0),(1,.slice (some ⟨1,0,none⟩) b.length 0),(12,.int .i64 a.length),(13,.int .i64 j)],[(0,false,one ⟨rSp a,33,0⟩),(1,false,one ⟨rSp b,33,0⟩)]⟩) (m0:=idm) ⟨0,Nat.zero_le _,rfl,rfl,rfl⟩ (le_mk rfl ⟨⟨rfl,rfl⟩,⟨rfl,rfl⟩,⟨rfl,rfl⟩,⟨rfl,rfl⟩,trivial⟩ ⟨kFlat (rSp_flat a) rfl id rfl,kFlat (rSp_flat b) rfl id rfl,trivial⟩ rfl (fun _ _=>rfl)) ?_
  rintro n_ S_ ⟨j,hj,hk,rfl,rfl⟩
  refine vc_seq ?_
  refine vc_region hm ?_
  refine gI trivial rfl rfl rfl rfl rfl rfl ?_
  refine rg_nil nofun ?_
  refine vc_seq ?_
  refine cI rfl (fun c14=>?_) (fun c14=>?_)
  ·skip
   have p14:=of_decide_eq_true c14
   refine vc_skip ?_
   refine vc_seq ?_
   refine vc_block ?_
   refine vc_seq ?_
   refine vc_region hm ?_
   refine gM trivial (.inl rfl) rfl rfl rfl ?_
   refine gM trivial (.inr rfl) rfl rfl rfl ?_
   refine rg_nil nofun ?_
   refine vc_seq ?_
   refine vc_region hm ?_
   refine gM trivial (.inl rfl) rfl rfl rfl ?_
   refine gM trivial (.inl rfl) rfl rfl rfl ?_
   refine gX trivial rfl rfl rfl rfl rfl rfl rfl rfl (by omega) (by omega) rSp_ne ?_
   refine gL trivial rfl rfl rfl rfl rfl rfl rfl (aSp (by omega) (by omega)) ?_
   refine gM trivial (.inl rfl) rfl rfl rfl ?_
   refine gM trivial (.inl rfl) rfl rfl rfl ?_
   refine gX trivial rfl rfl rfl rfl rfl rfl rfl rfl (by omega) (by omega) rSp_ne ?_
   refine gL trivial rfl rfl rfl rfl rfl rfl rfl (aSp (by omega) (by omega)) ?_
   refine gNeS trivial rfl (by kernel_rfl) rfl rfl rfl rfl ?_
   refine rg_nil (fun _=>by kernel_rfl) ?_
   refine cI rfl (fun c24=>?_) (fun c24=>?_)
   ·skip
    have n24:=unT c24
    refine vc_seq ?_
    refine vc_region hm ?_
    refine gM trivial (.inr rfl) rfl rfl rfl ?_
    refine rg_nil nofun ?_
    refine vc_ret ?_
    exact ⟨idm,ends0 (.inr rfl) rfl (eqB (decide_eq_false (at_ne (of_dF n24)))) rfl rfl rfl⟩
   ·skip
    have n24:=unF c24
    refine vc_skip ?_
    refine vc_region hm ?_
    refine gA trivial rfl rfl rfl rfl rfl rfl (by omega) ?_
    refine gM trivial (.inl rfl) rfl rfl rfl ?_
    refine rg_nil nofun ?_
    have q:=of_dT n24
    exact lp_next (m:=idm) ⟨j + 1,(by omega),(take_step hk p14 hl q),rfl,rfl⟩ (by omega) (le_mk rfl ⟨⟨rfl,rfl⟩,⟨rfl,rfl⟩,⟨rfl,rfl⟩,⟨rfl,rfl⟩,trivial⟩ ⟨kFlat (rSp_flat a) rfl id rfl,kFlat (rSp_flat b) rfl id rfl,trivial⟩ rfl (fun _ _=>rfl))
  ·skip
   have p14:=of_decide_eq_false c14
   refine vc_exit ?_
   refine vc_seq ?_
   refine vc_region hm ?_
   refine gM trivial (.inr rfl) rfl rfl rfl ?_
   refine rg_nil nofun ?_
   refine vc_ret ?_
   exact ⟨idm,ends0 (.inr rfl) rfl (eqB (decide_eq_true (take_all hk p14 hl))) rfl rfl rfl⟩
theorem lockSame1_c {x y:Ho} (hr:x.r.length≤1048576) (hw:x.w.length≤1048576):FDoes Try.prog 40 [.agg #[.slice (some ⟨0,0,none⟩) x.r.length 0,.slice (some ⟨1,0,none⟩) x.w.length 0],.agg #[.slice (some ⟨2,0,none⟩) y.r.length 0,.slice (some ⟨3,0,none⟩) y.w.length 0]] (hp [(0,false,one ⟨rSp x.r,33,0⟩),(1,false,one ⟨rSp x.w,33,0⟩),(2,false,one ⟨rSp y.r,33,0⟩),(3,false,one ⟨rSp y.w,33,0⟩)]) { v:=.bool (decide (x=y)),rd:=[0,1,2,3] }:=by
 have hm:Try.prog.follows .mixedOrders=true:=by kernel_rfl
 have hd_:∀ x_ ∈ ([(0,false,one ⟨rSp x.r,33,0⟩),(1,false,one ⟨rSp x.w,33,0⟩),(2,false,one ⟨rSp y.r,33,0⟩),(3,false,one ⟨rSp y.w,33,0⟩)]:List (Nat × Bool × Fam)),∀ k_ y_,x_.2.2 k_=some y_→DetB (lt 4) y_:=by
  intro x_ hx k_ y_ e
  simp only [List.mem_cons,List.not_mem_nil,or_false] at hx
  rcases hx with rfl|rfl|rfl|rfl
  ·exact det_row (rSp_flat x.r) e
  ·exact det_row (rSp_flat x.w) e
  ·exact det_row (rSp_flat y.r) e
  ·exact det_row (rSp_flat y.w) e
 refine fn_exact (u0:=4) Try.func40 rfl rfl (gets rfl rfl rfl hd_ rfl) ?_
 clear hd_
 refine vc_seq ?_
 refine vc_region hm ?_
 refine gB (u':=5) trivial rfl rfl rfl rfl rfl rfl rfl rfl ?_
 refine gB (u':=6) trivial rfl rfl rfl rfl rfl rfl rfl rfl ?_
 refine gM trivial (.inr rfl) rfl rfl rfl ?_
 refine rg_nil nofun ?_
 refine vc_seq ?_
 refine vc_region hm ?_
 refine gF trivial rfl rfl rfl rfl rfl ?_
 refine gL trivial rfl rfl rfl rfl rfl rfl rfl rfl ?_
 refine gF trivial rfl rfl rfl rfl rfl ?_
 refine gL trivial rfl rfl rfl rfl rfl rfl rfl rfl ?_
 refine gC0 [0,2] (equal_c (a:=x.r) (b:=y.r) hr) trivial rfl rfl rfl rfl ⟨rFlat (rSp_flat x.r) rfl (.inl rfl) rfl,rFlat (rSp_flat y.r) rfl (.inl rfl) rfl,trivial⟩ rfl rfl rfl rfl rfl ?_
 refine gM trivial (.inl rfl) rfl rfl rfl ?_
 refine gI2 (d:=10) rfl (fun c10=>?_) (fun c10=>?_)
 ·skip
  refine gF ⟨_,_,rfl,rfl,c10⟩ rfl rfl rfl rfl rfl ?_
  refine gL ⟨_,_,rfl,rfl,c10⟩ rfl rfl rfl rfl rfl rfl rfl rfl ?_
  refine gF ⟨_,_,rfl,rfl,c10⟩ rfl rfl rfl rfl rfl ?_
  refine gL ⟨_,_,rfl,rfl,c10⟩ rfl rfl rfl rfl rfl rfl rfl rfl ?_
  refine gC0 [1,3] (equal_c (a:=x.w) (b:=y.w) hw) ⟨_,_,rfl,rfl,c10⟩ rfl rfl rfl rfl ⟨rFlat (rSp_flat x.w) rfl (.inl rfl) rfl,rFlat (rSp_flat y.w) rfl (.inl rfl) rfl,trivial⟩ rfl rfl rfl rfl rfl ?_
  refine gPT trivial rfl rfl c10 rfl rfl rfl ?_
  refine gM trivial (.inr rfl) rfl rfl rfl ?_
  refine rg_nil nofun ?_
  refine vc_ret ?_
  exact ⟨idm,ends0 (.inr rfl) rfl (eqB (ho_eqs c10).symm) rfl rfl rfl⟩
 ·skip
  refine gO ⟨_,_,rfl,rfl,c10⟩ rfl rfl ?_
  refine gO ⟨_,_,rfl,rfl,c10⟩ rfl rfl ?_
  refine gO ⟨_,_,rfl,rfl,c10⟩ rfl rfl ?_
  refine gO ⟨_,_,rfl,rfl,c10⟩ rfl rfl ?_
  refine gO ⟨_,_,rfl,rfl,c10⟩ rfl rfl ?_
  refine gPF trivial rfl rfl c10 rfl rfl rfl ?_
  refine gM trivial (.inr rfl) rfl rfl rfl ?_
  refine rg_nil nofun ?_
  refine vc_ret ?_
  exact ⟨idm,ends0 (.inr rfl) rfl (eqB (ho_ne1 c10)) rfl rfl rfl⟩
theorem spec_LockSame_c {A B:List Ho} (hT:A.length≤1048576) (hA:∀ h ∈ A,h.r.length≤1048576∧h.w.length≤1048576):FDoes Try.prog 12 [.slice (some ⟨0,0,none⟩) A.length 0,.slice (some ⟨2,0,none⟩) B.length 0] (hp [(0,false,one ⟨rHv (tabV 1 zo A),54,0⟩),(1,false,inF zo 33 0 A),(2,false,one ⟨rHv (tabV 3 zo B),54,0⟩),(3,false,inF zo 33 0 B)]) { v:=.bool (decide (A=B)),rd:=[0,1,2,3] }:=by
 have hm:Try.prog.follows .mixedOrders=true:=by kernel_rfl
 have hd_:∀ x_ ∈ ([(0,false,one ⟨rHv (tabV 1 zo A),54,0⟩),(1,false,inF zo 33 0 A),(2,false,one ⟨rHv (tabV 3 zo B),54,0⟩),(3,false,inF zo 33 0 B)]:List (Nat × Bool × Fam)),∀ k_ y_,x_.2.2 k_=some y_→DetB (lt 4) y_:=by
  intro x_ hx k_ y_ e
  simp only [List.mem_cons,List.not_mem_nil,or_false] at hx
  rcases hx with rfl|rfl|rfl|rfl
  ·exact det_tab (k0:=0) rfl e
  ·exact det_in e
  ·exact det_tab (k0:=0) rfl e
  ·exact det_in e
 refine fn_exact (u0:=4) Try.func12 rfl rfl (gets rfl rfl rfl hd_ rfl) ?_
 clear hd_
 refine vc_seq ?_
 refine vc_region hm ?_
 refine gM trivial (.inr rfl) rfl rfl rfl ?_
 refine rg_nil nofun ?_
 refine vc_seq ?_
 refine vc_seq ?_
 refine vc_region hm ?_
 refine gM trivial (.inl rfl) rfl rfl rfl ?_
 refine gK trivial rfl rfl rfl rfl rfl rfl tabV_nil ?_
 refine gM trivial (.inl rfl) rfl rfl rfl ?_
 refine gK trivial rfl rfl rfl rfl rfl rfl tabV_nil ?_
 refine gI trivial rfl rfl rfl rfl rfl rfl ?_
 refine rg_nil nofun ?_
 refine cI rfl (fun c10=>?_) (fun c10=>?_)
 ·skip
  have p10:=bne_iff_ne.1 c10
  refine vc_seq ?_
  refine vc_region hm ?_
  refine gM trivial (.inr rfl) rfl rfl rfl ?_
  refine rg_nil nofun ?_
  refine vc_ret ?_
  exact ⟨idm,ends0 (.inr rfl) rfl (eqB (decide_eq_false (len_ne p10))) rfl rfl rfl⟩
 ·skip
  have p10:=bne_eq_false_iff_eq.1 c10
  refine vc_skip ?_
  refine vc_seq ?_
  refine vc_seq ?_
  refine vc_region hm ?_
  refine gM trivial (.inr rfl) rfl rfl rfl ?_
  refine rg_nil nofun ?_
  refine vc_block ?_
  have hl:A.length=B.length:=by omega
  refine vc_loopT (fun n_ S_=>∃ (j:Nat),j≤A.length∧A.take j=B.take j∧n_=A.length - j∧S_=⟨4,[(0,.slice (some ⟨0,0,none⟩) A.length 0),(1,.slice (some ⟨2,0,none⟩) B.length 0),(5,.int .i64 j)],[(0,false,one ⟨rHv (tabV 1 zo A),54,0⟩),(1,false,inF zo 33 0 A),(2,false,one ⟨rHv (tabV 3 zo B),54,0⟩),(3,false,inF zo 33 0 B)]⟩) ⟨0,Nat.zero_le _,rfl,rfl,rfl⟩ (re_nil (ms:=[0,1,2,3]) (C:=999) rfl ⟨⟨⟨rfl,rfl⟩,rfl⟩,⟨⟨rfl,rfl⟩,rfl⟩,⟨⟨rfl,rfl⟩,rfl⟩,trivial⟩ ⟨ktTab (k:=0) rfl rfl (.inr (.inl rfl)) id rfl rfl,ktIn rfl id rfl,ktTab (k:=0) rfl rfl (.inr (.inl rfl)) id rfl rfl,ktIn rfl id rfl,trivial⟩ rfl rfl (rig_of rfl) rfl) ?_
  rintro n_ S_ ⟨j,hj,hk,rfl,rfl⟩
  refine vc_seq ?_
  refine vc_seq ?_
  refine vc_region hm ?_
  refine gM trivial (.inl rfl) rfl rfl rfl ?_
  refine gM trivial (.inl rfl) rfl rfl rfl ?_
  refine gK trivial rfl rfl rfl rfl rfl rfl tabV_nil ?_
  refine gI trivial rfl rfl rfl rfl rfl rfl ?_
  refine rg_nil nofun ?_
  refine cI rfl (fun c14=>?_) (fun c14=>?_)
  ·skip
   have p14:=of_decide_eq_true c14
   refine vc_skip ?_
   refine vc_seq ?_
   refine vc_block ?_
   refine vc_seq ?_
   refine vc_region hm ?_
   refine gM trivial (.inl rfl) rfl rfl rfl ?_
   refine gM trivial (.inl rfl) rfl rfl rfl ?_
   refine gX trivial rfl rfl rfl rfl rfl rfl rfl rfl (by omega) (by omega) tabV_ne ?_
   refine gF trivial rfl rfl rfl rfl rfl ?_
   refine gL trivial rfl rfl rfl rfl rfl rfl rfl (lH0 (by omega) p14) ?_
   refine gM trivial (.inl rfl) rfl rfl rfl ?_
   refine gM trivial (.inl rfl) rfl rfl rfl ?_
   refine gX trivial rfl rfl rfl rfl rfl rfl rfl rfl (by omega) (by omega) tabV_ne ?_
   refine gF trivial rfl rfl rfl rfl rfl ?_
   refine gL trivial rfl rfl rfl rfl rfl rfl rfl (lH0 (by omega) (by omega)) ?_
   refine gCT0 [nA (nm 1 (2 * ((j:Int)).toNat)),nA (nm 3 (2 * ((j:Int)).toNat))] [1,3] (spec_l4Spans_c (a:=(at_ A (j:Int)).r) (b:=(at_ B (j:Int)).r) (hA _ (at_mem (by omega) p14)).1) trivial rfl rfl rfl rfl rfl ⟨aRow rfl (rSp_flat _) rfl (inF_0 (by omega) p14) (.inl rfl) (.inl rfl) rfl,aRow rfl (rSp_flat _) rfl (inF_0 (by omega) (by omega)) (.inl rfl) (.inl rfl) rfl,trivial⟩ rfl rfl rfl rfl ?_
   refine gN trivial rfl rfl rfl rfl ?_
   refine gM trivial (.inl rfl) rfl rfl rfl ?_
   refine gI2 (d:=29) rfl (fun c29=>?_) (fun c29=>?_)
   ·skip
    have n29:=unT c29
    refine gO ⟨_,_,rfl,rfl,c29⟩ rfl rfl ?_
    refine gO ⟨_,_,rfl,rfl,c29⟩ rfl rfl ?_
    refine gO ⟨_,_,rfl,rfl,c29⟩ rfl rfl ?_
    refine gO ⟨_,_,rfl,rfl,c29⟩ rfl rfl ?_
    refine gO ⟨_,_,rfl,rfl,c29⟩ rfl rfl ?_
    refine gO ⟨_,_,rfl,rfl,c29⟩ rfl rfl ?_
    refine gO ⟨_,_,rfl,rfl,c29⟩ rfl rfl ?_
    refine gO ⟨_,_,rfl,rfl,c29⟩ rfl rfl ?_
    refine gO ⟨_,_,rfl,rfl,c29⟩ rfl rfl ?_
    refine gO ⟨_,_,rfl,rfl,c29⟩ rfl rfl ?_
    refine gO ⟨_,_,rfl,rfl,c29⟩ rfl rfl ?_
    refine gO ⟨_,_,rfl,rfl,c29⟩ rfl rfl ?_
    refine gPT trivial rfl rfl c29 rfl rfl rfl ?_
    refine rg_nil (fun _=>by kernel_rfl) ?_
    refine cT rfl rfl ?_
    refine vc_seq ?_
    refine vc_region hm ?_
    refine gM trivial (.inr rfl) rfl rfl rfl ?_
    refine rg_nil nofun ?_
    refine vc_ret ?_
    exact ⟨idm,ends0 (.inr rfl) rfl (eqB (decide_eq_false (at_ne (of_dF (by first|exact ho_ne1 (by assumption)|exact ho_ne2 (by assumption)))))) rfl rfl rfl⟩
   ·skip
    have n29:=unF c29
    refine gM ⟨_,_,rfl,rfl,c29⟩ (.inl rfl) rfl rfl rfl ?_
    refine gM ⟨_,_,rfl,rfl,c29⟩ (.inl rfl) rfl rfl rfl ?_
    refine gX ⟨_,_,rfl,rfl,c29⟩ rfl rfl rfl rfl rfl rfl rfl rfl (by omega) (by omega) tabV_ne ?_
    refine gF ⟨_,_,rfl,rfl,c29⟩ rfl rfl rfl rfl rfl ?_
    refine gL ⟨_,_,rfl,rfl,c29⟩ rfl rfl rfl rfl rfl rfl rfl (lH1 (by omega) p14) ?_
    refine gM ⟨_,_,rfl,rfl,c29⟩ (.inl rfl) rfl rfl rfl ?_
    refine gM ⟨_,_,rfl,rfl,c29⟩ (.inl rfl) rfl rfl rfl ?_
    refine gX ⟨_,_,rfl,rfl,c29⟩ rfl rfl rfl rfl rfl rfl rfl rfl (by omega) (by omega) tabV_ne ?_
    refine gF ⟨_,_,rfl,rfl,c29⟩ rfl rfl rfl rfl rfl ?_
    refine gL ⟨_,_,rfl,rfl,c29⟩ rfl rfl rfl rfl rfl rfl rfl (lH1 (by omega) (by omega)) ?_
    refine gCT0 [nA (nm 1 (2 * ((j:Int)).toNat + 1)),nA (nm 3 (2 * ((j:Int)).toNat + 1))] [1,3] (spec_l4Spans_c (a:=(at_ A (j:Int)).w) (b:=(at_ B (j:Int)).w) (hA _ (at_mem (by omega) p14)).2) ⟨_,_,rfl,rfl,c29⟩ rfl rfl rfl rfl rfl ⟨aRow rfl (rSp_flat _) rfl (inF_1 (by omega) p14) (.inl rfl) (.inl rfl) rfl,aRow rfl (rSp_flat _) rfl (inF_1 (by omega) (by omega)) (.inl rfl) (.inl rfl) rfl,trivial⟩ rfl rfl rfl rfl ?_
    refine gN ⟨_,_,rfl,rfl,c29⟩ rfl rfl rfl rfl ?_
    refine gPF trivial rfl rfl c29 rfl rfl rfl ?_
    refine rg_nil (fun _=>by kernel_rfl) ?_
    refine cI rfl (fun c42=>?_) (fun c42=>?_)
    ·skip
     have n42:=unT c42
     refine vc_seq ?_
     refine vc_region hm ?_
     refine gM trivial (.inr rfl) rfl rfl rfl ?_
     refine rg_nil nofun ?_
     refine vc_ret ?_
     exact ⟨idm,ends0 (.inr rfl) rfl (eqB (decide_eq_false (at_ne (of_dF (by first|exact ho_ne1 (by assumption)|exact ho_ne2 (by assumption)))))) rfl rfl rfl⟩
    ·skip
     have n42:=unF c42
     refine vc_skip ?_
     refine vc_region hm ?_
     refine gM trivial (.inl rfl) rfl rfl rfl ?_
     refine gA trivial rfl rfl rfl rfl rfl rfl (by omega) ?_
     refine gM trivial (.inr rfl) rfl rfl rfl ?_
     refine rg_nil nofun ?_
     exact lp_nextT ⟨j + 1,(by omega),(take_step hk p14 hl (of_dT (ho_eq n29 n42))),rfl,rfl⟩ (by omega) (re_nil (ms:=[0,1,2,3]) (C:=999) rfl ⟨⟨⟨rfl,rfl⟩,rfl⟩,⟨⟨rfl,rfl⟩,rfl⟩,⟨⟨rfl,rfl⟩,rfl⟩,trivial⟩ ⟨ktTab (k:=0) rfl rfl (.inr (.inl rfl)) id rfl rfl,ktIn rfl id rfl,ktTab (k:=0) rfl rfl (.inr (.inl rfl)) id rfl rfl,ktIn rfl id rfl,trivial⟩ rfl rfl (rig_of rfl) rfl)
  ·skip
   have p14:=of_decide_eq_false c14
   refine vc_exit ?_
   refine vc_seq ?_
   refine vc_region hm ?_
   refine gM trivial (.inr rfl) rfl rfl rfl ?_
   refine rg_nil nofun ?_
   refine vc_ret ?_
   exact ⟨idm,ends0 (.inr rfl) rfl (eqB (decide_eq_true (take_all hk p14 hl))) rfl rfl rfl⟩
theorem equalFunc_c {A B:List Ho} (hT:A.length≤1048576) (hA:∀ h ∈ A,h.r.length≤1048576∧h.w.length≤1048576):FDoes Try.prog 39 [.slice (some ⟨0,0,none⟩) A.length 0,.slice (some ⟨2,0,none⟩) B.length 0,Value.func (.func 40) #[] #[]] (hp [(0,false,one ⟨rHv (tabV 1 zo A),54,0⟩),(1,false,inF zo 33 0 A),(2,false,one ⟨rHv (tabV 3 zo B),54,0⟩),(3,false,inF zo 33 0 B)]) { v:=.bool (decide (A=B)),rd:=[0,1,2,3] }:=by
 have hm:Try.prog.follows .mixedOrders=true:=by kernel_rfl
 have hd_:∀ x_ ∈ ([(0,false,one ⟨rHv (tabV 1 zo A),54,0⟩),(1,false,inF zo 33 0 A),(2,false,one ⟨rHv (tabV 3 zo B),54,0⟩),(3,false,inF zo 33 0 B)]:List (Nat × Bool × Fam)),∀ k_ y_,x_.2.2 k_=some y_→DetB (lt 4) y_:=by
  intro x_ hx k_ y_ e
  simp only [List.mem_cons,List.not_mem_nil,or_false] at hx
  rcases hx with rfl|rfl|rfl|rfl
  ·exact det_tab (k0:=0) rfl e
  ·exact det_in e
  ·exact det_tab (k0:=0) rfl e
  ·exact det_in e
 refine fn_exact (u0:=4) Try.func39 rfl rfl (gets rfl rfl rfl hd_ rfl) ?_
 clear hd_
 refine vc_seq ?_
 refine vc_region hm ?_
 refine gM trivial (.inr rfl) rfl rfl rfl ?_
 refine rg_nil nofun ?_
 refine vc_seq ?_
 refine vc_seq ?_
 refine vc_region hm ?_
 refine gM trivial (.inl rfl) rfl rfl rfl ?_
 refine gK trivial rfl rfl rfl rfl rfl rfl tabV_nil ?_
 refine gM trivial (.inl rfl) rfl rfl rfl ?_
 refine gK trivial rfl rfl rfl rfl rfl rfl tabV_nil ?_
 refine gI trivial rfl rfl rfl rfl rfl rfl ?_
 refine rg_nil nofun ?_
 refine cI rfl (fun c14=>?_) (fun c14=>?_)
 ·skip
  have p14:=bne_iff_ne.1 c14
  refine vc_seq ?_
  refine vc_region hm ?_
  refine gM trivial (.inr rfl) rfl rfl rfl ?_
  refine rg_nil nofun ?_
  refine vc_ret ?_
  exact ⟨idm,ends0 (.inr rfl) rfl (eqB (decide_eq_false (len_ne p14))) rfl rfl rfl⟩
 ·skip
  have p14:=bne_eq_false_iff_eq.1 c14
  refine vc_skip ?_
  refine vc_seq ?_
  refine vc_seq ?_
  refine vc_region hm ?_
  refine gM trivial (.inl rfl) rfl rfl rfl ?_
  refine gK trivial rfl rfl rfl rfl rfl rfl tabV_nil ?_
  refine gM trivial (.inl rfl) rfl rfl rfl ?_
  refine rg_nil nofun ?_
  refine vc_block ?_
  have hl:A.length=B.length:=by omega
  refine vc_loopT (fun n_ S_=>∃ (j:Nat),j≤A.length∧A.take j=B.take j∧n_=A.length - j∧S_=⟨4,[(1,.slice (some ⟨2,0,none⟩) B.length 0),(2,Value.func (.func 40) #[] #[]),(15,.slice (some ⟨0,0,none⟩) A.length 0),(16,.int .i64 A.length),(17,.int .i64 j)],[(0,false,one ⟨rHv (tabV 1 zo A),54,0⟩),(1,false,inF zo 33 0 A),(2,false,one ⟨rHv (tabV 3 zo B),54,0⟩),(3,false,inF zo 33 0 B)]⟩) ⟨0,Nat.zero_le _,rfl,rfl,rfl⟩ (re_nil (ms:=[0,1,2,3]) (C:=999) rfl ⟨⟨⟨rfl,rfl⟩,rfl⟩,⟨⟨rfl,rfl⟩,rfl⟩,⟨⟨rfl,rfl⟩,rfl⟩,⟨⟨rfl,rfl⟩,rfl⟩,⟨⟨rfl,rfl⟩,rfl⟩,trivial⟩ ⟨ktTab (k:=0) rfl rfl (.inr (.inl rfl)) id rfl rfl,ktIn rfl id rfl,ktTab (k:=0) rfl rfl (.inr (.inl rfl)) id rfl rfl,ktIn rfl id rfl,trivial⟩ rfl rfl (rig_of rfl) rfl) ?_
  rintro n_ S_ ⟨j,hj,hk,rfl,rfl⟩
  refine vc_seq ?_
  refine vc_region hm ?_
  refine gI trivial rfl rfl rfl rfl rfl rfl ?_
  refine rg_nil nofun ?_
  refine vc_seq ?_
  refine cI rfl (fun c18=>?_) (fun c18=>?_)
  ·skip
   have p18:=of_decide_eq_true c18
   refine vc_skip ?_
   refine vc_seq ?_
   refine vc_block ?_
   refine vc_seq ?_
   refine vc_region hm ?_
   refine gM trivial (.inl rfl) rfl rfl rfl ?_
   refine gX trivial rfl rfl rfl rfl rfl rfl rfl rfl (by omega) (by omega) tabV_ne ?_
   refine gL trivial rfl rfl rfl rfl rfl rfl rfl (aH (by omega) p18) ?_
   refine gZ (u':=5) trivial rfl rfl rfl rfl rfl rfl rfl rfl ?_
   refine gM trivial (.inr rfl) rfl rfl rfl ?_
   refine gT trivial rfl rfl rfl rfl rfl rfl rfl rfl rfl rfl (Nat.le_of_ble_eq_true rfl) rfl ?_
   refine rg_nil nofun ?_
   refine vc_seq ?_
   refine vc_region hm ?_
   refine gM trivial (.inl rfl) rfl rfl rfl ?_
   refine gM trivial (.inl rfl) rfl rfl rfl ?_
   refine gX trivial rfl rfl rfl rfl rfl rfl rfl rfl (by omega) (by omega) tabV_ne ?_
   refine gL trivial rfl rfl rfl rfl rfl rfl rfl (aH (by omega) (by omega)) ?_
   refine gZ (u':=6) trivial rfl rfl rfl rfl rfl rfl rfl rfl ?_
   refine gT trivial rfl rfl rfl rfl rfl rfl rfl rfl rfl rfl (Nat.le_of_ble_eq_true rfl) rfl ?_
   refine rg_nil nofun ?_
   refine vc_seq ?_
   refine vc_region hm ?_
   refine gM trivial (.inl rfl) rfl rfl rfl ?_
   refine gL trivial rfl rfl rfl rfl rfl rfl rfl rfl ?_
   refine gL trivial rfl rfl rfl rfl rfl rfl rfl rfl ?_
   refine gCcT (as_:=[]) (as':=[]) 6 [nA (nm 1 (2 * ((j:Int)).toNat)),nA (nm 1 (2 * ((j:Int)).toNat + 1)),nA (nm 3 (2 * ((j:Int)).toNat)),nA (nm 3 (2 * ((j:Int)).toNat + 1))] [1,3] (lockSame1_c (x:=(at_ A (j:Int))) (y:=(at_ B (j:Int))) (hA _ (at_mem (by omega) p18)).1 (hA _ (at_mem (by omega) p18)).2) trivial rfl rfl rfl rfl rfl rfl rfl ⟨aRow rfl (rSp_flat _) rfl (inF_0 (by omega) p18) (.inl rfl) (.inl rfl) rfl,aRow rfl (rSp_flat _) rfl (inF_1 (by omega) p18) (.inl rfl) (.inl rfl) rfl,aRow rfl (rSp_flat _) rfl (inF_0 (by omega) (by omega)) (.inl rfl) (.inl rfl) rfl,aRow rfl (rSp_flat _) rfl (inF_1 (by omega) (by omega)) (.inl rfl) (.inl rfl) rfl,trivial⟩ trivial ⟨rfl,rfl⟩ rfl rfl rfl ?_
   refine gN trivial rfl rfl rfl rfl ?_
   refine rg_nil nofun ?_
   refine cI rfl (fun c30=>?_) (fun c30=>?_)
   ·skip
    have n30:=unT c30
    refine vc_seq ?_
    refine vc_region hm ?_
    refine gM trivial (.inr rfl) rfl rfl rfl ?_
    refine rg_nil nofun ?_
    refine vc_ret ?_
    exact ⟨idm,ends0 (.inr rfl) rfl (eqB (decide_eq_false (at_ne (of_dF n30)))) rfl rfl rfl⟩
   ·skip
    have n30:=unF c30
    refine vc_skip ?_
    refine vc_region hm ?_
    refine gA trivial rfl rfl rfl rfl rfl rfl (by omega) ?_
    refine gM trivial (.inl rfl) rfl rfl rfl ?_
    refine rg_nil nofun ?_
    exact lp_nextT ⟨j + 1,(by omega),(take_step hk p18 hl (of_dT n30)),rfl,rfl⟩ (by omega) (re_nil (ms:=[0,1,2,3]) (C:=999) rfl ⟨⟨⟨rfl,rfl⟩,rfl⟩,⟨⟨rfl,rfl⟩,rfl⟩,⟨⟨rfl,rfl⟩,rfl⟩,⟨⟨rfl,rfl⟩,rfl⟩,⟨⟨rfl,rfl⟩,rfl⟩,trivial⟩ ⟨ktTab (k:=0) rfl rfl (.inr (.inl rfl)) id rfl rfl,ktIn rfl id rfl,ktTab (k:=0) rfl rfl (.inr (.inl rfl)) id rfl rfl,ktIn rfl id rfl,trivial⟩ rfl rfl (rig_of rfl) rfl)
  ·skip
   have p18:=of_decide_eq_false c18
   refine vc_exit ?_
   refine vc_seq ?_
   refine vc_region hm ?_
   refine gM trivial (.inr rfl) rfl rfl rfl ?_
   refine rg_nil nofun ?_
   refine vc_ret ?_
   exact ⟨idm,ends0 (.inr rfl) rfl (eqB (decide_eq_true (take_all hk p18 hl))) rfl rfl rfl⟩
theorem impl_LockSame_c {A B:List Ho} (hT:A.length≤1048576) (hA:∀ h ∈ A,h.r.length≤1048576∧h.w.length≤1048576):FDoes Try.prog 14 [.slice (some ⟨0,0,none⟩) A.length 0,.slice (some ⟨2,0,none⟩) B.length 0] (hp [(0,false,one ⟨rHv (tabV 1 zo A),54,0⟩),(1,false,inF zo 33 0 A),(2,false,one ⟨rHv (tabV 3 zo B),54,0⟩),(3,false,inF zo 33 0 B)]) { v:=.bool (decide (A=B)),rd:=[0,1,2,3] }:=by
 have hm:Try.prog.follows .mixedOrders=true:=by kernel_rfl
 have hd_:∀ x_ ∈ ([(0,false,one ⟨rHv (tabV 1 zo A),54,0⟩),(1,false,inF zo 33 0 A),(2,false,one ⟨rHv (tabV 3 zo B),54,0⟩),(3,false,inF zo 33 0 B)]:List (Nat × Bool × Fam)),∀ k_ y_,x_.2.2 k_=some y_→DetB (lt 4) y_:=by
  intro x_ hx k_ y_ e
  simp only [List.mem_cons,List.not_mem_nil,or_false] at hx
  rcases hx with rfl|rfl|rfl|rfl
  ·exact det_tab (k0:=0) rfl e
  ·exact det_in e
  ·exact det_tab (k0:=0) rfl e
  ·exact det_in e
 refine fn_exact (u0:=4) Try.func14 rfl rfl (gets rfl rfl rfl hd_ rfl) ?_
 clear hd_
 refine vc_seq ?_
 refine vc_region hm ?_
 refine gM trivial (.inr rfl) rfl rfl rfl ?_
 refine rg_nil nofun ?_
 refine vc_seq ?_
 refine vc_region hm ?_
 refine gM trivial (.inl rfl) rfl rfl rfl ?_
 refine gM trivial (.inl rfl) rfl rfl rfl ?_
 refine gCT0 [nA (nm 0 (0)),nF 1,nA (nm 2 (0)),nF 3] [0,1,2,3] (equalFunc_c (A:=A) (B:=B) hT hA) trivial rfl rfl rfl rfl rfl ⟨aTab (k:=0) rfl rfl rfl rfl (.inl rfl) (.inl rfl) rfl rfl,aIn rfl rfl (.inl rfl) (.inl rfl) rfl,aTab (k:=0) rfl rfl rfl rfl (.inl rfl) (.inl rfl) rfl rfl,aIn rfl rfl (.inl rfl) (.inl rfl) rfl,trivial⟩ rfl rfl rfl rfl ?_
 refine gM trivial (.inr rfl) rfl rfl rfl ?_
 refine rg_nil nofun ?_
 refine vc_ret ?_
 exact ⟨idm,ends0 (.inr rfl) rfl (eqB rfl) rfl rfl rfl⟩
end Go.Proofs.Ytcdhnaojdhdehaa.A
namespace Go.Proofs.Ytcdhnaojdhdehaa.A
open Go Go.RowKit
open Go.Joins Go.ChangeShapes Go.WideShapes Go.Deep
def RawN (w:World) (v:Value) (N:Nam) (k n:Nat) (cs:List Value):Prop :=
 v=(if N.nil=true then zv N.z else .slice (some ⟨N.blk,k,none⟩) n (N.cap - 0))∧(if N.nil=true then hls k cs = [] else ∃ (c:Array Value) (t:TypeId) (z:Nat × Nat),w.heap[N.blk]?=some (.cells c t z)∧∀ (i:Nat) (x:Value),(hls k cs)[i]?=some x→x ≠ hole→c[i]?=some x)
theorem raw_none {w:World}:RawN w (.slice none 0 0) ⟨0,0,true,none⟩ 0 0 []:=⟨rfl,rfl⟩
theorem raw_of {α:Type} {enc:α→List Value} {m:Nat} (he:∀ x,(enc x).length=m) (hm:0<m) {w:World} {a:Addr} {cap:Nat} {l:List α} (h:∀ i x,(rowL enc l)[i]?=some x→w.cell? (a.add i)=some x):∃ N k,RawN w (.slice (some a) l.length cap) N k l.length (rowL enc l):=by
 rcases l with _|⟨x,xs⟩
 ·exact ⟨⟨0,0,true,some (a,cap)⟩,0,rfl,rfl⟩
 ·have hp0:0<(rowL enc (x :: xs)).length:=by rw [rowL_len he,List.length_cons];exact Nat.mul_pos (Nat.succ_pos _) hm
  have h0:=h 0 _ (List.getElem?_eq_getElem hp0)
  have h1:∃ c t z,w.heap[a.block]?=some (.cells c t z)∧a.spot=none:=by
   have e:a.add 0=a:=by simp [Addr.add]
   unfold World.cell? at h0
   rw [e] at h0
   split at h0
   ·rename_i c t z hh
    refine ⟨c,t,z,hh,?_⟩
    split at h0
    ·cases h0
    ·rename_i hs;simpa using hs
   ·cases h0
  obtain ⟨c,t,z,hh,hs⟩:=h1
  obtain ⟨b,off,sp⟩:=a
  simp only at hs hh
  subst hs
  refine ⟨⟨b,cap,false,none⟩,off,rfl,(if_neg Bool.false_ne_true).mpr ⟨c,t,z,hh,fun i v hv hne=>?_⟩⟩
  unfold hls at hv
  by_cases hi:i<off
  ·rw [List.getElem?_append_left (by simpa using hi)] at hv
   have:=List.mem_of_getElem? hv
   exact absurd (List.eq_of_mem_replicate this) hne
  ·rw [List.getElem?_append_right (by simpa using hi),List.length_replicate] at hv
   have:=h (i - off) v hv
   rw [add_eq,cell_eq hh] at this
   rw [← this]
   congr 1
   omega
def AtL (ρ:Env) (w:World):List (Nat × Bool × Fam)→Prop
 | []=>True
 | x :: l=>famAt ρ w x.1 x.2.2∧AtL ρ w l
theorem atL_mem {ρ:Env} {w:World}:∀ {l:List (Nat × Bool × Fam)},AtL ρ w l→∀ b o F,l.lookup b=some (o,F)→famAt ρ w b F
 | x :: l,h,b,o,F,e=>by
  obtain ⟨c,y⟩:=x
  rw [List.lookup_cons] at e
  by_cases hb:b=c
  ·subst hb
   simp at e
   subst e
   exact h.1
  ·have:(b == c)=false:=by simpa using hb
   rw [this] at e
   exact atL_mem h.2 b o F e
theorem law_done {P:Program} {f:FuncId} {args:List Value} {hl:List (Nat × Bool × Fam)} {rd:List Nat} {ρ:Env} {w:World} {vs:Array Value} (h:FDoes P f args (hp hl) { v:=.bool true,rd:=rd }) (ha:(args.map (r3 ρ)).toArray=vs) (hr:AtL ρ w hl) :
  Calls P f vs w fun e w'=>e = .returned (.bool true)∧Below w.heap.size w w':=by
 subst ha
 refine (h.run ρ w ⟨fun b _ o F e=>atL_mem hr b o F e,fun b hb=>(by cases hb)⟩).mono fun e w' ⟨ρ',hB,he⟩=>⟨he,?_⟩
 have hf:=hB.frm
 exact Frm.below ⟨hf.os,hf.tape,hf.output,hf.size,fun k hk hn=>hf.block k hk fun ⟨b,hb,_⟩=>(by cases hb)⟩
section
variable {H:Type} {enc:TypeId × Value→H} {P:Program} {w:World} {base:Nat} {spare:Nat→Bool} {held:Bool}
end
def vInt:Value→Int
 | .int _ n=>n
 | _=>0
section
variable {H:Type} {enc:TypeId × Value→H} {w:World} {base:Nat} {spare:Nat→Bool} {held:Bool}
theorem rd_spansA {fuel:Nat} {v:Value} {x:DataW H × List MemPlace} (h:DataW.trod enc Try.prog w base spare held fuel 48 [v]=some x) :
  ∃ (l:List Sp) (N:Nam) (k:Nat),RawN w v N k l.length (rSp l)∧l.length≤9223372036854775807:=by
 rcases open_slice_pairs Try.underlying48 Try.underlying31 (by kernel_rfl) rfl rfl (by kernel_rfl) (by kernel_rfl) h with ⟨h1,_⟩|⟨a,len,cap,m,n,V0,V1,D0,D1,P0,P1,h1,_,hl,hm,hz,_,hc⟩
 ·simp only [List.cons.injEq,_root_.and_true] at h1
  subst h1
  exact ⟨[],_,_,raw_none,by decide⟩
 ·simp only [List.cons.injEq,_root_.and_true] at h1
  unfold maxLen at hm
  have hlm:len≤m:=by rw [hz];split <;> omega
  have hn:((List.range len).map fun i=>(⟨vInt (V0 i),vInt (V1 i)⟩:Sp)).length=len:=by rw [List.length_map,List.length_range]
  have key:∀ i x,(rSp ((List.range len).map fun i=>(⟨vInt (V0 i),vInt (V1 i)⟩:Sp)))[i]?=some x→w.cell? (a.add i)=some x:=fun i x hx=>by
   have hi:i<len * 2:=by
    have:=(List.getElem?_eq_some_iff.1 hx).1
    rw [rowL_len (n:=2) (fun _=>rfl),hn] at this
    exact this
   have hj:i / 2<len:=by omega
   obtain ⟨q0,q1,t0,t1⟩:=hc (i / 2) (by omega)
   obtain ⟨n0,e0,_,_⟩:=DataW.trod_int Try.underlying3 t0
   obtain ⟨n1,e1,_,_⟩:=DataW.trod_int Try.underlying3 t1
   simp only [List.cons.injEq,_root_.and_true] at e0 e1
   have hg:=rowL_get (enc:=eSp) (n:=2) (fun _=>rfl) ((List.range len).map fun i=>(⟨vInt (V0 i),vInt (V1 i)⟩:Sp)) (i / 2) (i % 2) (by rw [hn];exact hj) (Nat.mod_lt _ (by decide))
   rw [show i / 2 * 2 + i % 2=i by omega,hx,List.getElem_map,List.getElem_range] at hg
   rcases Nat.mod_two_eq_zero_or_one i with hm2|hm2
   ·rw [hm2] at hg
    rw [show a.add i=a.add (i / 2 * 2) by rw [show i / 2 * 2=i by omega],q0,hg,e0];rfl
   ·rw [hm2] at hg
    rw [show a.add i=a.add (i / 2 * 2 + 1) by rw [show i / 2 * 2 + 1=i by omega],q1,hg,e1];rfl
  obtain ⟨N,k,hr⟩:=raw_of (enc:=eSp) (m:=2) (fun _=>rfl) (by decide) (cap:=cap) key
  exact ⟨_,N,k,by rw [h1];rw [hn] at hr ⊢;exact hr,by rw [hn];omega⟩
end
def envG (gs:List (Nat→Nam)):Env:=fun n=>match gs[n % 1000]? with
 | some g=>g (n / 1000)
 | none=>⟨0,0,true,none⟩
theorem envG_nm {gs:List (Nat→Nam)} {b k:Nat} {g:Nat→Nam} (hb:b<1000) (hg:gs[b]?=some g):envG gs (nm b k)=g k:=by
 unfold envG
 rw [nm_mod hb,hg,nm_div hb]
def g0 (N:Nam):Nat→Nam:=fun _=>N
structure HoldsArg (w:World) (v:Value) (T:List Ho) (N:Nam) (k:Nat) (NI:Nat→Nam) (off:Nat→Nat):Prop where
 v:v=if N.nil=true then zv N.z else .slice (some ⟨N.blk,k,none⟩) T.length (N.cap - 0)
 nil:N.nil=true→T = []∧k=0
 row:N.nil=false→∃ (c:Array Value) (t:TypeId) (z:Nat × Nat),w.heap[N.blk]?=some (.cells c t z)∧∀ i:Nat,i<T.length→∃ v0 v1,c[k + 2 * i]?=some v0∧c[k + 2 * i + 1]?=some v1∧RawN w v0 (NI (2 * i)) (off (2 * i)) (at_ T (i:Int)).r.length (rSp (at_ T (i:Int)).r)∧RawN w v1 (NI (2 * i + 1)) (off (2 * i + 1)) (at_ T (i:Int)).w.length (rSp (at_ T (i:Int)).w)
 len:T.length≤9223372036854775807
 lens:∀ h ∈ T,h.r.length≤9223372036854775807∧h.w.length≤9223372036854775807
theorem holds_r3 {w:World} {v:Value} {T:List Ho} {N:Nam} {k:Nat} {NI:Nat→Nam} {off:Nat→Nat} {gs:List (Nat→Nam)} {a:Nat} (h:HoldsArg w v T N k NI off) (ha:gs[a]?=some (g0 N)) (ha':a<1000):r3 (envG gs) (.slice (some ⟨a,k,none⟩) T.length 0)=v:=by
 have e:envG gs a=N:=by
  have:=envG_nm (k:=0) ha' ha
  rw [show nm a 0=a by simp [nm]] at this
  exact this
 show (if (envG gs a).nil=true then zv (envG gs a).z else .slice (some ⟨(envG gs a).blk,k,none⟩) T.length ((envG gs a).cap - 0))=v
 rw [e,h.v]
theorem raw_cell {w:World} {v:Value} {N:Nam} {k n b j:Nat} {cs:List Value} {gs:List (Nat→Nam)} {g:Nat→Nam} (h:RawN w v N k n cs) (hb:gs[b]?=some g) (hb':b<1000) (hj:g j=N):r1 (envG gs) (.slice (some ⟨nm b j,k,none⟩) n 0)=v:=by
 show (if (envG gs (nm b j)).nil=true then zv (envG gs (nm b j)).z else .slice (some ⟨(envG gs (nm b j)).blk,k,none⟩) n ((envG gs (nm b j)).cap - 0))=v
 rw [envG_nm hb' hb,hj,h.1]
theorem raw_blk {w:World} {v:Value} {N:Nam} {k n b j:Nat} {cs:List Value} {t:TypeId} {gs:List (Nat→Nam)} {g:Nat→Nam} (h:RawN w v N k n cs) (hf:cs.all flat1=true) (hb:gs[b]?=some g) (hb':b<1000) (hj:g j=N):blkAt (envG gs) w (nm b j) ⟨hls k cs,t,0⟩:=by
 unfold blkAt
 rw [envG_nm hb' hb,hj]
 have h2:=h.2
 cases hn:N.nil with
 | true=>rw [hn,if_pos rfl] at h2;rw [if_pos rfl];exact ⟨h2,fun q=>absurd rfl q,(by decide:0<100)⟩
 | false =>
  rw [hn,if_neg (by decide)] at h2
  rw [if_neg (by decide),if_pos rfl]
  obtain ⟨c,t',z,h3,h4⟩:=h2
  refine ⟨c,t',z,h3,fun i v hv hne=>?_⟩
  rw [r1_flat (List.all_eq_true.1 (hls_flat (k:=k) hf) v (List.mem_of_getElem? hv))]
  exact h4 i v hv hne
theorem holds_at1 {w:World} {v:Value} {T:List Ho} {N:Nam} {k:Nat} {NI:Nat→Nam} {off:Nat→Nat} {gs:List (Nat→Nam)} {b:Nat} {t:TypeId} (h:HoldsArg w v T N k NI off) (hb:gs[b]?=some NI) (hb':b<1000):famAt (envG gs) w b (inF off t 0 T):=by
 intro j x hx
 unfold inF at hx
 simp only [Option.map_eq_some_iff] at hx
 obtain ⟨y,hy,rfl⟩:=hx
 have hlt:j / 2<T.length:=(List.getElem?_eq_some_iff.1 hy).1
 have hat:at_ T ((j / 2:Nat):Int)=y:=at_of hy
 cases hn:N.nil with
 | true=>rw [(h.nil hn).1] at hlt;simp at hlt
 | false =>
  obtain ⟨c,t',z,_,hr⟩:=h.row hn
  obtain ⟨v0,v1,_,_,r0,r1⟩:=hr (j / 2) hlt
  rw [hat] at r0 r1
  rcases Nat.mod_two_eq_zero_or_one j with hm|hm
  ·have e:2 * (j / 2)=j:=by omega
   rw [e] at r0
   rw [show sel y j=y.r by unfold sel;rw [if_pos hm]]
   exact raw_blk r0 (rSp_flat _) hb hb' rfl
  ·have e:2 * (j / 2) + 1=j:=by omega
   rw [e] at r1
   rw [show sel y j=y.w by unfold sel;rw [if_neg (by omega)]]
   exact raw_blk r1 (rSp_flat _) hb hb' rfl
theorem holds_at0 {w:World} {v:Value} {T:List Ho} {N:Nam} {k:Nat} {NI:Nat→Nam} {off:Nat→Nat} {gs:List (Nat→Nam)} {a b:Nat} {t:TypeId} (h:HoldsArg w v T N k NI off) (ha:gs[a]?=some (g0 N)) (ha':a<1000) (hb:gs[b]?=some NI) (hb':b<1000):famAt (envG gs) w a (one ⟨hls k (rHv (tabV b off T)),t,0⟩):=by
 intro k' x e
 obtain ⟨rfl,rfl⟩:=one_some e
 unfold blkAt
 rw [envG_nm ha' ha]
 show if N.nil=true then _ else _
 cases hn:N.nil with
 | true =>
  obtain ⟨h1,h2⟩:=h.nil hn
  subst h1
  subst h2
  rw [if_pos rfl]
  exact ⟨rfl,fun q=>absurd rfl q,(by decide:0<100)⟩
 | false =>
  rw [if_neg (by decide),if_pos rfl]
  obtain ⟨c,t',z,hh,hr⟩:=h.row hn
  refine ⟨c,t',z,hh,fun i x hx hne=>?_⟩
  have hx:(hls k (rHv (tabV b off T)))[i]?=some x:=hx
  unfold hls at hx
  by_cases hi:i<k
  ·rw [List.getElem?_append_left (by simpa using hi)] at hx
   exact absurd (List.eq_of_mem_replicate (List.mem_of_getElem? hx)) hne
  ·rw [List.getElem?_append_right (by simpa using hi),List.length_replicate] at hx
   have hlt:=(List.getElem?_eq_some_iff.1 hx).1
   rw [rowL_len (n:=2) (fun _=>rfl),tabV_len] at hlt
   have hq:(i - k) / 2<T.length:=by omega
   obtain ⟨v0,v1,c0,c1,r0,r1⟩:=hr ((i - k) / 2) hq
   have hg:=rowL_get (enc:=eHv) (n:=2) (fun _=>rfl) (tabV b off T) ((i - k) / 2) ((i - k) % 2) (by rw [tabV_len];exact hq) (Nat.mod_lt _ (by decide))
   rw [show (i - k) / 2 * 2 + (i - k) % 2=i - k by omega,hx,at_get (by rw [tabV_len];exact hq),at_tabV (by omega) (by omega)] at hg
   rw [Int.toNat_natCast] at hg
   rcases Nat.mod_two_eq_zero_or_one (i - k) with hm|hm
   ·rw [hm] at hg
    have hg:some x=some (.slice (some ⟨nm b (2 * ((i - k) / 2)),off (2 * ((i - k) / 2)),none⟩) (at_ T (((i - k) / 2:Nat):Int)).r.length 0):=hg
    rw [Option.some.inj hg,raw_cell r0 hb hb' rfl,← c0]
    congr 1
    omega
   ·rw [hm] at hg
    have hg:some x=some (.slice (some ⟨nm b (2 * ((i - k) / 2) + 1),off (2 * ((i - k) / 2) + 1),none⟩) (at_ T (((i - k) / 2:Nat):Int)).w.length 0):=hg
    rw [Option.some.inj hg,raw_cell r1 hb hb' rfl,← c1]
    congr 1
    omega
theorem choose2 {n:Nat} {α β γ:Type} [Inhabited α] [Inhabited β] [Inhabited γ] {R:Nat→α→β→γ→Prop} (h:∀ i,i<n→∃ a b c,R i a b c):∃ (f:Nat→α) (g:Nat→β) (k:Nat→γ),∀ i,i<n→R i (f i) (g i) (k i):=by
 classical
 refine ⟨fun i=>if hi:i<n then (h i hi).choose else default,fun i=>if hi:i<n then (h i hi).choose_spec.choose else default,fun i=>if hi:i<n then (h i hi).choose_spec.choose_spec.choose else default,fun i hi=>?_⟩
 simp only [hi,dif_pos]
 exact (h i hi).choose_spec.choose_spec.choose_spec
instance:Inhabited Nam:=⟨⟨0,0,true,none⟩⟩
section
variable {H:Type} {enc:TypeId × Value→H} {w:World} {base:Nat} {spare:Nat→Bool} {held:Bool}
theorem open_holdsA {r:Reach} {b0:Nat} {v:Value} {d:DataW H} {p:List MemPlace} (hv:Value.okWide Try.prog w r b0 22 v) (h:DataW.Trod enc Try.prog w base spare held 22 v d p):∃ T N k NI off,HoldsArg w v T N k NI off:=by
 obtain ⟨a1,len,cap,rfl⟩:=okWide_slice Try.underlying22 hv
 obtain ⟨fuel,hf⟩:=h
 rcases open_slice_pairs Try.underlying22 Try.underlying50 (by kernel_rfl) rfl rfl (by kernel_rfl) (by kernel_rfl) hf with ⟨h1,_⟩|⟨a,len',cap',m,n,V0,V1,D0,D1,P0,P1,h1,_,hl,hm,hz,_,hc⟩
 ·simp only [Value.cells,List.cons.injEq,_root_.and_true,Value.slice.injEq] at h1
  obtain ⟨rfl,rfl,rfl⟩:=h1
  exact ⟨[],⟨0,0,true,none⟩,0,fun _=>⟨0,0,true,none⟩,fun _=>0,⟨rfl,fun _=>⟨rfl,rfl⟩,fun q=>(by cases q),by decide,fun x hx=>(by cases hx)⟩⟩
 ·simp only [Value.cells,List.cons.injEq,_root_.and_true,Value.slice.injEq] at h1
  obtain ⟨rfl,rfl,rfl⟩:=h1
  unfold maxLen at hm
  have hlm:len≤m:=by rw [hz];split <;> omega
  obtain ⟨L0,M0,K0,e0⟩:=choose2 (n:=len) (R:=fun i l N k=>RawN w (V0 i) N k l.length (rSp l)∧l.length≤9223372036854775807) fun i hi=>rd_spansA (hc i (by omega)).2.2.1
  obtain ⟨L1,M1,K1,e1⟩:=choose2 (n:=len) (R:=fun i l N k=>RawN w (V1 i) N k l.length (rSp l)∧l.length≤9223372036854775807) fun i hi=>rd_spansA (hc i (by omega)).2.2.2
  let T:List Ho:=(List.range len).map fun i=>⟨L0 i,L1 i⟩
  have hT:T.length=len:=by simp [T]
  have hat:∀ i:Nat,i<len→at_ T (i:Int)=⟨L0 i,L1 i⟩:=fun i hi=>at_of (by simp [T,hi])
  have hlens:∀ h ∈ T,h.r.length≤9223372036854775807∧h.w.length≤9223372036854775807:=fun h hh=>by
   obtain ⟨i,hi,rfl⟩:=List.mem_map.1 hh
   have hi:=List.mem_range.1 hi
   exact ⟨(e0 i hi).2,(e1 i hi).2⟩
  rcases Nat.eq_zero_or_pos len with h0|h0
  ·subst h0
   exact ⟨[],⟨0,0,true,some (a,cap)⟩,0,fun _=>⟨0,0,true,none⟩,fun _=>0,⟨rfl,fun _=>⟨rfl,rfl⟩,fun q=>(by cases q),by decide,fun x hx=>(by cases hx)⟩⟩
  ·have q0:=(hc 0 (by omega)).1
   have hblk:∃ c t z,w.heap[a.block]?=some (.cells c t z)∧a.spot=none:=by
    have e:a.add (0 * 2)=a:=by simp [Addr.add]
    unfold World.cell? at q0
    rw [e] at q0
    split at q0
    ·rename_i c t z hh
     refine ⟨c,t,z,hh,?_⟩
     split at q0
     ·cases q0
     ·rename_i hs;simpa using hs
    ·cases q0
   obtain ⟨c,t,z,hh,hs⟩:=hblk
   obtain ⟨b,off,sp⟩:=a
   simp only at hs hh
   subst hs
   refine ⟨T,⟨b,cap,false,none⟩,off,fun j=>if j % 2=0 then M0 (j / 2) else M1 (j / 2),fun j=>if j % 2=0 then K0 (j / 2) else K1 (j / 2),⟨by rw [hT];rfl,fun q=>(by cases q),fun _=>⟨c,t,z,hh,fun i hi=>?_⟩,by rw [hT];omega,hlens⟩⟩
   rw [hT] at hi
   obtain ⟨p0,p1,_,_⟩:=hc i (by omega)
   rw [add_eq,cell_eq hh] at p0 p1
   refine ⟨V0 i,V1 i,by rw [← p0];congr 1;omega,by rw [← p1];congr 1;omega,?_,?_⟩
   ·rw [hat i hi]
    have e2:2 * i % 2=0:=by omega
    have e3:2 * i / 2=i:=by omega
    simp only [e2,e3,if_true]
    exact (e0 i hi).1
   ·rw [hat i hi]
    have e2:(2 * i + 1) % 2=1:=by omega
    have e3:(2 * i + 1) / 2=i:=by omega
    simp only [e2,e3,Nat.one_ne_zero,if_false]
    exact (e1 i hi).1
end
end Go.Proofs.Ytcdhnaojdhdehaa.A
namespace Go.Proofs.Ytcdhnaojdhdehaa.A
open Go Go.RowKit
set_option maxHeartbeats 4000000
theorem FnExactLockSame_c {A B:List Ho} {ka kb:Nat} {fa fb:Nat→Nat} (hTa:A.length≤9223372036854775807) (hBa:∀ h ∈ A,h.r.length≤9223372036854775807∧h.w.length≤9223372036854775807) (hTb:B.length≤9223372036854775807) (hBb:∀ h ∈ B,h.r.length≤9223372036854775807∧h.w.length≤9223372036854775807):FDoes Try.prog 3 [.slice (some ⟨0,ka,none⟩) A.length 0,.slice (some ⟨2,kb,none⟩) B.length 0] (hp [(0,false,one ⟨hls ka (rHv (tabV 1 fa A)),50,0⟩),(1,false,inF fa 31 0 A),(2,false,one ⟨hls kb (rHv (tabV 3 fb B)),50,0⟩),(3,false,inF fb 31 0 B)]) { v:=.bool true,rd:=[0,1,2,3] }:=by
 have hm:Try.prog.follows .mixedOrders=true:=by kernel_rfl
 have hd_:∀ x_ ∈ ([(0,false,one ⟨hls ka (rHv (tabV 1 fa A)),50,0⟩),(1,false,inF fa 31 0 A),(2,false,one ⟨hls kb (rHv (tabV 3 fb B)),50,0⟩),(3,false,inF fb 31 0 B)]:List (Nat × Bool × Fam)),∀ k_ y_,x_.2.2 k_=some y_→DetB (lt 4) y_:=by
  intro x_ hx k_ y_ e
  simp only [List.mem_cons,List.not_mem_nil,or_false] at hx
  rcases hx with rfl|rfl|rfl|rfl
  ·exact det_tab (k0:=ka) rfl e
  ·exact det_in e
  ·exact det_tab (k0:=kb) rfl e
  ·exact det_in e
 refine fn_exact (u0:=4) Try.func3 rfl rfl (gets rfl rfl rfl hd_ rfl) ?_
 clear hd_
 refine vc_seq ?_
 refine vc_region hm ?_
 refine gM trivial (.inr rfl) rfl rfl rfl ?_
 refine rg_nil nofun ?_
 refine vc_seq ?_
 refine vc_region hm ?_
 refine gM trivial (.inr rfl) rfl rfl rfl ?_
 refine rg_nil nofun ?_
 refine vc_seq ?_
 refine vc_region hm ?_
 refine gM trivial (.inl rfl) rfl rfl rfl ?_
 refine gM trivial (.inl rfl) rfl rfl rfl ?_
 refine gCT0 [nA (nm 0 (0)),nF 1] [0,1] (laws_szHoldS_c (T:=A) (k:=ka) (off:=fa) (left:=1048576) (by decide) (by decide) hTa hBa) trivial rfl rfl rfl rfl rfl ⟨aTab (k:=ka) rfl rfl rfl rfl (.inl rfl) (.inl rfl) rfl rfl,aIn rfl rfl (.inl rfl) (.inl rfl) rfl,trivial⟩ rfl rfl rfl rfl ?_
 refine gM trivial (.inr rfl) rfl rfl rfl ?_
 refine rg_nil nofun ?_
 refine vc_seq ?_
 refine vc_seq ?_
 refine vc_region hm ?_
 refine gM trivial (.inl rfl) rfl rfl rfl ?_
 refine gI trivial rfl rfl rfl rfl rfl rfl ?_
 refine rg_nil nofun ?_
 refine cI rfl (fun c14=>?_) (fun c14=>?_)
 ·skip
  have p14:=of_decide_eq_true c14
  refine vc_seq ?_
  refine vc_region hm ?_
  refine gM trivial (.inr rfl) rfl rfl rfl ?_
  refine rg_nil nofun ?_
  refine vc_ret ?_
  exact ⟨idm,ends0 (.inr rfl) rfl (eqB rfl) rfl rfl rfl⟩
 ·skip
  have p14:=of_decide_eq_false c14
  refine vc_skip ?_
  refine vc_seq ?_
  refine vc_region hm ?_
  refine gM trivial (.inl rfl) rfl rfl rfl ?_
  refine gM trivial (.inl rfl) rfl rfl rfl ?_
  refine gCT0 [nA (nm 2 (0)),nF 3] [2,3] (laws_szHoldS_c (T:=B) (k:=kb) (off:=fb) (left:=(szT A 1048576)) (by omega) (by have:=szT_le p14;have:=tot_nn A;omega) hTb hBb) trivial rfl rfl rfl rfl rfl ⟨aTab (k:=kb) rfl rfl rfl rfl (.inl rfl) (.inl rfl) rfl rfl,aIn rfl rfl (.inl rfl) (.inl rfl) rfl,trivial⟩ rfl rfl rfl rfl ?_
  refine gM trivial (.inr rfl) rfl rfl rfl ?_
  refine rg_nil nofun ?_
  refine vc_seq ?_
  refine vc_seq ?_
  refine vc_region hm ?_
  refine gM trivial (.inl rfl) rfl rfl rfl ?_
  refine gI trivial rfl rfl rfl rfl rfl rfl ?_
  refine rg_nil nofun ?_
  refine cI rfl (fun c19=>?_) (fun c19=>?_)
  ·skip
   have p19:=of_decide_eq_true c19
   refine vc_seq ?_
   refine vc_region hm ?_
   refine gM trivial (.inr rfl) rfl rfl rfl ?_
   refine rg_nil nofun ?_
   refine vc_ret ?_
   exact ⟨idm,ends0 (.inr rfl) rfl (eqB rfl) rfl rfl rfl⟩
  ·skip
   have p19:=of_decide_eq_false c19
   refine vc_skip ?_
   refine vc_seq ?_
   refine vc_region hm ?_
   refine gM trivial (.inl rfl) rfl rfl rfl ?_
   refine gCT (as':=[(4,one ⟨rHv (tabV 5 zo A),54,102⟩),(5,inF zo 33 77 A)]) (v':=.slice (some ⟨4,0,none⟩) A.length 0) 6 [nA (nm 0 (0)),nF 1,nF 4,nF 5] [0,1] (laws_toHoldS_c (T:=A) (k:=ka) (off:=fa) (szT_B p14 (by decide)).1 (szT_B p14 (by decide)).2) trivial rfl rfl rfl rfl rfl ⟨aTab (k:=ka) rfl rfl rfl rfl (.inl rfl) (.inl rfl) rfl rfl,aIn rfl rfl (.inl rfl) (.inl rfl) rfl,trivial⟩ ⟨rTab rfl rfl rfl,rIn rfl,trivial⟩ ⟨rfl,rfl⟩ rfl rfl rfl ?_
   refine gM trivial (.inl rfl) rfl rfl rfl ?_
   refine gCT (as':=[(6,one ⟨rHv (tabV 7 zo B),54,102⟩),(7,inF zo 33 77 B)]) (v':=.slice (some ⟨6,0,none⟩) B.length 0) 8 [nA (nm 2 (0)),nF 3,nF 6,nF 7] [2,3] (laws_toHoldS_c (T:=B) (k:=kb) (off:=fb) (szT_B p19 (by have:=szT_le p14;have:=tot_nn A;omega)).1 (szT_B p19 (by have:=szT_le p14;have:=tot_nn A;omega)).2) trivial rfl rfl rfl rfl rfl ⟨aTab (k:=kb) rfl rfl rfl rfl (.inl rfl) (.inl rfl) rfl rfl,aIn rfl rfl (.inl rfl) (.inl rfl) rfl,trivial⟩ ⟨rTab rfl rfl rfl,rIn rfl,trivial⟩ ⟨rfl,rfl⟩ rfl rfl rfl ?_
   refine gCT0 [nA (nm 4 (0)),nF 5,nA (nm 6 (0)),nF 7] [4,5,6,7] (spec_LockSame_c (A:=A) (B:=B) (szT_B p14 (by decide)).1 (szT_B p14 (by decide)).2) trivial rfl rfl rfl rfl rfl ⟨aTab (k:=0) rfl rfl rfl rfl (.inl rfl) (.inl rfl) rfl rfl,aIn rfl rfl (.inl rfl) (.inl rfl) rfl,aTab (k:=0) rfl rfl rfl rfl (.inl rfl) (.inl rfl) rfl rfl,aIn rfl rfl (.inl rfl) (.inl rfl) rfl,trivial⟩ rfl rfl rfl rfl ?_
   refine gM trivial (.inr rfl) rfl rfl rfl ?_
   refine rg_nil nofun ?_
   refine vc_seq ?_
   refine vc_region hm ?_
   refine gM trivial (.inl rfl) rfl rfl rfl ?_
   refine gCT (as':=[(8,one ⟨rHv (tabV 9 zo A),54,102⟩),(9,inF zo 33 77 A)]) (v':=.slice (some ⟨8,0,none⟩) A.length 0) 10 [nA (nm 0 (0)),nF 1,nF 8,nF 9] [0,1] (laws_toHoldS_c (T:=A) (k:=ka) (off:=fa) (szT_B p14 (by decide)).1 (szT_B p14 (by decide)).2) trivial rfl rfl rfl rfl rfl ⟨aTab (k:=ka) rfl rfl rfl rfl (.inl rfl) (.inl rfl) rfl rfl,aIn rfl rfl (.inl rfl) (.inl rfl) rfl,trivial⟩ ⟨rTab rfl rfl rfl,rIn rfl,trivial⟩ ⟨rfl,rfl⟩ rfl rfl rfl ?_
   refine gM trivial (.inr rfl) rfl rfl rfl ?_
   refine rg_nil nofun ?_
   refine vc_seq ?_
   refine vc_region hm ?_
   refine gM trivial (.inl rfl) rfl rfl rfl ?_
   refine gCT (as':=[(10,one ⟨rHv (tabV 11 zo B),54,102⟩),(11,inF zo 33 77 B)]) (v':=.slice (some ⟨10,0,none⟩) B.length 0) 12 [nA (nm 2 (0)),nF 3,nF 10,nF 11] [2,3] (laws_toHoldS_c (T:=B) (k:=kb) (off:=fb) (szT_B p19 (by have:=szT_le p14;have:=tot_nn A;omega)).1 (szT_B p19 (by have:=szT_le p14;have:=tot_nn A;omega)).2) trivial rfl rfl rfl rfl rfl ⟨aTab (k:=kb) rfl rfl rfl rfl (.inl rfl) (.inl rfl) rfl rfl,aIn rfl rfl (.inl rfl) (.inl rfl) rfl,trivial⟩ ⟨rTab rfl rfl rfl,rIn rfl,trivial⟩ ⟨rfl,rfl⟩ rfl rfl rfl ?_
   refine gM trivial (.inr rfl) rfl rfl rfl ?_
   refine rg_nil nofun ?_
   refine vc_seq ?_
   refine vc_region hm ?_
   refine gM trivial (.inl rfl) rfl rfl rfl ?_
   refine gM trivial (.inl rfl) rfl rfl rfl ?_
   refine gCT0 [nA (nm 8 (0)),nF 9,nA (nm 10 (0)),nF 11] [8,9,10,11] (impl_LockSame_c (A:=A) (B:=B) (szT_B p14 (by decide)).1 (szT_B p14 (by decide)).2) trivial rfl rfl rfl rfl rfl ⟨aTab (k:=0) rfl rfl rfl rfl (.inl rfl) (.inl rfl) rfl rfl,aIn rfl rfl (.inl rfl) (.inl rfl) rfl,aTab (k:=0) rfl rfl rfl rfl (.inl rfl) (.inl rfl) rfl rfl,aIn rfl rfl (.inl rfl) (.inl rfl) rfl,trivial⟩ rfl rfl rfl rfl ?_
   refine gM trivial (.inr rfl) rfl rfl rfl ?_
   refine rg_nil nofun ?_
   refine vc_seq ?_
   refine vc_seq ?_
   refine vc_region hm ?_
   refine gM trivial (.inl rfl) rfl rfl rfl ?_
   refine gM trivial (.inl rfl) rfl rfl rfl ?_
   refine gBN trivial rfl rfl rfl rfl rfl rfl ?_
   refine rg_nil nofun ?_
   refine cF rfl (nself _) ?_
   refine vc_skip ?_
   refine vc_seq ?_
   refine vc_seq ?_
   refine vc_region hm ?_
   refine gM trivial (.inl rfl) rfl rfl rfl ?_
   refine gM trivial (.inl rfl) rfl rfl rfl ?_
   refine gCT (as':=[(12,one ⟨rHv (tabV 13 zo A),54,102⟩),(13,inF zo 33 77 A)]) (v':=.slice (some ⟨12,0,none⟩) A.length 0) 14 [nA (nm 0 (0)),nF 1,nF 12,nF 13] [0,1] (laws_toHoldS_c (T:=A) (k:=ka) (off:=fa) (szT_B p14 (by decide)).1 (szT_B p14 (by decide)).2) trivial rfl rfl rfl rfl rfl ⟨aTab (k:=ka) rfl rfl rfl rfl (.inl rfl) (.inl rfl) rfl rfl,aIn rfl rfl (.inl rfl) (.inl rfl) rfl,trivial⟩ ⟨rTab rfl rfl rfl,rIn rfl,trivial⟩ ⟨rfl,rfl⟩ rfl rfl rfl ?_
   refine gCT0 [nA (nm 8 (0)),nF 9,nA (nm 12 (0)),nF 13] [8,9,12,13] (laws_eqHoldS_c (A:=A) (B:=A) (szT_B p14 (by decide)).1 (szT_B p14 (by decide)).2) trivial rfl rfl rfl rfl rfl ⟨aTab (k:=0) rfl rfl rfl rfl (.inl rfl) (.inl rfl) rfl rfl,aIn rfl rfl (.inl rfl) (.inl rfl) rfl,aTab (k:=0) rfl rfl rfl rfl (.inl rfl) (.inl rfl) rfl rfl,aIn rfl rfl (.inl rfl) (.inl rfl) rfl,trivial⟩ rfl rfl rfl rfl ?_
   refine gN trivial rfl rfl rfl rfl ?_
   refine rg_nil nofun ?_
   refine cF rfl (notT (decide_eq_true rfl)) ?_
   refine vc_skip ?_
   refine vc_seq ?_
   refine vc_seq ?_
   refine vc_region hm ?_
   refine gM trivial (.inl rfl) rfl rfl rfl ?_
   refine gM trivial (.inl rfl) rfl rfl rfl ?_
   refine gCT (as':=[(14,one ⟨rHv (tabV 15 zo B),54,102⟩),(15,inF zo 33 77 B)]) (v':=.slice (some ⟨14,0,none⟩) B.length 0) 16 [nA (nm 2 (0)),nF 3,nF 14,nF 15] [2,3] (laws_toHoldS_c (T:=B) (k:=kb) (off:=fb) (szT_B p19 (by have:=szT_le p14;have:=tot_nn A;omega)).1 (szT_B p19 (by have:=szT_le p14;have:=tot_nn A;omega)).2) trivial rfl rfl rfl rfl rfl ⟨aTab (k:=kb) rfl rfl rfl rfl (.inl rfl) (.inl rfl) rfl rfl,aIn rfl rfl (.inl rfl) (.inl rfl) rfl,trivial⟩ ⟨rTab rfl rfl rfl,rIn rfl,trivial⟩ ⟨rfl,rfl⟩ rfl rfl rfl ?_
   refine gCT0 [nA (nm 10 (0)),nF 11,nA (nm 14 (0)),nF 15] [10,11,14,15] (laws_eqHoldS_c (A:=B) (B:=B) (szT_B p19 (by have:=szT_le p14;have:=tot_nn A;omega)).1 (szT_B p19 (by have:=szT_le p14;have:=tot_nn A;omega)).2) trivial rfl rfl rfl rfl rfl ⟨aTab (k:=0) rfl rfl rfl rfl (.inl rfl) (.inl rfl) rfl rfl,aIn rfl rfl (.inl rfl) (.inl rfl) rfl,aTab (k:=0) rfl rfl rfl rfl (.inl rfl) (.inl rfl) rfl rfl,aIn rfl rfl (.inl rfl) (.inl rfl) rfl,trivial⟩ rfl rfl rfl rfl ?_
   refine gN trivial rfl rfl rfl rfl ?_
   refine rg_nil nofun ?_
   refine cF rfl (notT (decide_eq_true rfl)) ?_
   refine vc_skip ?_
   refine vc_seq ?_
   refine vc_region hm ?_
   refine gM trivial (.inr rfl) rfl rfl rfl ?_
   refine rg_nil nofun ?_
   refine vc_ret ?_
   exact ⟨idm,ends0 (.inr rfl) rfl (eqB rfl) rfl rfl rfl⟩
theorem FnExactLockSame_walk {w:World} {v0:Value} {T0:List Ho} {N0:Nam} {k0:Nat} {M0:Nat→Nam} {f0:Nat→Nat} (h0:HoldsArg w v0 T0 N0 k0 M0 f0) {v1:Value} {T1:List Ho} {N1:Nam} {k1:Nat} {M1:Nat→Nam} {f1:Nat→Nat} (h1:HoldsArg w v1 T1 N1 k1 M1 f1):Calls Try.prog 3 #[v0,v1] w fun e w'=>e = .returned (.bool true)∧Below w.heap.size w w' :=
 law_done (FnExactLockSame_c h0.len h0.lens h1.len h1.lens) (ρ:=envG [g0 N0,M0,g0 N1,M1]) (by simp only [List.map_cons,List.map_nil,holds_r3 (gs:=[g0 N0,M0,g0 N1,M1]) (a:=0) h0 rfl (of_blt rfl),holds_r3 (gs:=[g0 N0,M0,g0 N1,M1]) (a:=2) h1 rfl (of_blt rfl)]) ⟨holds_at0 h0 rfl (of_blt rfl) rfl (of_blt rfl),holds_at1 h0 rfl (of_blt rfl),holds_at0 h1 rfl (of_blt rfl) rfl (of_blt rfl),holds_at1 h1 rfl (of_blt rfl),trivial⟩
end Go.Proofs.Ytcdhnaojdhdehaa.A

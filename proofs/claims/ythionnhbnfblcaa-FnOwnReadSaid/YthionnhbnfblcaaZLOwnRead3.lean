/- Part 3 of the proof of FnOwnRead: words, contracts of callees, plain lemmas. -/
import Derived.Test.YthionnhbnfblcaaZLOwnRead2
set_option maxHeartbeats 8000000
set_option maxRecDepth 100000
set_option linter.unusedVariables false
set_option linter.unusedSimpArgs false
namespace Go.Proofs.Ythionnhbnfblcaa.A
open Go Go.RowKit
set_option maxHeartbeats 4000000
theorem frFlat {m:Nat→Nat} {b c t e:Nat} {cs:List Value} (hf:cs.all flat1=true) (h:m b=c):m b=c∧rnF m (one ⟨cs,t,e⟩)=one ⟨cs,t,e⟩:=⟨h,rnF_flat hf⟩
theorem kSpA {xs:List Sp} {i:Int} (h0:0≤i) (h1:i<xs.length):0 + i.toNat * 2 + 2≤(rSp xs).length:=by
 rw [rowL_len (n:=2) (fun _=>rfl)]
 omega
theorem sSpA {xs:List Sp} {i:Int} {s:Sp} (h0:0≤i) (h1:i<xs.length):putL (rSp xs) (0 + i.toNat * 2) (cellsL (vSp s))=rSp (xs.set i.toNat s):=by
 rw [Nat.zero_add]
 exact rowL_set (enc:=eSp) (n:=2) (fun _=>rfl) xs i.toNat s (by omega)
theorem lists_c {l:List Int} {k n t0:Nat} {p:Int} (hl:ByL l) (hn:n≤l.length) (hp0:0≤p) (hp1:p≤995000):∃ E,FDoes Try.prog 96 [.pointer (some ⟨1,0,none⟩)] (hp [(0,false,one ⟨hls k (rY l),t0,0⟩),(1,true,one ⟨[.slice (some ⟨0,k,none⟩) n 0,.int .i64 (p)],101,2⟩)]) E∧∃ (L:List Sp) (p2:Int),L.length≤14∧p≤p2∧p2≤p + 90∧E=mkF (.slice (some ⟨2,0,none⟩) L.length 0) [0] [(1,one ⟨[.slice (some ⟨0,k,none⟩) n 0,.int .i64 (p2)],101,2⟩)] [(2,one ⟨rSp L,38,2⟩)]:=by
 have hm:Try.prog.follows .mixedOrders=true:=by kernel_rfl
 have hd_:∀ x_ ∈ ([(0,false,one ⟨hls k (rY l),t0,0⟩),(1,true,one ⟨[.slice (some ⟨0,k,none⟩) n 0,.int .i64 (p)],101,2⟩)]:List (Nat × Bool × Fam)),∀ k_ y_,x_.2.2 k_=some y_→DetB (lt 2) y_:=by
  intro x_ hx k_ y_ e
  simp only [List.mem_cons,List.not_mem_nil,or_false] at hx
  rcases hx with rfl|rfl
  ·exact det_code e
  ·exact det_ok rfl e
 refine fn_some (u0:=2) Try.func96 rfl rfl (gets rfl rfl rfl hd_ rfl) ?_
 clear hd_
 refine vc_seq ?_
 refine vc_region hm ?_
 refine gM trivial (.inr rfl) rfl rfl rfl ?_
 refine rg_nil nofun ?_
 refine vc_seq ?_
 refine vc_region hm ?_
 refine gM trivial (.inl rfl) rfl rfl rfl ?_
 obtain ⟨E1,hE1,L1,p1,l1a,l1b,q1a,q1b,rfl⟩:=list_c (k:=k) (t0:=t0) (p:=p) hl hn (by omega) (by omega) 
 refine gCF (ups':=[(1,one ⟨[.slice (some ⟨0,k,none⟩) n 0,.int .i64 (p1)],101,2⟩)]) (as':=[(2,one ⟨rSp L1,38,2⟩)]) (v':=.slice (some ⟨2,0,none⟩) L1.length 0) 3 [0,1,2] hE1 trivial rfl rfl rfl rfl ⟨rCode rfl rfl,rCells rfl ⟨rfl,rfl,.inr rfl⟩ rfl,trivial⟩ ⟨frOne rfl rfl,trivial⟩ ⟨frFlat (rSp_flat _) rfl,trivial⟩ rfl rfl (ho1 ⟨_,rfl⟩) (hu1 rfl) rfl rfl ?_
 refine gM trivial (.inr rfl) rfl rfl rfl ?_
 refine rg_nil nofun ?_
 refine vc_seq ?_
 refine vc_region hm ?_
 refine gM trivial (.inl rfl) rfl rfl rfl ?_
 refine gK trivial rfl rfl rfl rfl rfl rfl rSp_nil ?_
 refine gM trivial (.inr rfl) rfl rfl rfl ?_
 refine rg_nil nofun ?_
 refine vc_seq ?_
 refine vc_seq ?_
 refine vc_region hm ?_
 refine gM trivial (.inl rfl) rfl rfl rfl ?_
 refine gI trivial rfl rfl rfl rfl rfl rfl ?_
 refine gM trivial (.inl rfl) rfl rfl rfl ?_
 refine gI2 (d:=12) rfl (fun c12=>?_) (fun c12=>?_)
 ·skip
  have p12:=eq_of_beq c12
  refine gO ⟨_,_,rfl,rfl,c12⟩ rfl rfl ?_
  refine gO ⟨_,_,rfl,rfl,c12⟩ rfl rfl ?_
  refine gO ⟨_,_,rfl,rfl,c12⟩ rfl rfl ?_
  refine gPT trivial rfl rfl c12 rfl rfl rfl ?_
  refine rg_nil nofun ?_
  refine cT rfl rfl ?_
  refine vc_seq ?_
  refine vc_region hm ?_
  refine gM trivial (.inl rfl) rfl rfl rfl ?_
  refine gM trivial (.inr rfl) rfl rfl rfl ?_
  refine rg_nil nofun ?_
  refine vc_ret ?_
  exact ⟨mkF (.slice (some ⟨2,0,none⟩) (L1).length 0) [0] [(1,one ⟨[.slice (some ⟨0,k,none⟩) n 0,.int .i64 (p1)],101,2⟩)] [(2,one ⟨rSp (L1),38,2⟩)],_,endsT [(2,2,one ⟨rSp (L1),38,2⟩)] (.inr rfl) (.tmp rfl rfl .nil) rfl rfl ⟨upOne rfl rfl rfl,trivial⟩ ⟨asFlat rfl (rSp_flat _),trivial⟩ rfl,L1,_,(by omega),(by omega),(by omega),rfl⟩
 ·skip
  have p12:=ne_of_beq_false c12
  refine gM ⟨_,_,rfl,rfl,c12⟩ (.inl rfl) rfl rfl rfl ?_
  obtain ⟨E3,hE3,x3,x3a,x3b,rfl⟩:=pick_c (k:=k) (t0:=t0) (p:=p1) hl hn (by omega) (by omega) (m:=8) (by omega) (by omega)
  refine gCF (ups':=[(1,one ⟨[.slice (some ⟨0,k,none⟩) n 0,.int .i64 (p1 + 1)],101,2⟩)]) (as':=[]) (v':=.int .i64 x3) 3 [0,1] hE3 ⟨_,_,rfl,rfl,c12⟩ rfl rfl rfl rfl ⟨rCode rfl rfl,rCells rfl ⟨rfl,rfl,.inr rfl⟩ rfl,trivial⟩ ⟨frOne rfl rfl,trivial⟩ trivial rfl rfl (ho1 ⟨_,rfl⟩) (hu1 rfl) rfl rfl ?_
  refine gI ⟨_,_,rfl,rfl,c12⟩ rfl rfl rfl rfl rfl rfl ?_
  refine gPF trivial rfl rfl c12 rfl rfl rfl ?_
  refine rg_nil nofun ?_
  refine cI rfl (fun c16=>?_) (fun c16=>?_)
  ·skip
   have p16:=of_decide_eq_true c16
   refine vc_seq ?_
   refine vc_region hm ?_
   refine gM trivial (.inl rfl) rfl rfl rfl ?_
   refine gM trivial (.inr rfl) rfl rfl rfl ?_
   refine rg_nil nofun ?_
   refine vc_ret ?_
   exact ⟨mkF (.slice (some ⟨2,0,none⟩) (L1).length 0) [0] [(1,one ⟨[.slice (some ⟨0,k,none⟩) n 0,.int .i64 (p1 + 1)],101,2⟩)] [(2,one ⟨rSp (L1),38,2⟩)],_,endsT [(2,2,one ⟨rSp (L1),38,2⟩)] (.inr rfl) (.tmp rfl rfl .nil) rfl rfl ⟨upOne rfl rfl rfl,trivial⟩ ⟨asFlat rfl (rSp_flat _),trivial⟩ rfl,L1,_,(by omega),(by omega),(by omega),rfl⟩
  ·skip
   have p16:=of_decide_eq_false c16
   refine vc_skip ?_
   refine vc_seq ?_
   refine vc_region hm ?_
   refine gM trivial (.inl rfl) rfl rfl rfl ?_
   refine gM trivial (.inl rfl) rfl rfl rfl ?_
   obtain ⟨E5,hE5,x5,x5a,x5b,rfl⟩:=pick_c (k:=k) (t0:=t0) (p:=p1 + 1) hl hn (by omega) (by omega) (m:=L1.length) (by omega) (by omega)
   refine gCF (ups':=[(1,one ⟨[.slice (some ⟨0,k,none⟩) n 0,.int .i64 (p1 + 1 + 1)],101,2⟩)]) (as':=[]) (v':=.int .i64 x5) 3 [0,1] hE5 trivial rfl rfl rfl rfl ⟨rCode rfl rfl,rCells rfl ⟨rfl,rfl,.inr rfl⟩ rfl,trivial⟩ ⟨frOne rfl rfl,trivial⟩ trivial rfl rfl (ho1 ⟨_,rfl⟩) (hu1 rfl) rfl rfl ?_
   refine gM trivial (.inr rfl) rfl rfl rfl ?_
   refine rg_nil nofun ?_
   refine vc_seq ?_
   refine vc_seq ?_
   refine vc_region hm ?_
   refine gM trivial (.inl rfl) rfl rfl rfl ?_
   obtain ⟨E6,hE6,x6,x6a,x6b,rfl⟩:=pick_c (k:=k) (t0:=t0) (p:=p1 + 1 + 1) hl hn (by omega) (by omega) (m:=4) (by omega) (by omega)
   refine gCF (ups':=[(1,one ⟨[.slice (some ⟨0,k,none⟩) n 0,.int .i64 (p1 + 1 + 1 + 1)],101,2⟩)]) (as':=[]) (v':=.int .i64 x6) 3 [0,1] hE6 trivial rfl rfl rfl rfl ⟨rCode rfl rfl,rCells rfl ⟨rfl,rfl,.inr rfl⟩ rfl,trivial⟩ ⟨frOne rfl rfl,trivial⟩ trivial rfl rfl (ho1 ⟨_,rfl⟩) (hu1 rfl) rfl rfl ?_
   refine rg_nil nofun ?_
   refine vc_block ?_
   refine vc_seq ?_
   refine vc_region hm ?_
   refine gI trivial rfl rfl rfl rfl rfl rfl ?_
   refine gM trivial (.inr rfl) rfl rfl rfl ?_
   refine rg_nil nofun ?_
   refine cI rfl (fun c34=>?_) (fun c34=>?_)
   ·skip
    have p34:=eq_of_beq c34
    refine vc_region hm ?_
    refine gM trivial (.inl rfl) rfl rfl rfl ?_
    refine gM trivial (.inl rfl) rfl rfl rfl ?_
    refine gM trivial (.inl rfl) rfl rfl rfl ?_
    obtain ⟨E8,hE8,s8,p8,q8a,q8b,rfl⟩:=some_c (k:=k) (t0:=t0) (p:=p1 + 1 + 1 + 1) hl hn (by omega) (by omega) 
    refine gCF (ups':=[(1,one ⟨[.slice (some ⟨0,k,none⟩) n 0,.int .i64 (p8)],101,2⟩)]) (as':=[]) (v':=vSp s8) 3 [0,1] hE8 trivial rfl rfl rfl rfl ⟨rCode rfl rfl,rCells rfl ⟨rfl,rfl,.inr rfl⟩ rfl,trivial⟩ ⟨frOne rfl rfl,trivial⟩ trivial rfl rfl (ho1 ⟨_,rfl⟩) (hu1 rfl) rfl rfl ?_
    refine gX trivial rfl rfl rfl rfl rfl rfl rfl rfl (by omega) (by omega) rSp_ne ?_
    refine gT trivial rfl rfl rfl rfl rfl rfl rfl rfl rfl rfl (kSpA (by omega) (by omega)) (sSpA (by omega) (by omega)) ?_
    refine rg_nil nofun ?_
    refine vc_seq ?_
    refine vc_region hm ?_
    refine gM trivial (.inl rfl) rfl rfl rfl ?_
    refine gM trivial (.inr rfl) rfl rfl rfl ?_
    refine rg_nil nofun ?_
    refine vc_ret ?_
    exact ⟨mkF (.slice (some ⟨2,0,none⟩) (L1.set x5.toNat s8).length 0) [0] [(1,one ⟨[.slice (some ⟨0,k,none⟩) n 0,.int .i64 (p8)],101,2⟩)] [(2,one ⟨rSp (L1.set x5.toNat s8),38,2⟩)],_,endsT [(2,2,one ⟨rSp (L1.set x5.toNat s8),38,2⟩)] (.inr rfl) (.tmp rfl rfl .nil) (by rw [List.length_set];rfl) rfl ⟨upOne rfl rfl rfl,trivial⟩ ⟨asFlat rfl (rSp_flat _),trivial⟩ rfl,L1.set x5.toNat s8,_,(by rw [List.length_set];omega),(by omega),(by omega),rfl⟩
   ·skip
    have p34:=ne_of_beq_false c34
    refine vc_seq ?_
    refine vc_region hm ?_
    refine gI trivial rfl rfl rfl rfl rfl rfl ?_
    refine gM trivial (.inr rfl) rfl rfl rfl ?_
    refine rg_nil nofun ?_
    refine cI rfl (fun c41=>?_) (fun c41=>?_)
    ·skip
     have p41:=eq_of_beq c41
     refine vc_region hm ?_
     refine gM trivial (.inl rfl) rfl rfl rfl ?_
     refine gM trivial (.inl rfl) rfl rfl rfl ?_
     refine gM trivial (.inl rfl) rfl rfl rfl ?_
     refine gX trivial rfl rfl rfl rfl rfl rfl rfl rfl (by omega) (by omega) rSp_ne ?_
     refine gL trivial rfl rfl rfl rfl rfl rfl rfl (aSp (by omega) (by omega)) ?_
     refine gR (u':=4) (out:=rSp [at_ L1 x5]) trivial rfl rfl rfl rfl rfl rfl rfl rfl rfl rfl rfl rfl rfl rfl ?_
     refine gAp (u':=5) trivial rfl rfl rfl rfl rfl rfl rfl rfl rfl rfl rfl rfl (by rw [rowL_len (n:=2) (fun _=>rfl)]) (Nat.le_refl _) rfl (show (L1.length + 1) * (16 + 1)≤140737488355328 by omega) (row_snoc (enc:=eSp) (x:=at_ L1 x5)) rfl ?_
     refine gM trivial (.inr rfl) rfl rfl rfl ?_
     refine rg_nil nofun ?_
     refine vc_seq ?_
     refine vc_region hm ?_
     refine gM trivial (.inl rfl) rfl rfl rfl ?_
     refine gM trivial (.inr rfl) rfl rfl rfl ?_
     refine rg_nil nofun ?_
     refine vc_ret ?_
     exact ⟨mkF (.slice (some ⟨2,0,none⟩) (L1 ++ [at_ L1 x5]).length 0) [0] [(1,one ⟨[.slice (some ⟨0,k,none⟩) n 0,.int .i64 (p1 + 1 + 1 + 1)],101,2⟩)] [(2,one ⟨rSp (L1 ++ [at_ L1 x5]),38,2⟩)],_,endsT [(2,4,one ⟨rSp (L1 ++ [at_ L1 x5]),38,2⟩)] (.inr rfl) (.tmp rfl rfl .nil) (by rw [List.length_append];rfl) rfl ⟨upOne rfl rfl rfl,trivial⟩ ⟨asFlat rfl (rSp_flat _),trivial⟩ rfl,L1 ++ [at_ L1 x5],_,(by rw [List.length_append];show L1.length + 1≤14;omega),(by omega),(by omega),rfl⟩
    ·skip
     have p41:=ne_of_beq_false c41
     refine vc_seq ?_
     refine vc_region hm ?_
     refine gI trivial rfl rfl rfl rfl rfl rfl ?_
     refine gM trivial (.inr rfl) rfl rfl rfl ?_
     refine rg_nil nofun ?_
     refine cI rfl (fun c50=>?_) (fun c50=>?_)
     ·skip
      have p50:=eq_of_beq c50
      refine vc_region hm ?_
      refine gM trivial (.inl rfl) rfl rfl rfl ?_
      refine gM trivial (.inl rfl) rfl rfl rfl ?_
      refine gM trivial (.inl rfl) rfl rfl rfl ?_
      refine gM trivial (.inl rfl) rfl rfl rfl ?_
      refine gX trivial rfl rfl rfl rfl rfl rfl rfl rfl (by omega) (by omega) rSp_ne ?_
      refine gF trivial rfl rfl rfl rfl rfl ?_
      refine gL trivial rfl rfl rfl rfl rfl rfl rfl (lSp1 (by omega) (by omega)) ?_
      refine gA trivial rfl rfl rfl rfl rfl rfl (by have:=l1b _ (at_mem (l:=L1) (i:=x5) (by omega) (by omega));omega) ?_
      refine gX trivial rfl rfl rfl rfl rfl rfl rfl rfl (by omega) (by omega) rSp_ne ?_
      refine gF trivial rfl rfl rfl rfl rfl ?_
      refine gT trivial rfl rfl rfl rfl rfl rfl rfl rfl rfl rfl (kSp1 (by omega) (by omega)) (sSp1 (by omega) (by omega)) ?_
      refine rg_nil nofun ?_
      refine vc_seq ?_
      refine vc_region hm ?_
      refine gM trivial (.inl rfl) rfl rfl rfl ?_
      refine gM trivial (.inr rfl) rfl rfl rfl ?_
      refine rg_nil nofun ?_
      refine vc_ret ?_
      exact ⟨mkF (.slice (some ⟨2,0,none⟩) (L1.set x5.toNat ⟨(at_ L1 x5).lo,(at_ L1 x5).hi + 1⟩).length 0) [0] [(1,one ⟨[.slice (some ⟨0,k,none⟩) n 0,.int .i64 (p1 + 1 + 1 + 1)],101,2⟩)] [(2,one ⟨rSp (L1.set x5.toNat ⟨(at_ L1 x5).lo,(at_ L1 x5).hi + 1⟩),38,2⟩)],_,endsT [(2,2,one ⟨rSp (L1.set x5.toNat ⟨(at_ L1 x5).lo,(at_ L1 x5).hi + 1⟩),38,2⟩)] (.inr rfl) (.tmp rfl rfl .nil) (by rw [List.length_set];rfl) rfl ⟨upOne rfl rfl rfl,trivial⟩ ⟨asFlat rfl (rSp_flat _),trivial⟩ rfl,L1.set x5.toNat ⟨(at_ L1 x5).lo,(at_ L1 x5).hi + 1⟩,_,(by rw [List.length_set];omega),(by omega),(by omega),rfl⟩
     ·skip
      have p50:=ne_of_beq_false c50
      refine vc_block ?_
      refine vc_loopT (fun n_ S_=>∃ (M:List Sp),L1.length≤M.length∧M.length≤13∧n_=13 - M.length∧S_=⟨3,[(0,.pointer (some ⟨1,0,none⟩)),(3,.slice (some ⟨2,0,none⟩) M.length 0),(4,.int .i64 L1.length)],[(0,false,one ⟨hls k (rY l),t0,0⟩),(1,true,one ⟨[.slice (some ⟨0,k,none⟩) n 0,.int .i64 (p1 + 1 + 1 + 1)],101,2⟩),(2,true,one ⟨rSp M,38,2⟩)]⟩) ⟨L1,(Nat.le_refl _),(by omega),rfl,rfl⟩ (re_nil (ms:=[0,1,2]) (C:=999) rfl ⟨⟨⟨rfl,rfl⟩,rfl⟩,⟨⟨rfl,rfl⟩,rfl⟩,⟨⟨rfl,rfl⟩,rfl⟩,trivial⟩ ⟨ktCode rfl rfl,ktRow rfl rfl rfl (BlkW.refl _) id rfl,ktFlat (rSp_flat _) rfl (.inr (.inl rfl)) id rfl,trivial⟩ rfl rfl (rig_of rfl) rfl) ?_
      rintro n_ S_ ⟨M,hM,hN,rfl,rfl⟩
      refine vc_seq ?_
      refine vc_seq ?_
      refine vc_region hm ?_
      refine gM trivial (.inl rfl) rfl rfl rfl ?_
      refine gK trivial rfl rfl rfl rfl rfl rfl rSp_nil ?_
      refine gI trivial rfl rfl rfl rfl rfl rfl ?_
      refine rg_nil nofun ?_
      refine cI rfl (fun c25=>?_) (fun c25=>?_)
      ·skip
       have p25:=of_decide_eq_true c25
       refine vc_skip ?_
       refine vc_block ?_
       refine vc_region hm ?_
       refine gM trivial (.inl rfl) rfl rfl rfl ?_
       refine gM trivial (.inl rfl) rfl rfl rfl ?_
       refine gM trivial (.inl rfl) rfl rfl rfl ?_
       refine gA trivial rfl rfl rfl rfl rfl rfl (by omega) ?_
       refine gX trivial rfl rfl rfl rfl rfl rfl rfl rfl (by omega) (by omega) rSp_ne ?_
       refine gL trivial rfl rfl rfl rfl rfl rfl rfl (aSp (by omega) (by omega)) ?_
       refine gR (u':=4) (out:=rSp [at_ M ((L1.length:Int) - 1)]) trivial rfl rfl rfl rfl rfl rfl rfl rfl rfl rfl rfl rfl rfl rfl ?_
       refine gAp (u':=5) trivial rfl rfl rfl rfl rfl rfl rfl rfl rfl rfl rfl rfl (by rw [rowL_len (n:=2) (fun _=>rfl)]) (Nat.le_refl _) rfl (show (M.length + 1) * (16 + 1)≤140737488355328 by omega) (row_snoc (enc:=eSp) (x:=at_ M ((L1.length:Int) - 1))) rfl ?_
       refine gM trivial (.inr rfl) rfl rfl rfl ?_
       refine rg_nil nofun ?_
       exact lp_nextT ⟨M ++ [at_ M ((L1.length:Int) - 1)],(by rw [List.length_append];omega),(by rw [List.length_append];show M.length + 1≤13;omega),rfl,rfl⟩ (by rw [List.length_append];show 13 - (M.length + 1)<_;omega) (re_nil (ms:=[0,1,4]) (C:=999) rfl ⟨⟨⟨rfl,rfl⟩,rfl⟩,⟨⟨rfl,by rw [List.length_append];rfl⟩,rfl⟩,⟨⟨rfl,rfl⟩,rfl⟩,trivial⟩ ⟨ktCode rfl rfl,ktRow rfl rfl rfl (BlkW.refl _) id rfl,ktFlat (rSp_flat _) rfl (.inr (.inl rfl)) id rfl,trivial⟩ rfl rfl (rig_of rfl) rfl)
      ·skip
       have p25:=of_decide_eq_false c25
       refine vc_exit ?_
       refine vc_seq ?_
       refine vc_region hm ?_
       refine gM trivial (.inl rfl) rfl rfl rfl ?_
       refine gM trivial (.inr rfl) rfl rfl rfl ?_
       refine rg_nil nofun ?_
       refine vc_ret ?_
       exact ⟨mkF (.slice (some ⟨2,0,none⟩) (M).length 0) [0] [(1,one ⟨[.slice (some ⟨0,k,none⟩) n 0,.int .i64 (p1 + 1 + 1 + 1)],101,2⟩)] [(2,one ⟨rSp (M),38,2⟩)],_,endsT [(2,2,one ⟨rSp (M),38,2⟩)] (.inr rfl) (.tmp rfl rfl .nil) rfl rfl ⟨upOne rfl rfl rfl,trivial⟩ ⟨asFlat rfl (rSp_flat _),trivial⟩ rfl,M,_,(by omega),(by omega),(by omega),rfl⟩
theorem none_ok:ownOk ⟨blankT 48,[],[]⟩=true:=by decide +kernel
theorem chO_is {may:Bool} {o x:Ow} (h:ownOk o=true):ownOk (chO may o x)=true:=by
 unfold chO
 split
 ·unfold putO
  split
  ·assumption
  ·exact h
 ·exact h
theorem l6None_c : ∃ E,FDoes Try.prog 90 [] (hp []) E∧∃ o:Ow,ownOk o=true∧E=mkF (.agg #[.string o.t,.slice (some ⟨0,0,none⟩) o.h.length 0,.slice (some ⟨1,0,none⟩) o.d.length 0]) [] [] [(0,one ⟨rSp o.h,38,77⟩),(1,one ⟨rSp o.d,38,77⟩)]:=by
 have hm:Try.prog.follows .mixedOrders=true:=by kernel_rfl
 have hd_:∀ x ∈ ([]:List (Nat × Bool × Fam)),∀ k y,x.2.2 k=some y→DetB (lt 0) y:=fun x_ hx=>(by cases hx)
 refine fn_some (u0:=0) Try.func90 rfl rfl (gets rfl rfl rfl hd_ rfl) ?_
 clear hd_
 refine vc_seq ?_
 refine vc_region hm ?_
 refine gZ (u':=1) trivial rfl rfl rfl rfl rfl rfl rfl rfl ?_
 refine rg_nil nofun ?_
 refine vc_seq ?_
 refine vc_region hm ?_
 refine gC0 [] (spec_l6Blank_c (n:=48) (by decide) (by decide)) trivial rfl rfl rfl rfl (by trivial) rfl rfl rfl rfl rfl ?_
 refine gU trivial rfl rfl rfl rfl rfl rfl rfl rfl ?_
 refine gT trivial rfl rfl rfl rfl rfl rfl rfl rfl rfl rfl (Nat.le_of_ble_eq_true rfl) rfl ?_
 refine rg_nil nofun ?_
 refine vc_re (S2:=⟨2,[(0,.pointer (some ⟨0,0,none⟩))],[(0,true,one ⟨[.string (blankT 48),.slice (some ⟨1,0,none⟩) 0 0,.slice none 0 0],29,3⟩),(1,true,one ⟨[],38,77⟩)]⟩) (re_nil (ms:=[0]) (C:=1) rfl ⟨⟨⟨rfl,rfl⟩,rfl⟩,trivial⟩ ⟨ktRow rfl rfl rfl ⟨.inl rfl,fun _=>rfl,.inr (.inl rfl),fun q=>(by cases q)⟩ id rfl,ktC1 rfl (by decide) rfl,trivial⟩ rfl rfl (rig_of rfl) rfl) ?_
 refine vc_re (S2:=⟨3,[(0,.pointer (some ⟨0,0,none⟩))],[(0,true,one ⟨[.string (blankT 48),.slice (some ⟨1,0,none⟩) 0 0,.slice (some ⟨2,0,none⟩) 0 0],29,3⟩),(1,true,one ⟨[],38,77⟩),(2,true,one ⟨[],38,77⟩)]⟩) (re_nil (ms:=[0,1]) (C:=2) rfl ⟨⟨⟨rfl,rfl⟩,rfl⟩,trivial⟩ ⟨ktRow rfl rfl rfl ⟨.inl rfl,fun _=>rfl,.inr (.inl rfl),fun q=>(by cases q)⟩ id rfl,ktFlat rfl rfl (.inr (.inl rfl)) id rfl,ktC1 rfl (by decide) rfl,trivial⟩ rfl rfl (rig_of rfl) rfl) ?_
 refine vc_ret ?_
 exact ⟨_,_,endsT (v:=.agg #[.string (⟨blankT 48,[],[]⟩:Ow).t,.slice (some ⟨0,0,none⟩) (⟨blankT 48,[],[]⟩:Ow).h.length 0,.slice (some ⟨1,0,none⟩) (⟨blankT 48,[],[]⟩:Ow).d.length 0]) (ups:=[]) (rd:=[]) [(0,1,one ⟨rSp [],38,77⟩),(1,2,one ⟨rSp [],38,77⟩)] (.inr rfl) (.cell rfl rfl rfl rfl rfl .nil) rfl rfl trivial ⟨asFlat rfl (rSp_flat _),asFlat rfl (rSp_flat _),trivial⟩ rfl,(⟨blankT 48,[],[]⟩:Ow),none_ok,rfl⟩
theorem l6Some_c {l:List Int} {k n t0:Nat} {p:Int} (hl:ByL l) (hn:n≤l.length) (hp0:0≤p) (hp1:p≤990000):∃ E,FDoes Try.prog 74 [.pointer (some ⟨1,0,none⟩)] (hp [(0,false,one ⟨hls k (rY l),t0,0⟩),(1,true,one ⟨[.slice (some ⟨0,k,none⟩) n 0,.int .i64 (p)],101,2⟩)]) E∧∃ (o:Ow) (p2:Int),ownOk o=true∧p≤p2∧p2≤p + 1200∧E=mkF (.agg #[.string o.t,.slice (some ⟨2,0,none⟩) o.h.length 0,.slice (some ⟨3,0,none⟩) o.d.length 0]) [0] [(1,one ⟨[.slice (some ⟨0,k,none⟩) n 0,.int .i64 (p2)],101,2⟩)] [(2,one ⟨rSp o.h,38,77⟩),(3,one ⟨rSp o.d,38,77⟩)]:=by
 have hm:Try.prog.follows .mixedOrders=true:=by kernel_rfl
 have hd_:∀ x_ ∈ ([(0,false,one ⟨hls k (rY l),t0,0⟩),(1,true,one ⟨[.slice (some ⟨0,k,none⟩) n 0,.int .i64 (p)],101,2⟩)]:List (Nat × Bool × Fam)),∀ k_ y_,x_.2.2 k_=some y_→DetB (lt 2) y_:=by
  intro x_ hx k_ y_ e
  simp only [List.mem_cons,List.not_mem_nil,or_false] at hx
  rcases hx with rfl|rfl
  ·exact det_code e
  ·exact det_ok rfl e
 refine fn_some (u0:=2) Try.func74 rfl rfl (gets rfl rfl rfl hd_ rfl) ?_
 clear hd_
 refine vc_seq ?_
 refine vc_region hm ?_
 refine gZ (u':=3) trivial rfl rfl rfl rfl rfl rfl rfl rfl ?_
 refine rg_nil nofun ?_
 refine vc_seq ?_
 refine vc_region hm ?_
 obtain ⟨EN,hEN,oN,hkN,rfl⟩:=l6None_c
 refine gCF (ups':=[]) (as':=[(3,one ⟨rSp oN.h,38,77⟩),(4,one ⟨rSp oN.d,38,77⟩)]) (v':=.agg #[.string oN.t,.slice (some ⟨3,0,none⟩) oN.h.length 0,.slice (some ⟨4,0,none⟩) oN.d.length 0]) 5 [3,4] hEN trivial rfl rfl rfl rfl trivial trivial ⟨frFlat (rSp_flat _) rfl,frFlat (rSp_flat _) rfl,trivial⟩ rfl rfl (fun x hx=>nomatch hx) (fun x hx=>nomatch hx) rfl rfl ?_
 refine gZ (u':=6) trivial rfl rfl rfl rfl rfl rfl rfl rfl ?_
 refine gT trivial rfl rfl rfl rfl rfl rfl rfl rfl rfl rfl (Nat.le_of_ble_eq_true rfl) rfl ?_
 refine rg_nil nofun ?_
 refine vc_seq ?_
 refine vc_seq ?_
 refine vc_region hm ?_
 refine gM trivial (.inl rfl) rfl rfl rfl ?_
 refine gR (u':=7) (out:=rI [3,5,8,0,1]) trivial rfl rfl rfl rfl rfl rfl rfl rfl rfl rfl rfl rfl rfl rfl ?_
 obtain ⟨E1,hE1,x1,x1a,x1b,rfl⟩:=num_c (k:=k) (t0:=t0) (p:=p) hl hn (by omega) (by omega) (L:=[3,5,8,0,1]) (a:=0) (b:=8) (by decide) (by decide)
 refine gCF (ups':=[(1,one ⟨[.slice (some ⟨0,k,none⟩) n 0,.int .i64 (p + 1)],101,2⟩)]) (as':=[]) (v':=.int .i64 x1) 7 [0,1,6] hE1 trivial rfl rfl rfl rfl ⟨rCode rfl rfl,rCells rfl ⟨rfl,rfl,.inr rfl⟩ rfl,rFlat (rI_flat _) rfl (.inl rfl) rfl,trivial⟩ ⟨frOne rfl rfl,trivial⟩ trivial rfl rfl (ho1 ⟨_,rfl⟩) (hu1 rfl) rfl rfl ?_
 refine gM trivial (.inr rfl) rfl rfl rfl ?_
 refine rg_nil nofun ?_
 refine vc_block ?_
 refine vc_loopT (fun n_ S_=>∃ (o:Ow) (i q:Int),ownOk o=true∧0≤i∧i≤8∧p≤q∧q≤p + 1 + 140 * (8 - i)∧n_=i.toNat∧S_=⟨6,[(0,.pointer (some ⟨1,0,none⟩)),(2,.pointer (some ⟨2,0,none⟩)),(3,.pointer (some ⟨5,0,none⟩)),(4,.int .i64 i)],[(0,false,one ⟨hls k (rY l),t0,0⟩),(1,true,one ⟨[.slice (some ⟨0,k,none⟩) n 0,.int .i64 (q)],101,2⟩),(2,true,one ⟨[.string ⟨#[]⟩,.slice none 0 0,.slice none 0 0],29,3⟩),(3,true,one ⟨rSp o.h,38,77⟩),(4,true,one ⟨rSp o.d,38,77⟩),(5,true,one ⟨[.string o.t,.slice (some ⟨3,0,none⟩) o.h.length 0,.slice (some ⟨4,0,none⟩) o.d.length 0],29,3⟩)]⟩) ⟨oN,x1,p + 1,hkN,(by omega),(by omega),(by omega),(by omega),rfl,rfl⟩ (re_nil (ms:=[0,1,2,3,4,5]) (C:=999) rfl ⟨⟨⟨rfl,rfl⟩,rfl⟩,⟨⟨rfl,rfl⟩,rfl⟩,⟨⟨rfl,rfl⟩,rfl⟩,⟨⟨rfl,rfl⟩,rfl⟩,trivial⟩ ⟨ktCode rfl rfl,ktRow rfl rfl rfl (BlkW.refl _) id rfl,ktRow rfl rfl rfl ⟨.inl rfl,fun _=>rfl,.inr (.inl rfl),fun q=>(by cases q)⟩ id rfl,ktFlat (rSp_flat _) rfl (.inr (.inl rfl)) id rfl,ktFlat (rSp_flat _) rfl (.inr (.inl rfl)) id rfl,ktRow rfl rfl rfl ⟨.inl rfl,fun _=>rfl,.inr (.inl rfl),fun q=>(by cases q)⟩ id rfl,trivial⟩ rfl rfl (rig_of rfl) rfl) ?_
 rintro n_ S_ ⟨o,i,q,hk,hi0,hi,hq,hr,rfl,rfl⟩
 refine vc_seq ?_
 refine vc_seq ?_
 refine vc_region hm ?_
 refine gM trivial (.inl rfl) rfl rfl rfl ?_
 refine gI trivial rfl rfl rfl rfl rfl rfl ?_
 refine rg_nil nofun ?_
 refine cI rfl (fun c11=>?_) (fun c11=>?_)
 ·skip
  have p11:=of_decide_eq_true c11
  refine vc_skip ?_
  refine vc_seq ?_
  refine vc_block ?_
  refine vc_seq ?_
  refine vc_region hm ?_
  refine gM trivial (.inl rfl) rfl rfl rfl ?_
  obtain ⟨E3,hE3,s3,p3,s3a,s3b,s3c,q3a,q3b,rfl⟩:=span_c (k:=k) (t0:=t0) (p:=q) hl hn (by omega) (by omega) 
  refine gCF (ups':=[(1,one ⟨[.slice (some ⟨0,k,none⟩) n 0,.int .i64 (p3)],101,2⟩)]) (as':=[]) (v':=vSp s3) 6 [0,1] hE3 trivial rfl rfl rfl rfl ⟨rCode rfl rfl,rCells rfl ⟨rfl,rfl,.inr rfl⟩ rfl,trivial⟩ ⟨frOne rfl rfl,trivial⟩ trivial rfl rfl (ho1 ⟨_,rfl⟩) (hu1 rfl) rfl rfl ?_
  refine gZ (u':=7) trivial rfl rfl rfl rfl rfl rfl rfl rfl ?_
  refine gT trivial rfl rfl rfl rfl rfl rfl rfl rfl rfl rfl (Nat.le_of_ble_eq_true rfl) rfl ?_
  refine rg_nil nofun ?_
  refine vc_seq ?_
  refine vc_region hm ?_
  refine gM trivial (.inl rfl) rfl rfl rfl ?_
  obtain ⟨E4,hE4,x4,x4a,x4b,rfl⟩:=pick_c (k:=k) (t0:=t0) (p:=p3) hl hn (by omega) (by omega) (m:=6) (by omega) (by omega)
  refine gCF (ups':=[(1,one ⟨[.slice (some ⟨0,k,none⟩) n 0,.int .i64 (p3 + 1)],101,2⟩)]) (as':=[]) (v':=.int .i64 x4) 7 [0,1] hE4 trivial rfl rfl rfl rfl ⟨rCode rfl rfl,rCells rfl ⟨rfl,rfl,.inr rfl⟩ rfl,trivial⟩ ⟨frOne rfl rfl,trivial⟩ trivial rfl rfl (ho1 ⟨_,rfl⟩) (hu1 rfl) rfl rfl ?_
  refine rg_nil nofun ?_
  refine vc_block ?_
  refine vc_seq ?_
  refine vc_region hm ?_
  refine gI trivial rfl rfl rfl rfl rfl rfl ?_
  refine gM trivial (.inr rfl) rfl rfl rfl ?_
  refine rg_nil nofun ?_
  refine cI rfl (fun c27=>?_) (fun c27=>?_)
  ·skip
   have p27:=eq_of_beq c27
   refine vc_region hm ?_
   refine gL trivial rfl rfl rfl rfl rfl rfl rfl rfl ?_
   refine gL trivial rfl rfl rfl rfl rfl rfl rfl rfl ?_
   refine gCn 9 [3,4,7,8] (spec_OwnClean_w (o:=o) (s:=s3) hk) trivial rfl rfl rfl rfl ⟨rFlat (rSp_flat o.h) rfl (.inl rfl) rfl,rFlat (rSp_flat o.d) rfl (.inl rfl) rfl,trivial⟩ ⟨rSp_flat _,rSp_flat _,trivial⟩ rfl rfl rfl rfl ?_
   refine gM trivial (.inl rfl) rfl rfl rfl ?_
   refine gE trivial rfl rfl rfl rfl rfl rfl ?_
   refine gE trivial rfl rfl rfl rfl rfl rfl ?_
   refine gT trivial rfl rfl rfl rfl rfl rfl rfl rfl rfl rfl (Nat.le_of_ble_eq_true rfl) rfl ?_
   refine rg_nil nofun ?_
   refine vc_region hm ?_
   refine gM trivial (.inl rfl) rfl rfl rfl ?_
   refine gA trivial rfl rfl rfl rfl rfl rfl (by omega) ?_
   refine gM trivial (.inr rfl) rfl rfl rfl ?_
   refine rg_nil nofun ?_
   exact lp_nextT ⟨(chO (spanOk s3) o (cleanX o s3)),i - 1,p3 + 1,(chO_is hk),(by omega),(by omega),(by omega),(by omega),rfl,rfl⟩ (by omega) (re_nil (ms:=[0,1,2,7,8,5]) (C:=999) rfl ⟨⟨⟨rfl,rfl⟩,rfl⟩,⟨⟨rfl,rfl⟩,rfl⟩,⟨⟨rfl,rfl⟩,rfl⟩,⟨⟨rfl,rfl⟩,rfl⟩,trivial⟩ ⟨ktCode rfl rfl,ktRow rfl rfl rfl (BlkW.refl _) id rfl,ktRow rfl rfl rfl ⟨.inl rfl,fun _=>rfl,.inr (.inl rfl),fun q=>(by cases q)⟩ id rfl,ktFlat (rSp_flat _) rfl (.inr (.inr ⟨by decide,by decide,by decide⟩)) id rfl,ktFlat (rSp_flat _) rfl (.inr (.inr ⟨by decide,by decide,by decide⟩)) id rfl,ktRow rfl rfl rfl ⟨.inl rfl,fun _=>rfl,.inr (.inl rfl),fun q=>(by cases q)⟩ id rfl,trivial⟩ rfl rfl (rig_of rfl) rfl)
  ·skip
   have p27:=ne_of_beq_false c27
   refine vc_seq ?_
   refine vc_region hm ?_
   refine gI trivial rfl rfl rfl rfl rfl rfl ?_
   refine gM trivial (.inr rfl) rfl rfl rfl ?_
   refine rg_nil nofun ?_
   refine cI rfl (fun c35=>?_) (fun c35=>?_)
   ·skip
    have p35:=eq_of_beq c35
    refine vc_region hm ?_
    refine gL trivial rfl rfl rfl rfl rfl rfl rfl rfl ?_
    refine gL trivial rfl rfl rfl rfl rfl rfl rfl rfl ?_
    refine gCn 9 [3,4,7,8] (spec_OwnDrop_w (o:=o) (s:=s3) hk) trivial rfl rfl rfl rfl ⟨rFlat (rSp_flat o.h) rfl (.inl rfl) rfl,rFlat (rSp_flat o.d) rfl (.inl rfl) rfl,trivial⟩ ⟨rSp_flat _,rSp_flat _,trivial⟩ rfl rfl rfl rfl ?_
    refine gM trivial (.inl rfl) rfl rfl rfl ?_
    refine gE trivial rfl rfl rfl rfl rfl rfl ?_
    refine gE trivial rfl rfl rfl rfl rfl rfl ?_
    refine gT trivial rfl rfl rfl rfl rfl rfl rfl rfl rfl rfl (Nat.le_of_ble_eq_true rfl) rfl ?_
    refine rg_nil nofun ?_
    refine vc_region hm ?_
    refine gM trivial (.inl rfl) rfl rfl rfl ?_
    refine gA trivial rfl rfl rfl rfl rfl rfl (by omega) ?_
    refine gM trivial (.inr rfl) rfl rfl rfl ?_
    refine rg_nil nofun ?_
    exact lp_nextT ⟨(chO (mayD o s3) o (dropX o s3)),i - 1,p3 + 1,(chO_is hk),(by omega),(by omega),(by omega),(by omega),rfl,rfl⟩ (by omega) (re_nil (ms:=[0,1,2,7,8,5]) (C:=999) rfl ⟨⟨⟨rfl,rfl⟩,rfl⟩,⟨⟨rfl,rfl⟩,rfl⟩,⟨⟨rfl,rfl⟩,rfl⟩,⟨⟨rfl,rfl⟩,rfl⟩,trivial⟩ ⟨ktCode rfl rfl,ktRow rfl rfl rfl (BlkW.refl _) id rfl,ktRow rfl rfl rfl ⟨.inl rfl,fun _=>rfl,.inr (.inl rfl),fun q=>(by cases q)⟩ id rfl,ktFlat (rSp_flat _) rfl (.inr (.inr ⟨by decide,by decide,by decide⟩)) id rfl,ktFlat (rSp_flat _) rfl (.inr (.inr ⟨by decide,by decide,by decide⟩)) id rfl,ktRow rfl rfl rfl ⟨.inl rfl,fun _=>rfl,.inr (.inl rfl),fun q=>(by cases q)⟩ id rfl,trivial⟩ rfl rfl (rig_of rfl) rfl)
   ·skip
    have p35:=ne_of_beq_false c35
    refine vc_seq ?_
    refine vc_seq ?_
    refine vc_region hm ?_
    refine gI trivial rfl rfl rfl rfl rfl rfl ?_
    refine gM trivial (.inr rfl) rfl rfl rfl ?_
    refine rg_nil nofun ?_
    refine cI rfl (fun c43=>?_) (fun c43=>?_)
    ·skip
     have p43:=eq_of_beq c43
     refine vc_skip ?_
     refine cT rfl c43 ?_
     refine vc_region hm ?_
     refine gL trivial rfl rfl rfl rfl rfl rfl rfl rfl ?_
     refine gL trivial rfl rfl rfl rfl rfl rfl rfl rfl ?_
     refine gM trivial (.inl rfl) rfl rfl rfl ?_
     refine gL trivial rfl rfl rfl rfl rfl rfl rfl rfl ?_
     obtain ⟨E10,hE10,t10,p10,t10a,q10a,q10b,rfl⟩:=fit_c (k:=k) (t0:=t0) (p:=p3 + 1) hl hn (by omega) (by omega) (s:=s3) ⟨s3a,s3b,s3c⟩
     refine gCF (ups':=[(1,one ⟨[.slice (some ⟨0,k,none⟩) n 0,.int .i64 (p10)],101,2⟩)]) (as':=[]) (v':=.string t10) 7 [0,1] hE10 trivial rfl rfl rfl rfl ⟨rCode rfl rfl,rCells rfl ⟨rfl,rfl,.inr rfl⟩ rfl,trivial⟩ ⟨frOne rfl rfl,trivial⟩ trivial rfl rfl (ho1 ⟨_,rfl⟩) (hu1 rfl) rfl rfl ?_
     refine gCn 9 [3,4,7,8] (spec_OwnFill_w (o:=o) (s:=s3) (d:=t10) hk (by omega)) trivial rfl rfl rfl rfl ⟨rFlat (rSp_flat o.h) rfl (.inl rfl) rfl,rFlat (rSp_flat o.d) rfl (.inl rfl) rfl,trivial⟩ ⟨rSp_flat _,rSp_flat _,trivial⟩ rfl rfl rfl rfl ?_
     refine gM trivial (.inl rfl) rfl rfl rfl ?_
     refine gE trivial rfl rfl rfl rfl rfl rfl ?_
     refine gE trivial rfl rfl rfl rfl rfl rfl ?_
     refine gT trivial rfl rfl rfl rfl rfl rfl rfl rfl rfl rfl (Nat.le_of_ble_eq_true rfl) rfl ?_
     refine rg_nil (fun _=>by kernel_rfl) ?_
     refine vc_region hm ?_
     refine gM trivial (.inl rfl) rfl rfl rfl ?_
     refine gA trivial rfl rfl rfl rfl rfl rfl (by omega) ?_
     refine gM trivial (.inr rfl) rfl rfl rfl ?_
     refine rg_nil nofun ?_
     exact lp_nextT ⟨(chO (mayF s3 t10) o (fillX o s3 t10)),i - 1,p10,(chO_is hk),(by omega),(by omega),(by omega),(by omega),rfl,rfl⟩ (by omega) (re_nil (ms:=[0,1,2,7,8,5]) (C:=999) rfl ⟨⟨⟨rfl,rfl⟩,rfl⟩,⟨⟨rfl,rfl⟩,rfl⟩,⟨⟨rfl,rfl⟩,rfl⟩,⟨⟨rfl,rfl⟩,rfl⟩,trivial⟩ ⟨ktCode rfl rfl,ktRow rfl rfl rfl (BlkW.refl _) id rfl,ktRow rfl rfl rfl ⟨.inl rfl,fun _=>rfl,.inr (.inl rfl),fun q=>(by cases q)⟩ id rfl,ktFlat (rSp_flat _) rfl (.inr (.inr ⟨by decide,by decide,by decide⟩)) id rfl,ktFlat (rSp_flat _) rfl (.inr (.inr ⟨by decide,by decide,by decide⟩)) id rfl,ktRow rfl rfl rfl ⟨.inl rfl,fun _=>rfl,.inr (.inl rfl),fun q=>(by cases q)⟩ id rfl,trivial⟩ rfl rfl (rig_of rfl) rfl)
    ·skip
     have p43:=ne_of_beq_false c43
     refine vc_region hm ?_
     refine gI trivial rfl rfl rfl rfl rfl rfl ?_
     refine gM trivial (.inr rfl) rfl rfl rfl ?_
     refine rg_nil nofun ?_
     refine cI rfl (fun c43=>?_) (fun c43=>?_)
     ·skip
      have p43:=eq_of_beq c43
      refine vc_region hm ?_
      refine gL trivial rfl rfl rfl rfl rfl rfl rfl rfl ?_
      refine gL trivial rfl rfl rfl rfl rfl rfl rfl rfl ?_
      refine gM trivial (.inl rfl) rfl rfl rfl ?_
      refine gL trivial rfl rfl rfl rfl rfl rfl rfl rfl ?_
      obtain ⟨E13,hE13,t13,p13,t13a,q13a,q13b,rfl⟩:=fit_c (k:=k) (t0:=t0) (p:=p3 + 1) hl hn (by omega) (by omega) (s:=s3) ⟨s3a,s3b,s3c⟩
      refine gCF (ups':=[(1,one ⟨[.slice (some ⟨0,k,none⟩) n 0,.int .i64 (p13)],101,2⟩)]) (as':=[]) (v':=.string t13) 7 [0,1] hE13 trivial rfl rfl rfl rfl ⟨rCode rfl rfl,rCells rfl ⟨rfl,rfl,.inr rfl⟩ rfl,trivial⟩ ⟨frOne rfl rfl,trivial⟩ trivial rfl rfl (ho1 ⟨_,rfl⟩) (hu1 rfl) rfl rfl ?_
      refine gCn 9 [3,4,7,8] (spec_OwnFill_w (o:=o) (s:=s3) (d:=t13) hk (by omega)) trivial rfl rfl rfl rfl ⟨rFlat (rSp_flat o.h) rfl (.inl rfl) rfl,rFlat (rSp_flat o.d) rfl (.inl rfl) rfl,trivial⟩ ⟨rSp_flat _,rSp_flat _,trivial⟩ rfl rfl rfl rfl ?_
      refine gM trivial (.inl rfl) rfl rfl rfl ?_
      refine gE trivial rfl rfl rfl rfl rfl rfl ?_
      refine gE trivial rfl rfl rfl rfl rfl rfl ?_
      refine gT trivial rfl rfl rfl rfl rfl rfl rfl rfl rfl rfl (Nat.le_of_ble_eq_true rfl) rfl ?_
      refine rg_nil (fun _=>by kernel_rfl) ?_
      refine vc_region hm ?_
      refine gM trivial (.inl rfl) rfl rfl rfl ?_
      refine gA trivial rfl rfl rfl rfl rfl rfl (by omega) ?_
      refine gM trivial (.inr rfl) rfl rfl rfl ?_
      refine rg_nil nofun ?_
      exact lp_nextT ⟨(chO (mayF s3 t13) o (fillX o s3 t13)),i - 1,p13,(chO_is hk),(by omega),(by omega),(by omega),(by omega),rfl,rfl⟩ (by omega) (re_nil (ms:=[0,1,2,7,8,5]) (C:=999) rfl ⟨⟨⟨rfl,rfl⟩,rfl⟩,⟨⟨rfl,rfl⟩,rfl⟩,⟨⟨rfl,rfl⟩,rfl⟩,⟨⟨rfl,rfl⟩,rfl⟩,trivial⟩ ⟨ktCode rfl rfl,ktRow rfl rfl rfl (BlkW.refl _) id rfl,ktRow rfl rfl rfl ⟨.inl rfl,fun _=>rfl,.inr (.inl rfl),fun q=>(by cases q)⟩ id rfl,ktFlat (rSp_flat _) rfl (.inr (.inr ⟨by decide,by decide,by decide⟩)) id rfl,ktFlat (rSp_flat _) rfl (.inr (.inr ⟨by decide,by decide,by decide⟩)) id rfl,ktRow rfl rfl rfl ⟨.inl rfl,fun _=>rfl,.inr (.inl rfl),fun q=>(by cases q)⟩ id rfl,trivial⟩ rfl rfl (rig_of rfl) rfl)
     ·skip
      have p43:=ne_of_beq_false c43
      refine vc_region hm ?_
      refine gL trivial rfl rfl rfl rfl rfl rfl rfl rfl ?_
      refine gM trivial (.inl rfl) rfl rfl rfl ?_
      obtain ⟨E15,hE15,x15,x15a,x15b,rfl⟩:=pick_c (k:=k) (t0:=t0) (p:=p3 + 1) hl hn (by omega) (by omega) (m:=40) (by omega) (by omega)
      refine gCF (ups':=[(1,one ⟨[.slice (some ⟨0,k,none⟩) n 0,.int .i64 (p3 + 1 + 1)],101,2⟩)]) (as':=[]) (v':=.int .i64 x15) 7 [0,1] hE15 trivial rfl rfl rfl rfl ⟨rCode rfl rfl,rCells rfl ⟨rfl,rfl,.inr rfl⟩ rfl,trivial⟩ ⟨frOne rfl rfl,trivial⟩ trivial rfl rfl (ho1 ⟨_,rfl⟩) (hu1 rfl) rfl rfl ?_
      refine gM trivial (.inl rfl) rfl rfl rfl ?_
      obtain ⟨E16,hE16,t16,p16,t16a,q16a,q16b,rfl⟩:=data_c (k:=k) (t0:=t0) (p:=p3 + 1 + 1) hl hn (by omega) (by omega) 
      refine gCF (ups':=[(1,one ⟨[.slice (some ⟨0,k,none⟩) n 0,.int .i64 (p16)],101,2⟩)]) (as':=[]) (v':=.string t16) 7 [0,1] hE16 trivial rfl rfl rfl rfl ⟨rCode rfl rfl,rCells rfl ⟨rfl,rfl,.inr rfl⟩ rfl,trivial⟩ ⟨frOne rfl rfl,trivial⟩ trivial rfl rfl (ho1 ⟨_,rfl⟩) (hu1 rfl) rfl rfl ?_
      refine gCn 9 [3,4,7,8] (spec_OwnWrite_w (o:=o) (a:=x15) (d:=t16) hk (by omega)) trivial rfl rfl rfl rfl ⟨rFlat (rSp_flat o.h) rfl (.inl rfl) rfl,rFlat (rSp_flat o.d) rfl (.inl rfl) rfl,trivial⟩ ⟨rSp_flat _,rSp_flat _,trivial⟩ rfl rfl rfl rfl ?_
      refine gM trivial (.inl rfl) rfl rfl rfl ?_
      refine gE trivial rfl rfl rfl rfl rfl rfl ?_
      refine gE trivial rfl rfl rfl rfl rfl rfl ?_
      refine gT trivial rfl rfl rfl rfl rfl rfl rfl rfl rfl rfl (Nat.le_of_ble_eq_true rfl) rfl ?_
      refine rg_nil (fun _=>by kernel_rfl) ?_
      refine vc_region hm ?_
      refine gM trivial (.inl rfl) rfl rfl rfl ?_
      refine gA trivial rfl rfl rfl rfl rfl rfl (by omega) ?_
      refine gM trivial (.inr rfl) rfl rfl rfl ?_
      refine rg_nil nofun ?_
      exact lp_nextT ⟨(chO (mayW x15 t16) o (writeX o x15 t16)),i - 1,p16,(chO_is hk),(by omega),(by omega),(by omega),(by omega),rfl,rfl⟩ (by omega) (re_nil (ms:=[0,1,2,7,8,5]) (C:=999) rfl ⟨⟨⟨rfl,rfl⟩,rfl⟩,⟨⟨rfl,rfl⟩,rfl⟩,⟨⟨rfl,rfl⟩,rfl⟩,⟨⟨rfl,rfl⟩,rfl⟩,trivial⟩ ⟨ktCode rfl rfl,ktRow rfl rfl rfl (BlkW.refl _) id rfl,ktRow rfl rfl rfl ⟨.inl rfl,fun _=>rfl,.inr (.inl rfl),fun q=>(by cases q)⟩ id rfl,ktFlat (rSp_flat _) rfl (.inr (.inr ⟨by decide,by decide,by decide⟩)) id rfl,ktFlat (rSp_flat _) rfl (.inr (.inr ⟨by decide,by decide,by decide⟩)) id rfl,ktRow rfl rfl rfl ⟨.inl rfl,fun _=>rfl,.inr (.inl rfl),fun q=>(by cases q)⟩ id rfl,trivial⟩ rfl rfl (rig_of rfl) rfl)
 ·skip
  have p11:=of_decide_eq_false c11
  refine vc_exit ?_
  refine vc_seq ?_
  refine vc_region hm ?_
  refine gL trivial rfl rfl rfl rfl rfl rfl rfl rfl ?_
  refine gT trivial rfl rfl rfl rfl rfl rfl rfl rfl rfl rfl (Nat.le_of_ble_eq_true rfl) rfl ?_
  refine rg_nil nofun ?_
  refine vc_ret ?_
  exact ⟨mkF (.agg #[.string o.t,.slice (some ⟨2,0,none⟩) o.h.length 0,.slice (some ⟨3,0,none⟩) o.d.length 0]) [0] [(1,one ⟨[.slice (some ⟨0,k,none⟩) n 0,.int .i64 (q)],101,2⟩)] [(2,one ⟨rSp o.h,38,77⟩),(3,one ⟨rSp o.d,38,77⟩)],_,endsT [(2,3,one ⟨rSp o.h,38,77⟩),(3,4,one ⟨rSp o.d,38,77⟩)] (.inr rfl) (.cell rfl rfl rfl rfl rfl .nil) rfl rfl ⟨upOne rfl rfl rfl,trivial⟩ ⟨asFlat rfl (rSp_flat _),asFlat rfl (rSp_flat _),trivial⟩ rfl,o,_,hk,(by omega),(by omega),rfl⟩
theorem overT_len {t d:ByteArray}:(overT t 0 1 d).size≤t.size + d.size:=by
 unfold overT
 simp only [ByteArray.size_append,ByteArray.size_extract]
 omega
theorem bentO_c {l:List Int} {k n t0:Nat} {p:Int} (hl:ByL l) (hn:n≤l.length) (hp0:0≤p) (hp1:p≤989000) {o:Ow} (ht:o.t.size≤900000) (hh:o.h.length≤900000) (hd:o.d.length≤900000):∃ E,FDoes Try.prog 77 [.pointer (some ⟨1,0,none⟩),.agg #[.string o.t,.slice (some ⟨2,0,none⟩) o.h.length 0,.slice (some ⟨3,0,none⟩) o.d.length 0]] (hp [(0,false,one ⟨hls k (rY l),t0,0⟩),(1,true,one ⟨[.slice (some ⟨0,k,none⟩) n 0,.int .i64 (p)],101,2⟩),(2,false,one ⟨rSp o.h,38,0⟩),(3,false,one ⟨rSp o.d,38,0⟩)]) E∧∃ (x:Ow) (p2:Int),x.t.size≤o.t.size + 200∧x.h.length≤o.h.length + 14∧x.d.length≤o.d.length + 14∧p≤p2∧p2≤p + 200∧E=mkF (.agg #[.string x.t,.slice (some ⟨4,0,none⟩) x.h.length 0,.slice (some ⟨5,0,none⟩) x.d.length 0]) [0,2,3] [(1,one ⟨[.slice (some ⟨0,k,none⟩) n 0,.int .i64 (p2)],101,2⟩)] [(4,one ⟨rSp x.h,38,2⟩),(5,one ⟨rSp x.d,38,2⟩)]:=by
 have hm:Try.prog.follows .mixedOrders=true:=by kernel_rfl
 have hd_:∀ x_ ∈ ([(0,false,one ⟨hls k (rY l),t0,0⟩),(1,true,one ⟨[.slice (some ⟨0,k,none⟩) n 0,.int .i64 (p)],101,2⟩),(2,false,one ⟨rSp o.h,38,0⟩),(3,false,one ⟨rSp o.d,38,0⟩)]:List (Nat × Bool × Fam)),∀ k_ y_,x_.2.2 k_=some y_→DetB (lt 4) y_:=by
  intro x_ hx k_ y_ e
  simp only [List.mem_cons,List.not_mem_nil,or_false] at hx
  rcases hx with rfl|rfl|rfl|rfl
  ·exact det_code e
  ·exact det_ok rfl e
  ·exact det_row (rSp_flat _) e
  ·exact det_row (rSp_flat _) e
 refine fn_some (u0:=4) Try.func77 rfl rfl (gets rfl rfl rfl hd_ rfl) ?_
 clear hd_
 refine vc_seq ?_
 refine vc_region hm ?_
 refine gB (u':=5) trivial rfl rfl rfl rfl rfl rfl rfl rfl ?_
 refine gZ (u':=6) trivial rfl rfl rfl rfl rfl rfl rfl rfl ?_
 refine rg_nil nofun ?_
 refine vc_seq ?_
 refine vc_region hm ?_
 refine gL trivial rfl rfl rfl rfl rfl rfl rfl rfl ?_
 refine gCn 8 [2,3,6,7] (spec_l6Copy_c (o:=o) (by omega) (by omega) (by omega)) trivial rfl rfl rfl rfl ⟨rFlat (rSp_flat o.h) rfl (.inl rfl) rfl,rFlat (rSp_flat o.d) rfl (.inl rfl) rfl,trivial⟩ ⟨rSp_flat _,rSp_flat _,trivial⟩ rfl rfl rfl rfl ?_
 refine gZ (u':=9) trivial rfl rfl rfl rfl rfl rfl rfl rfl ?_
 refine gT trivial rfl rfl rfl rfl rfl rfl rfl rfl rfl rfl (Nat.le_of_ble_eq_true rfl) rfl ?_
 refine rg_nil nofun ?_
 refine vc_seq ?_
 refine vc_seq ?_
 refine vc_region hm ?_
 refine gM trivial (.inl rfl) rfl rfl rfl ?_
 obtain ⟨E1,hE1,x1,x1a,x1b,rfl⟩:=pick_c (k:=k) (t0:=t0) (p:=p) hl hn (by omega) (by omega) (m:=60) (by omega) (by omega)
 refine gCF (ups':=[(1,one ⟨[.slice (some ⟨0,k,none⟩) n 0,.int .i64 (p + 1)],101,2⟩)]) (as':=[]) (v':=.int .i64 x1) 9 [0,1] hE1 trivial rfl rfl rfl rfl ⟨rCode rfl rfl,rCells rfl ⟨rfl,rfl,.inr rfl⟩ rfl,trivial⟩ ⟨frOne rfl rfl,trivial⟩ trivial rfl rfl (ho1 ⟨_,rfl⟩) (hu1 rfl) rfl rfl ?_
 refine rg_nil nofun ?_
 refine vc_block ?_
 refine vc_seq ?_
 refine vc_region hm ?_
 refine gI trivial rfl rfl rfl rfl rfl rfl ?_
 refine gM trivial (.inr rfl) rfl rfl rfl ?_
 refine rg_nil nofun ?_
 refine cI rfl (fun c10=>?_) (fun c10=>?_)
 ·skip
  have p10:=eq_of_beq c10
  refine vc_region hm ?_
  refine gM trivial (.inl rfl) rfl rfl rfl ?_
  obtain ⟨E3,hE3,t3,p3,t3a,q3a,q3b,rfl⟩:=someT_c (k:=k) (t0:=t0) (p:=p + 1) hl hn (by omega) (by omega) 
  refine gCF (ups':=[(1,one ⟨[.slice (some ⟨0,k,none⟩) n 0,.int .i64 (p3)],101,2⟩)]) (as':=[]) (v':=.string t3) 9 [0,1] hE3 trivial rfl rfl rfl rfl ⟨rCode rfl rfl,rCells rfl ⟨rfl,rfl,.inr rfl⟩ rfl,trivial⟩ ⟨frOne rfl rfl,trivial⟩ trivial rfl rfl (ho1 ⟨_,rfl⟩) (hu1 rfl) rfl rfl ?_
  refine gF trivial rfl rfl rfl rfl rfl ?_
  refine gT trivial rfl rfl rfl rfl rfl rfl rfl rfl rfl rfl (Nat.le_of_ble_eq_true rfl) rfl ?_
  refine rg_nil nofun ?_
  refine vc_seq ?_
  refine vc_region hm ?_
  refine gL trivial rfl rfl rfl rfl rfl rfl rfl rfl ?_
  refine gT trivial rfl rfl rfl rfl rfl rfl rfl rfl rfl rfl (Nat.le_of_ble_eq_true rfl) rfl ?_
  refine rg_nil nofun ?_
  refine vc_ret ?_
  exact ⟨mkF (.agg #[.string t3,.slice (some ⟨4,0,none⟩) o.h.length 0,.slice (some ⟨5,0,none⟩) o.d.length 0]) [0,2,3] [(1,one ⟨[.slice (some ⟨0,k,none⟩) n 0,.int .i64 (p3)],101,2⟩)] [(4,one ⟨rSp o.h,38,2⟩),(5,one ⟨rSp o.d,38,2⟩)],_,endsT [(4,6,one ⟨rSp o.h,38,2⟩),(5,7,one ⟨rSp o.d,38,2⟩)] (.inr rfl) (.cell rfl rfl rfl rfl rfl .nil) rfl rfl ⟨upOne rfl rfl rfl,trivial⟩ ⟨asFlat rfl (rSp_flat _),asFlat rfl (rSp_flat _),trivial⟩ rfl,(⟨t3,o.h,o.d⟩:Ow),_,(show t3.size≤_ by omega),(show o.h.length≤_ by omega),(show o.d.length≤_ by omega),(by omega),(by omega),rfl⟩
 ·skip
  have p10:=ne_of_beq_false c10
  refine vc_seq ?_
  refine vc_region hm ?_
  refine gI trivial rfl rfl rfl rfl rfl rfl ?_
  refine gM trivial (.inr rfl) rfl rfl rfl ?_
  refine rg_nil nofun ?_
  refine cI rfl (fun c15=>?_) (fun c15=>?_)
  ·skip
   have p15:=eq_of_beq c15
   refine vc_region hm ?_
   refine gM trivial (.inl rfl) rfl rfl rfl ?_
   obtain ⟨E5,hE5,L5,p5,l5a,q5a,q5b,rfl⟩:=lists_c (k:=k) (t0:=t0) (p:=p + 1) hl hn (by omega) (by omega) 
   refine gCF (ups':=[(1,one ⟨[.slice (some ⟨0,k,none⟩) n 0,.int .i64 (p5)],101,2⟩)]) (as':=[(9,one ⟨rSp L5,38,2⟩)]) (v':=.slice (some ⟨9,0,none⟩) L5.length 0) 10 [0,1,9] hE5 trivial rfl rfl rfl rfl ⟨rCode rfl rfl,rCells rfl ⟨rfl,rfl,.inr rfl⟩ rfl,trivial⟩ ⟨frOne rfl rfl,trivial⟩ ⟨frFlat (rSp_flat _) rfl,trivial⟩ rfl rfl (ho1 ⟨_,rfl⟩) (hu1 rfl) rfl rfl ?_
   refine gF trivial rfl rfl rfl rfl rfl ?_
   refine gT trivial rfl rfl rfl rfl rfl rfl rfl rfl rfl rfl (Nat.le_of_ble_eq_true rfl) rfl ?_
   refine rg_nil nofun ?_
   refine vc_seq ?_
   refine vc_region hm ?_
   refine gL trivial rfl rfl rfl rfl rfl rfl rfl rfl ?_
   refine gT trivial rfl rfl rfl rfl rfl rfl rfl rfl rfl rfl (Nat.le_of_ble_eq_true rfl) rfl ?_
   refine rg_nil nofun ?_
   refine vc_ret ?_
   exact ⟨mkF (.agg #[.string o.t,.slice (some ⟨4,0,none⟩) L5.length 0,.slice (some ⟨5,0,none⟩) o.d.length 0]) [0,2,3] [(1,one ⟨[.slice (some ⟨0,k,none⟩) n 0,.int .i64 (p5)],101,2⟩)] [(4,one ⟨rSp L5,38,2⟩),(5,one ⟨rSp o.d,38,2⟩)],_,endsT [(4,9,one ⟨rSp L5,38,2⟩),(5,7,one ⟨rSp o.d,38,2⟩)] (.inr rfl) (.cell rfl rfl rfl rfl rfl .nil) rfl rfl ⟨upOne rfl rfl rfl,trivial⟩ ⟨asFlat rfl (rSp_flat _),asFlat rfl (rSp_flat _),trivial⟩ rfl,(⟨o.t,L5,o.d⟩:Ow),_,(show o.t.size≤_ by omega),(show L5.length≤_ by omega),(show o.d.length≤_ by omega),(by omega),(by omega),rfl⟩
  ·skip
   have p15:=ne_of_beq_false c15
   refine vc_seq ?_
   refine vc_region hm ?_
   refine gI trivial rfl rfl rfl rfl rfl rfl ?_
   refine gM trivial (.inr rfl) rfl rfl rfl ?_
   refine rg_nil nofun ?_
   refine cI rfl (fun c20=>?_) (fun c20=>?_)
   ·skip
    have p20:=eq_of_beq c20
    refine vc_region hm ?_
    refine gF trivial rfl rfl rfl rfl rfl ?_
    refine gL trivial rfl rfl rfl rfl rfl rfl rfl rfl ?_
    refine gM trivial (.inl rfl) rfl rfl rfl ?_
    obtain ⟨E7,hE7,s7,p7,s7a,s7b,s7c,q7a,q7b,rfl⟩:=span_c (k:=k) (t0:=t0) (p:=p + 1) hl hn (by omega) (by omega) 
    refine gCF (ups':=[(1,one ⟨[.slice (some ⟨0,k,none⟩) n 0,.int .i64 (p7)],101,2⟩)]) (as':=[]) (v':=vSp s7) 9 [0,1] hE7 trivial rfl rfl rfl rfl ⟨rCode rfl rfl,rCells rfl ⟨rfl,rfl,.inr rfl⟩ rfl,trivial⟩ ⟨frOne rfl rfl,trivial⟩ trivial rfl rfl (ho1 ⟨_,rfl⟩) (hu1 rfl) rfl rfl ?_
    refine gR (u':=10) (out:=rSp [s7]) trivial rfl rfl rfl rfl rfl rfl rfl rfl rfl rfl rfl rfl rfl rfl ?_
    refine gAp (u':=11) trivial rfl rfl rfl rfl rfl rfl rfl rfl rfl rfl rfl rfl (by rw [rowL_len (n:=2) (fun _=>rfl)]) (Nat.le_refl _) rfl (show (o.d.length + 1) * (16 + 1)≤140737488355328 by omega) (row_snoc (enc:=eSp) (x:=s7)) rfl ?_
    refine gF trivial rfl rfl rfl rfl rfl ?_
    refine gT trivial rfl rfl rfl rfl rfl rfl rfl rfl rfl rfl (Nat.le_of_ble_eq_true rfl) rfl ?_
    refine rg_nil (fun _=>by kernel_rfl) ?_
    refine vc_seq ?_
    refine vc_region hm ?_
    refine gL trivial rfl rfl rfl rfl rfl rfl rfl rfl ?_
    refine gT trivial rfl rfl rfl rfl rfl rfl rfl rfl rfl rfl (Nat.le_of_ble_eq_true rfl) rfl ?_
    refine rg_nil nofun ?_
    refine vc_ret ?_
    exact ⟨mkF (.agg #[.string o.t,.slice (some ⟨4,0,none⟩) o.h.length 0,.slice (some ⟨5,0,none⟩) (o.d ++ [s7]).length 0]) [0,2,3] [(1,one ⟨[.slice (some ⟨0,k,none⟩) n 0,.int .i64 (p7)],101,2⟩)] [(4,one ⟨rSp o.h,38,2⟩),(5,one ⟨rSp (o.d ++ [s7]),38,2⟩)],_,endsT [(4,6,one ⟨rSp o.h,38,2⟩),(5,10,one ⟨rSp (o.d ++ [s7]),38,2⟩)] (.inr rfl) (.cell rfl rfl rfl rfl rfl .nil) (by rw [List.length_append];rfl) rfl ⟨upOne rfl rfl rfl,trivial⟩ ⟨asFlat rfl (rSp_flat _),asFlat rfl (rSp_flat _),trivial⟩ rfl,(⟨o.t,o.h,(o.d ++ [s7])⟩:Ow),_,(show o.t.size≤_ by omega),(show o.h.length≤_ by omega),(by show (o.d ++ [s7]).length≤_;rw [List.length_append];show o.d.length + 1≤_;omega),(by omega),(by omega),rfl⟩
   ·skip
    have p20:=ne_of_beq_false c20
    refine vc_seq ?_
    refine vc_region hm ?_
    refine gI trivial rfl rfl rfl rfl rfl rfl ?_
    refine gM trivial (.inr rfl) rfl rfl rfl ?_
    refine rg_nil nofun ?_
    refine cI rfl (fun c29=>?_) (fun c29=>?_)
    ·skip
     have p29:=eq_of_beq c29
     refine vc_region hm ?_
     refine gM trivial (.inl rfl) rfl rfl rfl ?_
     obtain ⟨E9,hE9,L9,p9,l9a,q9a,q9b,rfl⟩:=lists_c (k:=k) (t0:=t0) (p:=p + 1) hl hn (by omega) (by omega) 
     refine gCF (ups':=[(1,one ⟨[.slice (some ⟨0,k,none⟩) n 0,.int .i64 (p9)],101,2⟩)]) (as':=[(9,one ⟨rSp L9,38,2⟩)]) (v':=.slice (some ⟨9,0,none⟩) L9.length 0) 10 [0,1,9] hE9 trivial rfl rfl rfl rfl ⟨rCode rfl rfl,rCells rfl ⟨rfl,rfl,.inr rfl⟩ rfl,trivial⟩ ⟨frOne rfl rfl,trivial⟩ ⟨frFlat (rSp_flat _) rfl,trivial⟩ rfl rfl (ho1 ⟨_,rfl⟩) (hu1 rfl) rfl rfl ?_
     refine gF trivial rfl rfl rfl rfl rfl ?_
     refine gT trivial rfl rfl rfl rfl rfl rfl rfl rfl rfl rfl (Nat.le_of_ble_eq_true rfl) rfl ?_
     refine rg_nil nofun ?_
     refine vc_seq ?_
     refine vc_region hm ?_
     refine gL trivial rfl rfl rfl rfl rfl rfl rfl rfl ?_
     refine gT trivial rfl rfl rfl rfl rfl rfl rfl rfl rfl rfl (Nat.le_of_ble_eq_true rfl) rfl ?_
     refine rg_nil nofun ?_
     refine vc_ret ?_
     exact ⟨mkF (.agg #[.string o.t,.slice (some ⟨4,0,none⟩) o.h.length 0,.slice (some ⟨5,0,none⟩) L9.length 0]) [0,2,3] [(1,one ⟨[.slice (some ⟨0,k,none⟩) n 0,.int .i64 (p9)],101,2⟩)] [(4,one ⟨rSp o.h,38,2⟩),(5,one ⟨rSp L9,38,2⟩)],_,endsT [(4,6,one ⟨rSp o.h,38,2⟩),(5,9,one ⟨rSp L9,38,2⟩)] (.inr rfl) (.cell rfl rfl rfl rfl rfl .nil) rfl rfl ⟨upOne rfl rfl rfl,trivial⟩ ⟨asFlat rfl (rSp_flat _),asFlat rfl (rSp_flat _),trivial⟩ rfl,(⟨o.t,o.h,L9⟩:Ow),_,(show o.t.size≤_ by omega),(show o.h.length≤_ by omega),(show L9.length≤_ by omega),(by omega),(by omega),rfl⟩
    ·skip
     have p29:=ne_of_beq_false c29
     refine vc_seq ?_
     refine vc_region hm ?_
     refine gI trivial rfl rfl rfl rfl rfl rfl ?_
     refine gM trivial (.inr rfl) rfl rfl rfl ?_
     refine rg_nil nofun ?_
     refine cI rfl (fun c34=>?_) (fun c34=>?_)
     ·skip
      have p34:=eq_of_beq c34
      refine vc_seq ?_
      refine vc_region hm ?_
      refine gF trivial rfl rfl rfl rfl rfl ?_
      refine gL trivial rfl rfl rfl rfl rfl rfl rfl rfl ?_
      refine gKT trivial rfl rfl rfl rfl rfl ?_
      refine gI trivial rfl rfl rfl rfl rfl rfl ?_
      refine rg_nil nofun ?_
      refine cI rfl (fun c39=>?_) (fun c39=>?_)
      ·skip
       have p39:=of_decide_eq_true c39
       refine vc_region hm ?_
       refine gF trivial rfl rfl rfl rfl rfl ?_
       refine gL trivial rfl rfl rfl rfl rfl rfl rfl rfl ?_
       refine gU trivial rfl rfl rfl rfl rfl rfl rfl rfl ?_
       refine gM trivial (.inl rfl) rfl rfl rfl ?_
       refine gR (u':=10) (out:=rS [⟨#[65]⟩,⟨#[113]⟩]) trivial rfl rfl rfl rfl rfl rfl rfl rfl rfl rfl rfl rfl rfl rfl ?_
       obtain ⟨E12,hE12,t12,t12a,t12b,rfl⟩:=ofS_c (k:=k) (t0:=t0) (p:=p + 1) hl hn (by omega) (by omega) (L:=[⟨#[65]⟩,⟨#[113]⟩]) (lo:=1) (hi:=1) (by decide) (by decide)
       refine gCF (ups':=[(1,one ⟨[.slice (some ⟨0,k,none⟩) n 0,.int .i64 (p + 1 + 1)],101,2⟩)]) (as':=[]) (v':=.string t12) 10 [0,1,9] hE12 trivial rfl rfl rfl rfl ⟨rCode rfl rfl,rCells rfl ⟨rfl,rfl,.inr rfl⟩ rfl,rFlat (rS_flat _) rfl (.inl rfl) rfl,trivial⟩ ⟨frOne rfl rfl,trivial⟩ trivial rfl rfl (ho1 ⟨_,rfl⟩) (hu1 rfl) rfl rfl ?_
       refine gC0 [] (spec_l6Over_c (t:=o.t) (d:=t12) (s:=⟨0,1⟩) (by decide) (by decide) (show (1:Int)≤_ by omega) (by omega) (by omega)) trivial rfl rfl rfl rfl (by trivial) rfl rfl rfl rfl rfl ?_
       refine gF trivial rfl rfl rfl rfl rfl ?_
       refine gT trivial rfl rfl rfl rfl rfl rfl rfl rfl rfl rfl (Nat.le_of_ble_eq_true rfl) rfl ?_
       refine rg_nil (fun _=>by kernel_rfl) ?_
       refine vc_seq ?_
       refine vc_region hm ?_
       refine gL trivial rfl rfl rfl rfl rfl rfl rfl rfl ?_
       refine gT trivial rfl rfl rfl rfl rfl rfl rfl rfl rfl rfl (Nat.le_of_ble_eq_true rfl) rfl ?_
       refine rg_nil nofun ?_
       refine vc_ret ?_
       exact ⟨mkF (.agg #[.string (overT o.t 0 1 t12),.slice (some ⟨4,0,none⟩) o.h.length 0,.slice (some ⟨5,0,none⟩) o.d.length 0]) [0,2,3] [(1,one ⟨[.slice (some ⟨0,k,none⟩) n 0,.int .i64 (p + 1 + 1)],101,2⟩)] [(4,one ⟨rSp o.h,38,2⟩),(5,one ⟨rSp o.d,38,2⟩)],_,endsT [(4,6,one ⟨rSp o.h,38,2⟩),(5,7,one ⟨rSp o.d,38,2⟩)] (.inr rfl) (.cell rfl rfl rfl rfl rfl .nil) rfl rfl ⟨upOne rfl rfl rfl,trivial⟩ ⟨asFlat rfl (rSp_flat _),asFlat rfl (rSp_flat _),trivial⟩ rfl,(⟨(overT o.t 0 1 t12),o.h,o.d⟩:Ow),_,(by show (overT o.t 0 1 t12).size≤_;have:=overT_len (t:=o.t) (d:=t12);omega),(show o.h.length≤_ by omega),(show o.d.length≤_ by omega),(by omega),(by omega),rfl⟩
      ·skip
       have p39:=of_decide_eq_false c39
       refine vc_skip ?_
       refine vc_seq ?_
       refine vc_region hm ?_
       refine gL trivial rfl rfl rfl rfl rfl rfl rfl rfl ?_
       refine gT trivial rfl rfl rfl rfl rfl rfl rfl rfl rfl rfl (Nat.le_of_ble_eq_true rfl) rfl ?_
       refine rg_nil nofun ?_
       refine vc_ret ?_
       exact ⟨mkF (.agg #[.string o.t,.slice (some ⟨4,0,none⟩) o.h.length 0,.slice (some ⟨5,0,none⟩) o.d.length 0]) [0,2,3] [(1,one ⟨[.slice (some ⟨0,k,none⟩) n 0,.int .i64 (p + 1)],101,2⟩)] [(4,one ⟨rSp o.h,38,2⟩),(5,one ⟨rSp o.d,38,2⟩)],_,endsT [(4,6,one ⟨rSp o.h,38,2⟩),(5,7,one ⟨rSp o.d,38,2⟩)] (.inr rfl) (.cell rfl rfl rfl rfl rfl .nil) rfl rfl ⟨upOne rfl rfl rfl,trivial⟩ ⟨asFlat rfl (rSp_flat _),asFlat rfl (rSp_flat _),trivial⟩ rfl,(⟨o.t,o.h,o.d⟩:Ow),_,(show o.t.size≤_ by omega),(show o.h.length≤_ by omega),(show o.d.length≤_ by omega),(by omega),(by omega),rfl⟩
     ·skip
      have p34:=ne_of_beq_false c34
      refine vc_skip ?_
      refine vc_seq ?_
      refine vc_region hm ?_
      refine gL trivial rfl rfl rfl rfl rfl rfl rfl rfl ?_
      refine gT trivial rfl rfl rfl rfl rfl rfl rfl rfl rfl rfl (Nat.le_of_ble_eq_true rfl) rfl ?_
      refine rg_nil nofun ?_
      refine vc_ret ?_
      exact ⟨mkF (.agg #[.string o.t,.slice (some ⟨4,0,none⟩) o.h.length 0,.slice (some ⟨5,0,none⟩) o.d.length 0]) [0,2,3] [(1,one ⟨[.slice (some ⟨0,k,none⟩) n 0,.int .i64 (p + 1)],101,2⟩)] [(4,one ⟨rSp o.h,38,2⟩),(5,one ⟨rSp o.d,38,2⟩)],_,endsT [(4,6,one ⟨rSp o.h,38,2⟩),(5,7,one ⟨rSp o.d,38,2⟩)] (.inr rfl) (.cell rfl rfl rfl rfl rfl .nil) rfl rfl ⟨upOne rfl rfl rfl,trivial⟩ ⟨asFlat rfl (rSp_flat _),asFlat rfl (rSp_flat _),trivial⟩ rfl,(⟨o.t,o.h,o.d⟩:Ow),_,(show o.t.size≤_ by omega),(show o.h.length≤_ by omega),(show o.d.length≤_ by omega),(by omega),(by omega),rfl⟩
theorem cp_app (a b:List Sp):rSp a ++ ((rSp b).drop 0).take (b.length * 2)=rSp (a ++ b):=by rw [row_all (n:=2) (fun _=>rfl)];exact (rowL_app eSp a b).symm
theorem rApp_nil {a b:List Sp} (h:rSp (a ++ b) = []):a.length + b.length=0:=by
 have:=rSp_nil h
 rwa [List.length_append] at this
theorem rApp_ne {a b:List Sp} (h:0<a.length + b.length):rSp (a ++ b) ≠ []:=rSp_ne (by rw [List.length_append];exact h)
theorem own_le {o:Ow} (h:ownOk o=true):o.t.size≤48∧o.h.length≤12∧o.d.length≤12:=by
 unfold ownOk at h
 simp only [Bool.and_eq_true] at h
 have h1:=h.1.1
 unfold textOk at h1
 rw [Bool.and_eq_true,decide_eq_true_eq] at h1
 refine ⟨by omega,spansOk_len h.1.2.2.1,spansOk_len h.1.2.2.2⟩
theorem near_c {l:List Int} {k n t0:Nat} {p:Int} (hl:ByL l) (hn:n≤l.length) (hp0:0≤p) (hp1:p≤988000) {o:Ow} (ht:o.t.size≤400000) (hh:o.h.length≤400000) (hd:o.d.length≤400000):∃ E,FDoes Try.prog 98 [.pointer (some ⟨1,0,none⟩),.agg #[.string o.t,.slice (some ⟨2,0,none⟩) o.h.length 0,.slice (some ⟨3,0,none⟩) o.d.length 0]] (hp [(0,false,one ⟨hls k (rY l),t0,0⟩),(1,true,one ⟨[.slice (some ⟨0,k,none⟩) n 0,.int .i64 (p)],101,2⟩),(2,false,one ⟨rSp o.h,38,0⟩),(3,false,one ⟨rSp o.d,38,0⟩)]) E∧∃ (s:Sp) (p2:Int),p≤p2∧p2≤p + 6∧E=mkF (vSp s) [0,2,3] [(1,one ⟨[.slice (some ⟨0,k,none⟩) n 0,.int .i64 (p2)],101,2⟩)] []:=by
 have hm:Try.prog.follows .mixedOrders=true:=by kernel_rfl
 have hd_:∀ x_ ∈ ([(0,false,one ⟨hls k (rY l),t0,0⟩),(1,true,one ⟨[.slice (some ⟨0,k,none⟩) n 0,.int .i64 (p)],101,2⟩),(2,false,one ⟨rSp o.h,38,0⟩),(3,false,one ⟨rSp o.d,38,0⟩)]:List (Nat × Bool × Fam)),∀ k_ y_,x_.2.2 k_=some y_→DetB (lt 4) y_:=by
  intro x_ hx k_ y_ e
  simp only [List.mem_cons,List.not_mem_nil,or_false] at hx
  rcases hx with rfl|rfl|rfl|rfl
  ·exact det_code e
  ·exact det_ok rfl e
  ·exact det_row (rSp_flat _) e
  ·exact det_row (rSp_flat _) e
 refine fn_some (u0:=4) Try.func98 rfl rfl (gets rfl rfl rfl hd_ rfl) ?_
 clear hd_
 refine vc_seq ?_
 refine vc_region hm ?_
 refine gB (u':=5) trivial rfl rfl rfl rfl rfl rfl rfl rfl ?_
 refine gZ (u':=6) trivial rfl rfl rfl rfl rfl rfl rfl rfl ?_
 refine rg_nil nofun ?_
 refine vc_seq ?_
 refine vc_region hm ?_
 refine gR (u':=7) (out:=rSp []) trivial rfl rfl rfl rfl rfl rfl rfl rfl rfl rfl rfl rfl rfl rfl ?_
 refine gF trivial rfl rfl rfl rfl rfl ?_
 refine gL trivial rfl rfl rfl rfl rfl rfl rfl rfl ?_
 refine gAp (u':=8) trivial rfl rfl rfl rfl rfl rfl rfl rfl rfl rfl rfl rfl rfl (cp_len _) (cp_leaf _) (show (0 + o.h.length) * (16 + 1)≤140737488355328 by omega) (cp_eq _) (Nat.zero_add _) ?_
 refine gF trivial rfl rfl rfl rfl rfl ?_
 refine gL trivial rfl rfl rfl rfl rfl rfl rfl rfl ?_
 refine gAp (u':=9) trivial rfl rfl rfl rfl rfl rfl rfl rfl rfl rfl rfl rfl (by rw [rowL_len (n:=2) (fun _=>rfl)];rfl) (cp_len _) (cp_leaf _) (show (o.h.length + o.d.length) * (16 + 1)≤140737488355328 by omega) (cp_app _ _) rfl ?_
 refine gM trivial (.inr rfl) rfl rfl rfl ?_
 refine rg_nil (fun _=>by kernel_rfl) ?_
 refine vc_seq ?_
 refine vc_seq ?_
 refine vc_region hm ?_
 refine gM trivial (.inl rfl) rfl rfl rfl ?_
 refine gK trivial rfl rfl rfl rfl rfl rfl (rApp_nil (a:=o.h) (b:=o.d)) ?_
 refine gI trivial rfl rfl rfl rfl rfl rfl ?_
 refine gM trivial (.inl rfl) rfl rfl rfl ?_
 refine gI2 (d:=17) rfl (fun c17=>?_) (fun c17=>?_)
 ·skip
  have p17:=of_decide_eq_true c17
  refine gM ⟨_,_,rfl,rfl,c17⟩ (.inl rfl) rfl rfl rfl ?_
  obtain ⟨E2,hE2,x2,x2a,x2b,rfl⟩:=pick_c (k:=k) (t0:=t0) (p:=p) hl hn (by omega) (by omega) (m:=3) (by omega) (by omega)
  refine gCF (ups':=[(1,one ⟨[.slice (some ⟨0,k,none⟩) n 0,.int .i64 (p + 1)],101,2⟩)]) (as':=[]) (v':=.int .i64 x2) 9 [0,1] hE2 ⟨_,_,rfl,rfl,c17⟩ rfl rfl rfl rfl ⟨rCode rfl rfl,rCells rfl ⟨rfl,rfl,.inr rfl⟩ rfl,trivial⟩ ⟨frOne rfl rfl,trivial⟩ trivial rfl rfl (ho1 ⟨_,rfl⟩) (hu1 rfl) rfl rfl ?_
  refine gI ⟨_,_,rfl,rfl,c17⟩ rfl rfl rfl rfl rfl rfl ?_
  refine gPT trivial rfl rfl c17 rfl rfl rfl ?_
  refine rg_nil nofun ?_
  refine cI rfl (fun c21=>?_) (fun c21=>?_)
  ·skip
   have p21:=of_decide_eq_true c21
   refine vc_seq ?_
   refine vc_region hm ?_
   refine gM trivial (.inl rfl) rfl rfl rfl ?_
   refine gM trivial (.inl rfl) rfl rfl rfl ?_
   refine gM trivial (.inl rfl) rfl rfl rfl ?_
   refine gK trivial rfl rfl rfl rfl rfl rfl (rApp_nil (a:=o.h) (b:=o.d)) ?_
   obtain ⟨E4,hE4,x4,x4a,x4b,rfl⟩:=pick_c (k:=k) (t0:=t0) (p:=p + 1) hl hn (by omega) (by omega) (m:=((o.h.length + o.d.length:Nat):Int)) (by omega) (by omega)
   refine gCF (ups':=[(1,one ⟨[.slice (some ⟨0,k,none⟩) n 0,.int .i64 (p + 1 + 1)],101,2⟩)]) (as':=[]) (v':=.int .i64 x4) 9 [0,1] hE4 trivial rfl rfl rfl rfl ⟨rCode rfl rfl,rCells rfl ⟨rfl,rfl,.inr rfl⟩ rfl,trivial⟩ ⟨frOne rfl rfl,trivial⟩ trivial rfl rfl (ho1 ⟨_,rfl⟩) (hu1 rfl) rfl rfl ?_
   refine gX trivial rfl rfl rfl rfl rfl rfl rfl rfl (by omega) (by omega) (rApp_ne (a:=o.h) (b:=o.d)) ?_
   refine gL trivial rfl rfl rfl rfl rfl rfl rfl (aSp (xs:=(o.h ++ o.d)) (by omega) (by rw [List.length_append];omega)) ?_
   refine gZ (u':=10) trivial rfl rfl rfl rfl rfl rfl rfl rfl ?_
   refine gT trivial rfl rfl rfl rfl rfl rfl rfl rfl rfl rfl (Nat.le_of_ble_eq_true rfl) rfl ?_
   refine rg_nil nofun ?_
   refine vc_seq ?_
   refine vc_region hm ?_
   refine gF trivial rfl rfl rfl rfl rfl ?_
   refine gL trivial rfl rfl rfl rfl rfl rfl rfl rfl ?_
   refine gF trivial rfl rfl rfl rfl rfl ?_
   refine gL trivial rfl rfl rfl rfl rfl rfl rfl rfl ?_
   refine gF trivial rfl rfl rfl rfl rfl ?_
   refine gL trivial rfl rfl rfl rfl rfl rfl rfl rfl ?_
   refine gI trivial rfl rfl rfl rfl rfl rfl ?_
   refine gM trivial (.inl rfl) rfl rfl rfl ?_
   obtain ⟨E5,hE5,x5,x5a,x5b,rfl⟩:=pick_c (k:=k) (t0:=t0) (p:=p + 1 + 1) hl hn (by omega) (by omega) (m:=12) (by omega) (by omega)
   refine gCF (ups':=[(1,one ⟨[.slice (some ⟨0,k,none⟩) n 0,.int .i64 (p + 1 + 1 + 1)],101,2⟩)]) (as':=[]) (v':=.int .i64 x5) 10 [0,1] hE5 trivial rfl rfl rfl rfl ⟨rCode rfl rfl,rCells rfl ⟨rfl,rfl,.inr rfl⟩ rfl,trivial⟩ ⟨frOne rfl rfl,trivial⟩ trivial rfl rfl (ho1 ⟨_,rfl⟩) (hu1 rfl) rfl rfl ?_
   refine gI trivial rfl rfl rfl rfl rfl rfl ?_
   refine gC0 [] (spec_l1Min_c (at_ (o.h ++ o.d) x4).hi (IntKind.i64.wrap ((IntKind.i64.wrap ((at_ (o.h ++ o.d) x4).lo + 1)) + x5))) trivial rfl rfl rfl rfl (by trivial) rfl rfl rfl rfl rfl ?_
   refine gU trivial rfl rfl rfl rfl rfl rfl rfl rfl ?_
   refine gT trivial rfl rfl rfl rfl rfl rfl rfl rfl rfl rfl (Nat.le_of_ble_eq_true rfl) rfl ?_
   refine rg_nil (fun _=>by kernel_rfl) ?_
   refine vc_ret ?_
   exact ⟨mkF (vSp (⟨(at_ (o.h ++ o.d) x4).lo,if (at_ (o.h ++ o.d) x4).hi<(IntKind.i64.wrap ((IntKind.i64.wrap ((at_ (o.h ++ o.d) x4).lo + 1)) + x5)) then (at_ (o.h ++ o.d) x4).hi else (IntKind.i64.wrap ((IntKind.i64.wrap ((at_ (o.h ++ o.d) x4).lo + 1)) + x5))⟩:Sp)) [0,2,3] [(1,one ⟨[.slice (some ⟨0,k,none⟩) n 0,.int .i64 (p + 1 + 1 + 1)],101,2⟩)] [],_,endsT [] (.inr rfl) (.cell rfl rfl rfl rfl rfl .nil) rfl rfl ⟨upOne rfl rfl rfl,trivial⟩ trivial rfl,(⟨(at_ (o.h ++ o.d) x4).lo,if (at_ (o.h ++ o.d) x4).hi<(IntKind.i64.wrap ((IntKind.i64.wrap ((at_ (o.h ++ o.d) x4).lo + 1)) + x5)) then (at_ (o.h ++ o.d) x4).hi else (IntKind.i64.wrap ((IntKind.i64.wrap ((at_ (o.h ++ o.d) x4).lo + 1)) + x5))⟩:Sp),_,(by omega),(by omega),rfl⟩
  ·skip
   have p21:=of_decide_eq_false c21
   refine vc_skip ?_
   refine vc_seq ?_
   refine vc_region hm ?_
   refine gM trivial (.inl rfl) rfl rfl rfl ?_
   obtain ⟨E6,hE6,s6,p6,q6a,q6b,rfl⟩:=some_c (k:=k) (t0:=t0) (p:=p + 1) hl hn (by omega) (by omega) 
   refine gCF (ups':=[(1,one ⟨[.slice (some ⟨0,k,none⟩) n 0,.int .i64 (p6)],101,2⟩)]) (as':=[]) (v':=vSp s6) 9 [0,1] hE6 trivial rfl rfl rfl rfl ⟨rCode rfl rfl,rCells rfl ⟨rfl,rfl,.inr rfl⟩ rfl,trivial⟩ ⟨frOne rfl rfl,trivial⟩ trivial rfl rfl (ho1 ⟨_,rfl⟩) (hu1 rfl) rfl rfl ?_
   refine gT trivial rfl rfl rfl rfl rfl rfl rfl rfl rfl rfl (Nat.le_of_ble_eq_true rfl) rfl ?_
   refine rg_nil nofun ?_
   refine vc_ret ?_
   exact ⟨mkF (vSp s6) [0,2,3] [(1,one ⟨[.slice (some ⟨0,k,none⟩) n 0,.int .i64 (p6)],101,2⟩)] [],_,endsT [] (.inr rfl) (.cell rfl rfl rfl rfl rfl .nil) rfl rfl ⟨upOne rfl rfl rfl,trivial⟩ trivial rfl,s6,_,(by omega),(by omega),rfl⟩
 ·skip
  have p17:=of_decide_eq_false c17
  refine gO ⟨_,_,rfl,rfl,c17⟩ rfl rfl ?_
  refine gO ⟨_,_,rfl,rfl,c17⟩ rfl rfl ?_
  refine gO ⟨_,_,rfl,rfl,c17⟩ rfl rfl ?_
  refine gPF trivial rfl rfl c17 rfl rfl rfl ?_
  refine rg_nil nofun ?_
  refine cF rfl rfl ?_
  refine vc_skip ?_
  refine vc_seq ?_
  refine vc_region hm ?_
  refine gM trivial (.inl rfl) rfl rfl rfl ?_
  obtain ⟨E7,hE7,s7,p7,q7a,q7b,rfl⟩:=some_c (k:=k) (t0:=t0) (p:=p) hl hn (by omega) (by omega) 
  refine gCF (ups':=[(1,one ⟨[.slice (some ⟨0,k,none⟩) n 0,.int .i64 (p7)],101,2⟩)]) (as':=[]) (v':=vSp s7) 9 [0,1] hE7 trivial rfl rfl rfl rfl ⟨rCode rfl rfl,rCells rfl ⟨rfl,rfl,.inr rfl⟩ rfl,trivial⟩ ⟨frOne rfl rfl,trivial⟩ trivial rfl rfl (ho1 ⟨_,rfl⟩) (hu1 rfl) rfl rfl ?_
  refine gT trivial rfl rfl rfl rfl rfl rfl rfl rfl rfl rfl (Nat.le_of_ble_eq_true rfl) rfl ?_
  refine rg_nil nofun ?_
  refine vc_ret ?_
  exact ⟨mkF (vSp s7) [0,2,3] [(1,one ⟨[.slice (some ⟨0,k,none⟩) n 0,.int .i64 (p7)],101,2⟩)] [],_,endsT [] (.inr rfl) (.cell rfl rfl rfl rfl rfl .nil) rfl rfl ⟨upOne rfl rfl rfl,trivial⟩ trivial rfl,s7,_,(by omega),(by omega),rfl⟩
theorem asRd {m:Nat→Nat} {u j:Nat} {x:Blk} {h:List (Nat × Bool × Fam)} (hl:h.lookup j=some (true,one (x.rn m))) (hk:x.cs.all (ok1 u)=true):h.lookup j=some (true,rnF m (one x))∧∀ k y,one x k=some y→DetB (lt u) y:=⟨by rw [rnF_one];exact hl,fun k y e=>det_ok (t:=x.t) (e:=x.e) hk e⟩
theorem open_c {l:List Int} {k:Nat} (hl:ByL l):∃ E,FDoes Try.prog 73 [.slice (some ⟨0,k,none⟩) l.length 0] (hp [(0,false,one ⟨hls k (rY l),capT + l.length,0⟩)]) E∧∃ n:Nat,n≤l.length∧E=mkF (.pointer (some ⟨1,0,none⟩)) [0] [] [(1,one ⟨[.slice (some ⟨0,k,none⟩) n 0,.int .i64 (0)],101,2⟩)]:=by
 have hm:Try.prog.follows .mixedOrders=true:=by kernel_rfl
 have hd_:∀ x_ ∈ ([(0,false,one ⟨hls k (rY l),capT + l.length,0⟩)]:List (Nat × Bool × Fam)),∀ k_ y_,x_.2.2 k_=some y_→DetB (lt 1) y_:=by
  intro x_ hx k_ y_ e
  simp only [List.mem_cons,List.not_mem_nil,or_false] at hx
  subst hx
  exact det_code e
 refine fn_some (u0:=1) Try.func73 rfl rfl (gets rfl rfl rfl hd_ rfl) ?_
 clear hd_
 refine vc_seq ?_
 refine vc_region hm ?_
 refine gM trivial (.inr rfl) rfl rfl rfl ?_
 refine rg_nil nofun ?_
 refine vc_seq ?_
 refine vc_seq ?_
 refine vc_region hm ?_
 refine gM trivial (.inl rfl) rfl rfl rfl ?_
 refine gK trivial rfl rfl rfl rfl rfl rfl (hls_nil fun e=>(by have:=rY_nil e;omega)) ?_
 refine gI trivial rfl rfl rfl rfl rfl rfl ?_
 refine rg_nil nofun ?_
 refine cI rfl (fun c5=>?_) (fun c5=>?_)
 ·skip
  have p5:=of_decide_eq_true c5
  refine vc_region hm ?_
  refine gM trivial (.inl rfl) rfl rfl rfl ?_
  refine gHead (m:=2000) trivial rfl rfl rfl rfl rfl rfl rfl rfl (hls_ne (rY_ne (by omega))) (by omega) ?_
  refine gM trivial (.inr rfl) rfl rfl rfl ?_
  refine rg_nil nofun ?_
  refine vc_seq ?_
  refine vc_region hm ?_
  refine gM trivial (.inl rfl) rfl rfl rfl ?_
  refine gU trivial rfl rfl rfl rfl rfl rfl rfl rfl ?_
  refine gB (u':=2) trivial rfl rfl rfl rfl rfl rfl rfl rfl ?_
  refine gM trivial (.inr rfl) rfl rfl rfl ?_
  refine rg_nil nofun ?_
  refine vc_ret ?_
  exact ⟨mkF (.pointer (some ⟨1,0,none⟩)) [0] [] [(1,one ⟨[.slice (some ⟨0,k,none⟩) 2000 0,.int .i64 0],101,2⟩)],_,endsT [(1,1,one ⟨[.slice (some ⟨0,k,none⟩) 2000 0,.int .i64 0],101,2⟩)] (.inr rfl) (.tmp rfl rfl .nil) rfl rfl trivial ⟨asRd rfl rfl,trivial⟩ rfl,2000,(by omega),rfl⟩
 ·skip
  have p5:=of_decide_eq_false c5
  refine vc_skip ?_
  refine vc_seq ?_
  refine vc_region hm ?_
  refine gM trivial (.inl rfl) rfl rfl rfl ?_
  refine gU trivial rfl rfl rfl rfl rfl rfl rfl rfl ?_
  refine gB (u':=2) trivial rfl rfl rfl rfl rfl rfl rfl rfl ?_
  refine gM trivial (.inr rfl) rfl rfl rfl ?_
  refine rg_nil nofun ?_
  refine vc_ret ?_
  exact ⟨mkF (.pointer (some ⟨1,0,none⟩)) [0] [] [(1,one ⟨[.slice (some ⟨0,k,none⟩) l.length 0,.int .i64 0],101,2⟩)],_,endsT [(1,1,one ⟨[.slice (some ⟨0,k,none⟩) l.length 0,.int .i64 0],101,2⟩)] (.inr rfl) (.tmp rfl rfl .nil) rfl rfl trivial ⟨asRd rfl rfl,trivial⟩ rfl,l.length,(by omega),rfl⟩
theorem both_c {l:List Int} {k:Nat} (hl:ByL l):∃ E,FDoes Try.prog 78 [.slice (some ⟨0,k,none⟩) l.length 0] (hp [(0,false,one ⟨hls k (rY l),capT + l.length,0⟩)]) E∧∃ (x:Ow) (s:Sp),x.t.size≤2000∧x.h.length≤2000∧x.d.length≤2000∧E=mkF (.tuple #[.agg #[.string x.t,.slice (some ⟨1,0,none⟩) x.h.length 0,.slice (some ⟨2,0,none⟩) x.d.length 0],vSp s]) [0] [] [(1,one ⟨rSp x.h,38,2⟩),(2,one ⟨rSp x.d,38,2⟩)]:=by
 have hm:Try.prog.follows .mixedOrders=true:=by kernel_rfl
 have hd_:∀ x_ ∈ ([(0,false,one ⟨hls k (rY l),capT + l.length,0⟩)]:List (Nat × Bool × Fam)),∀ k_ y_,x_.2.2 k_=some y_→DetB (lt 1) y_:=by
  intro x_ hx k_ y_ e
  simp only [List.mem_cons,List.not_mem_nil,or_false] at hx
  subst hx
  exact det_code e
 refine fn_some (u0:=1) Try.func78 rfl rfl (gets rfl rfl rfl hd_ rfl) ?_
 clear hd_
 refine vc_seq ?_
 refine vc_region hm ?_
 refine gZ (u':=2) trivial rfl rfl rfl rfl rfl rfl rfl rfl ?_
 refine gZ (u':=3) trivial rfl rfl rfl rfl rfl rfl rfl rfl ?_
 refine rg_nil nofun ?_
 refine vc_seq ?_
 refine vc_region hm ?_
 refine gM trivial (.inl rfl) rfl rfl rfl ?_
 obtain ⟨En1,hEn1,n,hn,rfl⟩:=open_c (l:=l) (k:=k) hl
 have hp0:(0:Int)≤0:=Int.le_refl _
 refine gCF (ups':=[]) (as':=[(3,one ⟨[.slice (some ⟨0,k,none⟩) n 0,.int .i64 (0)],101,2⟩)]) (v':=.pointer (some ⟨3,0,none⟩)) 4 [0,3] hEn1 trivial rfl rfl rfl rfl ⟨rCode rfl rfl,trivial⟩ trivial ⟨frOne rfl rfl,trivial⟩ rfl rfl (fun x hx=>nomatch hx) (fun x hx=>nomatch hx) rfl rfl ?_
 refine gM trivial (.inr rfl) rfl rfl rfl ?_
 refine rg_nil nofun ?_
 refine vc_seq ?_
 refine vc_region hm ?_
 refine gM trivial (.inl rfl) rfl rfl rfl ?_
 refine gM trivial (.inl rfl) rfl rfl rfl ?_
 obtain ⟨E2,hE2,o2,p2,k2,q2a,q2b,rfl⟩:=l6Some_c (k:=k) (t0:=capT + l.length) (p:=0) hl hn (by omega) (by omega) 
 refine gCF (ups':=[(3,one ⟨[.slice (some ⟨0,k,none⟩) n 0,.int .i64 (p2)],101,2⟩)]) (as':=[(4,one ⟨rSp o2.h,38,77⟩),(5,one ⟨rSp o2.d,38,77⟩)]) (v':=.agg #[.string o2.t,.slice (some ⟨4,0,none⟩) o2.h.length 0,.slice (some ⟨5,0,none⟩) o2.d.length 0]) 6 [0,3,4,5] hE2 trivial rfl rfl rfl rfl ⟨rCode rfl rfl,rCells rfl ⟨rfl,rfl,.inr rfl⟩ rfl,trivial⟩ ⟨frOne rfl rfl,trivial⟩ ⟨frFlat (rSp_flat _) rfl,frFlat (rSp_flat _) rfl,trivial⟩ rfl rfl (ho1 ⟨_,rfl⟩) (hu1 rfl) rfl rfl ?_
 obtain ⟨E3,hE3,o3,p3,z3a,z3b,z3c,q3a,q3b,rfl⟩:=bentO_c (k:=k) (t0:=capT + l.length) (p:=p2) hl hn (by omega) (by omega) (o:=o2) (by have:=own_le k2;omega) (by have:=own_le k2;omega) (by have:=own_le k2;omega)
 refine gCF (ups':=[(3,one ⟨[.slice (some ⟨0,k,none⟩) n 0,.int .i64 (p3)],101,2⟩)]) (as':=[(6,one ⟨rSp o3.h,38,2⟩),(7,one ⟨rSp o3.d,38,2⟩)]) (v':=.agg #[.string o3.t,.slice (some ⟨6,0,none⟩) o3.h.length 0,.slice (some ⟨7,0,none⟩) o3.d.length 0]) 8 [0,3,4,5,6,7] hE3 trivial rfl rfl rfl rfl ⟨rCode rfl rfl,rCells rfl ⟨rfl,rfl,.inr rfl⟩ rfl,rFlat (rSp_flat _) rfl (.inl rfl) rfl,rFlat (rSp_flat _) rfl (.inl rfl) rfl,trivial⟩ ⟨frOne rfl rfl,trivial⟩ ⟨frFlat (rSp_flat _) rfl,frFlat (rSp_flat _) rfl,trivial⟩ rfl rfl (ho1 ⟨_,rfl⟩) (hu1 rfl) rfl rfl ?_
 refine gZ (u':=9) trivial rfl rfl rfl rfl rfl rfl rfl rfl ?_
 refine gT trivial rfl rfl rfl rfl rfl rfl rfl rfl rfl rfl (Nat.le_of_ble_eq_true rfl) rfl ?_
 refine rg_nil nofun ?_
 refine vc_seq ?_
 refine vc_region hm ?_
 refine gL trivial rfl rfl rfl rfl rfl rfl rfl rfl ?_
 refine gM trivial (.inl rfl) rfl rfl rfl ?_
 refine gL trivial rfl rfl rfl rfl rfl rfl rfl rfl ?_
 obtain ⟨E4,hE4,s4,p4,q4a,q4b,rfl⟩:=near_c (k:=k) (t0:=capT + l.length) (p:=p3) hl hn (by omega) (by omega) (o:=o3) (by have:=own_le k2;have:=z3a;have:=z3b;have:=z3c;omega) (by have:=own_le k2;have:=z3a;have:=z3b;have:=z3c;omega) (by have:=own_le k2;have:=z3a;have:=z3b;have:=z3c;omega)
 refine gCF (ups':=[(3,one ⟨[.slice (some ⟨0,k,none⟩) n 0,.int .i64 (p4)],101,2⟩)]) (as':=[]) (v':=vSp s4) 9 [0,3,6,7] hE4 trivial rfl rfl rfl rfl ⟨rCode rfl rfl,rCells rfl ⟨rfl,rfl,.inr rfl⟩ rfl,rFlat (rSp_flat _) rfl (.inl rfl) rfl,rFlat (rSp_flat _) rfl (.inl rfl) rfl,trivial⟩ ⟨frOne rfl rfl,trivial⟩ trivial rfl rfl (ho1 ⟨_,rfl⟩) (hu1 rfl) rfl rfl ?_
 refine gT trivial rfl rfl rfl rfl rfl rfl rfl rfl rfl rfl (Nat.le_of_ble_eq_true rfl) rfl ?_
 refine gT trivial rfl rfl rfl rfl rfl rfl rfl rfl rfl rfl (Nat.le_of_ble_eq_true rfl) rfl ?_
 refine rg_nil (fun _=>by kernel_rfl) ?_
 refine vc_ret ?_
 exact ⟨mkF (.tuple #[.agg #[.string o3.t,.slice (some ⟨1,0,none⟩) o3.h.length 0,.slice (some ⟨2,0,none⟩) o3.d.length 0],vSp s4]) [0] [] [(1,one ⟨rSp o3.h,38,2⟩),(2,one ⟨rSp o3.d,38,2⟩)],_,endsT [(1,6,one ⟨rSp o3.h,38,2⟩),(2,7,one ⟨rSp o3.d,38,2⟩)] (.inr rfl) (.cell rfl rfl rfl rfl rfl (.cell rfl rfl rfl rfl rfl .nil)) rfl rfl trivial ⟨asFlat rfl (rSp_flat _),asFlat rfl (rSp_flat _),trivial⟩ rfl,o3,s4,(by have:=own_le k2;have:=z3a;have:=z3b;have:=z3c;omega),(by have:=own_le k2;have:=z3a;have:=z3b;have:=z3c;omega),(by have:=own_le k2;have:=z3a;have:=z3b;have:=z3c;omega),rfl⟩
theorem drawRead_c {l:List Int} {k:Nat} (hl:ByL l):∃ E,FDoes Try.prog 37 [.slice (some ⟨0,k,none⟩) l.length 0] (hp [(0,false,one ⟨hls k (rY l),capT + l.length,0⟩)]) E∧∃ (x:Ow) (s:Sp),x.t.size≤2000∧x.h.length≤2000∧x.d.length≤2000∧E=mkF (.tuple #[.agg #[.string x.t,.slice (some ⟨1,0,none⟩) x.h.length 0,.slice (some ⟨2,0,none⟩) x.d.length 0],vSp s]) [0] [] [(1,one ⟨rSp x.h,38,2⟩),(2,one ⟨rSp x.d,38,2⟩)]:=by
 have hm:Try.prog.follows .mixedOrders=true:=by kernel_rfl
 have hd_:∀ x_ ∈ ([(0,false,one ⟨hls k (rY l),capT + l.length,0⟩)]:List (Nat × Bool × Fam)),∀ k_ y_,x_.2.2 k_=some y_→DetB (lt 1) y_:=by
  intro x_ hx k_ y_ e
  simp only [List.mem_cons,List.not_mem_nil,or_false] at hx
  subst hx
  exact det_code e
 refine fn_some (u0:=1) Try.func37 rfl rfl (gets rfl rfl rfl hd_ rfl) ?_
 clear hd_
 refine vc_seq ?_
 refine vc_region hm ?_
 refine gZ (u':=2) trivial rfl rfl rfl rfl rfl rfl rfl rfl ?_
 refine gZ (u':=3) trivial rfl rfl rfl rfl rfl rfl rfl rfl ?_
 refine rg_nil nofun ?_
 refine vc_seq ?_
 refine vc_region hm ?_
 refine gM trivial (.inl rfl) rfl rfl rfl ?_
 obtain ⟨E1,hE1,x,sp,x1,x2,x3,rfl⟩:=both_c (l:=l) (k:=k) hl
 refine gCF (ups':=[]) (as':=[(3,one ⟨rSp x.h,38,2⟩),(4,one ⟨rSp x.d,38,2⟩)]) (v':=.tuple #[.agg #[.string x.t,.slice (some ⟨3,0,none⟩) x.h.length 0,.slice (some ⟨4,0,none⟩) x.d.length 0],vSp sp]) 5 [0,3,4] hE1 trivial rfl rfl rfl rfl ⟨rCode rfl rfl,trivial⟩ trivial ⟨frFlat (rSp_flat _) rfl,frFlat (rSp_flat _) rfl,trivial⟩ rfl rfl (fun x hx=>nomatch hx) (fun x hx=>nomatch hx) rfl rfl ?_
 refine gE trivial rfl rfl rfl rfl rfl rfl ?_
 refine gE trivial rfl rfl rfl rfl rfl rfl ?_
 refine gT trivial rfl rfl rfl rfl rfl rfl rfl rfl rfl rfl (Nat.le_of_ble_eq_true rfl) rfl ?_
 refine gT trivial rfl rfl rfl rfl rfl rfl rfl rfl rfl rfl (Nat.le_of_ble_eq_true rfl) rfl ?_
 refine rg_nil nofun ?_
 refine vc_ret ?_
 exact ⟨mkF (.tuple #[.agg #[.string x.t,.slice (some ⟨1,0,none⟩) x.h.length 0,.slice (some ⟨2,0,none⟩) x.d.length 0],vSp sp]) [0] [] [(1,one ⟨rSp x.h,38,2⟩),(2,one ⟨rSp x.d,38,2⟩)],_,endsT [(1,3,one ⟨rSp x.h,38,2⟩),(2,4,one ⟨rSp x.d,38,2⟩)] (.inr rfl) (.cell rfl rfl rfl rfl rfl (.cell rfl rfl rfl rfl rfl .nil)) rfl rfl trivial ⟨asFlat rfl (rSp_flat _),asFlat rfl (rSp_flat _),trivial⟩ rfl,x,sp,x1,x2,x3,rfl⟩
end Go.Proofs.Ythionnhbnfblcaa.A
namespace Go.Proofs.Ythionnhbnfblcaa.A
open Go Go.RowKit
abbrev spOf (i:Int):Sp:=⟨i,i + 1⟩
def knB (x:Ow) (lo:Int) (n:Nat):Bool:=(List.range n).all fun j=>decide ((j:Int)<lo) || readB x (spOf (j:Int))
def allT (x:Ow) (lo:Int):Nat→ByteArray
 | 0=>⟨#[]⟩
 | n + 1=>if (n:Int)<lo then allT x lo n else allT x lo n ++ readT x (spOf (n:Int))
theorem al_pre {x:Ow} {lo:Int}:∀ n:Nat,(n:Int)≤lo→allT x lo n=⟨#[]⟩
 | 0,_=>rfl
 | n + 1,h=>by rw [allT,if_pos (by omega)];exact al_pre n (by omega)
theorem al_0 {x:Ow} {lo:Int} (h:0≤lo):allT x lo lo.toNat=⟨#[]⟩:=al_pre _ (by omega)
theorem kn_0 {x:Ow} {lo:Int}:knB x lo lo.toNat=true:=by
 unfold knB
 rw [List.all_eq_true]
 intro j hj
 have:=List.mem_range.1 hj
 rw [decide_eq_true (by omega)]
 rfl
theorem al_next {x:Ow} {lo i:Int} (h0:0≤i) (h1:lo≤i):allT x lo (i + 1).toNat=allT x lo i.toNat ++ readT x (spOf i):=by
 rw [show (i + 1).toNat=i.toNat + 1 by omega,allT,if_neg (by omega),show ((i.toNat:Nat):Int)=i by omega]
theorem kn_next {x:Ow} {lo i:Int} (h0:0≤i) (h1:lo≤i):knB x lo (i + 1).toNat=(knB x lo i.toNat && readB x (spOf i)):=by
 unfold knB
 rw [show (i + 1).toNat=i.toNat + 1 by omega,List.range_succ,List.all_append]
 simp [show max i 0=i by omega,show decide (i<lo)=false from decide_eq_false (by omega)]
theorem kn_T {x:Ow} {lo i:Int} (h0:0≤i) (h1:lo≤i) (h:knB x lo i.toNat=true):knB x lo (i + 1).toNat=readB x (spOf i):=by rw [kn_next h0 h1,h,Bool.true_and]
theorem kn_F {x:Ow} {lo i:Int} (h0:0≤i) (h1:lo≤i) (h:knB x lo i.toNat=false):knB x lo (i + 1).toNat=false:=by rw [kn_next h0 h1,h];rfl
theorem rd1_size {x:Ow} {i:Int} (h:0≤i):(readT x (spOf i)).size≤1:=by
 unfold readT
 split
 ·rw [ByteArray.size_extract]
  show min (i + 1).toNat _ - i.toNat≤1
  omega
 ·exact Nat.zero_le _
theorem al_size {x:Ow} {lo:Int}:∀ n:Nat,(allT x lo n).size≤n
 | 0=>Nat.le_refl _
 | n + 1=>by
  have:=al_size (x:=x) (lo:=lo) n
  rw [allT]
  split
  ·omega
  ·rw [ByteArray.size_append]
   have:=rd1_size (x:=x) (i:=(n:Int)) (by omega)
   omega
theorem rd_pt {x:Ow} {j:Nat} (hx:ownOk x=true) (h:j<48):readB x (spOf (j:Int))=l1In x.h (j:Int):=by
 have hs:spanOk (spOf (j:Int))=true:=by unfold spanOk;exact decide_eq_true ⟨by show (0:Int)≤(j:Int);omega,by show (j:Int)<(j:Int) + 1;omega,by show (j:Int) + 1≤48;omega⟩
 unfold readB
 rw [hx,hs,Bool.true_and,Bool.true_and]
 unfold l1Has
 cases q:l1In x.h (j:Int) with
 | true =>
  rw [List.all_eq_true]
  intro i hi
  by_cases e:i=j
  ·subst e;rw [q,Bool.or_true]
  ·rw [inSp_no (by show ¬ ((j:Int)≤(i:Int)∧(i:Int)<(j:Int) + 1);omega)];rfl
 | false =>
  refine List.all_eq_false.2 ⟨j,List.mem_range.2 h,?_⟩
  rw [inSp_of (show (j:Int)≤(j:Int) by omega) (show (j:Int)<(j:Int) + 1 by omega),q]
  decide
theorem kn_end {x:Ow} {s:Sp} (hx:ownOk x=true) (hs:spanOk s=true):(readB x s == knB x s.lo s.hi.toNat)=true:=by
 have h0:=spanOk_in hs
 have key:readB x s=knB x s.lo s.hi.toNat:=by
  unfold readB
  rw [hx,hs,Bool.true_and,Bool.true_and]
  rw [Bool.eq_iff_iff]
  unfold l1Has knB
  rw [List.all_eq_true,List.all_eq_true]
  constructor
  ·intro h j hj
   have hj:=List.mem_range.1 hj
   by_cases e:(j:Int)<s.lo
   ·rw [decide_eq_true e];rfl
   ·have:=h j (List.mem_range.2 (by omega))
    rw [inSp_of (by omega) (by omega)] at this
    rw [rd_pt hx (by omega)]
    simp at this
    rw [this,Bool.or_true]
  ·intro h j hj
   have hj:=List.mem_range.1 hj
   by_cases e:s.lo≤(j:Int)∧(j:Int)<s.hi
   ·have:=h j (List.mem_range.2 (by omega))
    rw [decide_eq_false (by omega),rd_pt hx hj] at this
    simp at this
    rw [this,Bool.or_true]
   ·rw [inSp_no e];rfl
 rw [key]
 exact beq_self_eq_true _
theorem rdE {x:Ow} {s:Sp} (h:readB x s=false):true=((readT x s).toList == (⟨#[]⟩:ByteArray).toList):=by
 unfold readT
 rw [if_neg (by rw [h];decide)]
 simp
theorem ext_app (t:ByteArray) {a b c:Nat} (h1:a≤b) (h2:b≤c):t.extract a b ++ t.extract b c=t.extract a c:=by
 apply ByteArray.ext
 simp only [ByteArray.data_append,ByteArray.data_extract]
 rw [Array.extract_append_extract,Nat.min_eq_left h1,Nat.max_eq_right h2]
theorem al_run {x:Ow} {s:Sp} (hs:spanOk s=true) (h:∀ j:Nat,s.lo≤(j:Int)→(j:Int)<s.hi→readB x (spOf (j:Int))=true):∀ n:Nat,s.lo≤(n:Int)→(n:Int)≤s.hi→allT x s.lo n=x.t.extract s.lo.toNat n
 | 0,h1,h2=>by
  have h0:=spanOk_in hs
  rw [allT,show s.lo.toNat=0 by omega]
  simp
  rfl
 | n + 1,h1,h2=>by
  have h0:=spanOk_in hs
  rw [allT]
  by_cases e:(n:Int)<s.lo
  ·rw [if_pos e,al_pre n (by omega),show s.lo.toNat=n + 1 by omega]
   simp
   rfl
  ·rw [if_neg e,al_run hs h n (by omega) (by omega)]
   unfold readT
   rw [if_pos (h n (by omega) (by omega))]
   show _ ++ x.t.extract (n:Int).toNat ((n:Int) + 1).toNat=_
   rw [show (n:Int).toNat=n by omega,show ((n:Int) + 1).toNat=n + 1 by omega]
   exact ext_app _ (by omega) (by omega)
theorem al_end {x:Ow} {s:Sp} (hx:ownOk x=true) (hs:spanOk s=true) (h:readB x s=true):true=((readT x s).toList == (allT x s.lo s.hi.toNat).toList):=by
 have h0:=spanOk_in hs
 have k:=beq_iff_eq.1 (kn_end hx hs)
 rw [h] at k
 have hj:∀ j:Nat,s.lo≤(j:Int)→(j:Int)<s.hi→readB x (spOf (j:Int))=true:=fun j a b=>by
  have k:=k.symm
  unfold knB at k
  rw [List.all_eq_true] at k
  have:=k j (List.mem_range.2 (by omega))
  rw [decide_eq_false (by omega),Bool.false_or] at this
  exact this
 rw [al_run hs hj s.hi.toNat (by omega) (by omega)]
 unfold readT
 rw [if_pos h]
 simp
end Go.Proofs.Ythionnhbnfblcaa.A
namespace Go.Proofs.Ythionnhbnfblcaa.A
open Go Go.RowKit
set_option maxHeartbeats 4000000
theorem wpAt_c (i:Int) (h0:0≤i) (h1:i≤48):FDoes Try.prog 39 [.int .i64 i] (hp []) { v:=vSp (spOf i) }:=by
 have hm:Try.prog.follows .mixedOrders=true:=by kernel_rfl
 have hd_:∀ x ∈ ([]:List (Nat × Bool × Fam)),∀ k y,x.2.2 k=some y→DetB (lt 0) y:=fun x_ hx=>(by cases hx)
 refine fn_exact (u0:=0) Try.func39 rfl rfl (gets rfl rfl rfl hd_ rfl) ?_
 clear hd_
 refine vc_seq ?_
 refine vc_region hm ?_
 refine gZ (u':=1) trivial rfl rfl rfl rfl rfl rfl rfl rfl ?_
 refine rg_nil nofun ?_
 refine vc_seq ?_
 refine vc_region hm ?_
 refine gM trivial (.inl rfl) rfl rfl rfl ?_
 refine gM trivial (.inl rfl) rfl rfl rfl ?_
 refine gA trivial rfl rfl rfl rfl rfl rfl (by omega) ?_
 refine gU trivial rfl rfl rfl rfl rfl rfl rfl rfl ?_
 refine gT trivial rfl rfl rfl rfl rfl rfl rfl rfl rfl rfl (Nat.le_of_ble_eq_true rfl) rfl ?_
 refine rg_nil nofun ?_
 refine vc_ret ?_
 exact ⟨idm,endsF (.inr rfl) (.cell rfl rfl rfl rfl rfl .nil) rfl rfl rfl⟩
theorem spec_OwnRead_c {o:Ow} {s:Sp} (ht:o.t.size≤1048576) (hh:o.h.length≤1048576) (hd:o.d.length≤1048576):FDoes Try.prog 20 [.agg #[.string o.t,.slice (some ⟨0,0,none⟩) o.h.length 0,.slice (some ⟨1,0,none⟩) o.d.length 0],vSp s] (hp [(0,false,one ⟨rSp o.h,38,0⟩),(1,false,one ⟨rSp o.d,38,0⟩)]) { v:=.tuple #[.string (readT o s),.bool (readB o s)],rd:=[0,1] }:=by
 have hm:Try.prog.follows .mixedOrders=true:=by kernel_rfl
 have hd_:∀ x_ ∈ ([(0,false,one ⟨rSp o.h,38,0⟩),(1,false,one ⟨rSp o.d,38,0⟩)]:List (Nat × Bool × Fam)),∀ k_ y_,x_.2.2 k_=some y_→DetB (lt 2) y_:=by
  intro x_ hx k_ y_ e
  simp only [List.mem_cons,List.not_mem_nil,or_false] at hx
  rcases hx with rfl|rfl
  ·exact det_row (rSp_flat o.h) e
  ·exact det_row (rSp_flat o.d) e
 refine fn_exact (u0:=2) Try.func20 rfl rfl (gets rfl rfl rfl hd_ rfl) ?_
 clear hd_
 refine vc_seq ?_
 refine vc_region hm ?_
 refine gB (u':=3) trivial rfl rfl rfl rfl rfl rfl rfl rfl ?_
 refine gB (u':=4) trivial rfl rfl rfl rfl rfl rfl rfl rfl ?_
 refine gM trivial (.inr rfl) rfl rfl rfl ?_
 refine gM trivial (.inr rfl) rfl rfl rfl ?_
 refine rg_nil nofun ?_
 refine vc_seq ?_
 refine vc_seq ?_
 refine vc_region hm ?_
 refine gL trivial rfl rfl rfl rfl rfl rfl rfl rfl ?_
 refine gC0 [0,1] (spec_OwnOk_c (o:=o) ht hh hd) trivial rfl rfl rfl rfl ⟨rFlat (rSp_flat o.h) rfl (.inl rfl) rfl,rFlat (rSp_flat o.d) rfl (.inl rfl) rfl,trivial⟩ rfl rfl rfl rfl rfl ?_
 refine gN trivial rfl rfl rfl rfl ?_
 refine gM trivial (.inl rfl) rfl rfl rfl ?_
 refine gI2 (d:=9) rfl (fun c9=>?_) (fun c9=>?_)
 ·skip
  have n9:=unT c9
  refine gO ⟨_,_,rfl,rfl,c9⟩ rfl rfl ?_
  refine gO ⟨_,_,rfl,rfl,c9⟩ rfl rfl ?_
  refine gO ⟨_,_,rfl,rfl,c9⟩ rfl rfl ?_
  refine gPT trivial rfl rfl c9 rfl rfl rfl ?_
  refine gM trivial (.inl rfl) rfl rfl rfl ?_
  refine gO ⟨_,_,rfl,rfl,rfl⟩ rfl rfl ?_
  refine gO ⟨_,_,rfl,rfl,rfl⟩ rfl rfl ?_
  refine gO ⟨_,_,rfl,rfl,rfl⟩ rfl rfl ?_
  refine gO ⟨_,_,rfl,rfl,rfl⟩ rfl rfl ?_
  refine gO ⟨_,_,rfl,rfl,rfl⟩ rfl rfl ?_
  refine gPT trivial rfl rfl rfl rfl rfl rfl ?_
  refine rg_nil nofun ?_
  refine cT rfl rfl ?_
  refine vc_seq ?_
  refine vc_region hm ?_
  refine gM trivial (.inr rfl) rfl rfl rfl ?_
  refine gM trivial (.inr rfl) rfl rfl rfl ?_
  refine rg_nil nofun ?_
  refine vc_ret ?_
  exact ⟨idm,endsF (.inr rfl) (.tmp rfl rfl (.tmp rfl rfl .nil)) (readT_F (by first|exact readB_1 (by assumption)|exact readB_2 (by assumption)|exact readB_3 (by assumption)|exact readB_6 (by assumption) (by assumption))) rfl rfl⟩
 ·skip
  have n9:=unF c9
  refine gL ⟨_,_,rfl,rfl,c9⟩ rfl rfl rfl rfl rfl rfl rfl rfl ?_
  refine gC0 [] (spec_SpanOk_c s) ⟨_,_,rfl,rfl,c9⟩ rfl rfl rfl rfl (by trivial) rfl rfl rfl rfl rfl ?_
  refine gN ⟨_,_,rfl,rfl,c9⟩ rfl rfl rfl rfl ?_
  refine gPF trivial rfl rfl c9 rfl rfl rfl ?_
  refine gM trivial (.inl rfl) rfl rfl rfl ?_
  refine gI2 (d:=14) rfl (fun c14=>?_) (fun c14=>?_)
  ·skip
   have n14:=unT c14
   refine gO ⟨_,_,rfl,rfl,c14⟩ rfl rfl ?_
   refine gO ⟨_,_,rfl,rfl,c14⟩ rfl rfl ?_
   refine gO ⟨_,_,rfl,rfl,c14⟩ rfl rfl ?_
   refine gO ⟨_,_,rfl,rfl,c14⟩ rfl rfl ?_
   refine gO ⟨_,_,rfl,rfl,c14⟩ rfl rfl ?_
   refine gPT trivial rfl rfl c14 rfl rfl rfl ?_
   refine rg_nil nofun ?_
   refine cT rfl rfl ?_
   refine vc_seq ?_
   refine vc_region hm ?_
   refine gM trivial (.inr rfl) rfl rfl rfl ?_
   refine gM trivial (.inr rfl) rfl rfl rfl ?_
   refine rg_nil nofun ?_
   refine vc_ret ?_
   exact ⟨idm,endsF (.inr rfl) (.tmp rfl rfl (.tmp rfl rfl .nil)) (readT_F (by first|exact readB_1 (by assumption)|exact readB_2 (by assumption)|exact readB_3 (by assumption)|exact readB_6 (by assumption) (by assumption))) rfl rfl⟩
  ·skip
   have n14:=unF c14
   refine gF ⟨_,_,rfl,rfl,c14⟩ rfl rfl rfl rfl rfl ?_
   refine gL ⟨_,_,rfl,rfl,c14⟩ rfl rfl rfl rfl rfl rfl rfl rfl ?_
   refine gL ⟨_,_,rfl,rfl,c14⟩ rfl rfl rfl rfl rfl rfl rfl rfl ?_
   refine gC0 [0] (spec_l1Has_c (l:=o.h) (s:=s) hh (spanOk_in (by assumption))) ⟨_,_,rfl,rfl,c14⟩ rfl rfl rfl rfl ⟨rFlat (rSp_flat o.h) rfl (.inl rfl) rfl,trivial⟩ rfl rfl rfl rfl rfl ?_
   refine gN ⟨_,_,rfl,rfl,c14⟩ rfl rfl rfl rfl ?_
   refine gPF trivial rfl rfl c14 rfl rfl rfl ?_
   refine rg_nil nofun ?_
   refine cI rfl (fun c20=>?_) (fun c20=>?_)
   ·skip
    have n20:=unT c20
    refine vc_seq ?_
    refine vc_region hm ?_
    refine gM trivial (.inr rfl) rfl rfl rfl ?_
    refine gM trivial (.inr rfl) rfl rfl rfl ?_
    refine rg_nil nofun ?_
    refine vc_ret ?_
    exact ⟨idm,endsF (.inr rfl) (.tmp rfl rfl (.tmp rfl rfl .nil)) (readT_F (by first|exact readB_1 (by assumption)|exact readB_2 (by assumption)|exact readB_3 (by assumption)|exact readB_6 (by assumption) (by assumption))) rfl rfl⟩
   ·skip
    have n20:=unF c20
    refine vc_skip ?_
    refine vc_seq ?_
    refine vc_region hm ?_
    refine gF trivial rfl rfl rfl rfl rfl ?_
    refine gL trivial rfl rfl rfl rfl rfl rfl rfl rfl ?_
    refine gF trivial rfl rfl rfl rfl rfl ?_
    refine gL trivial rfl rfl rfl rfl rfl rfl rfl rfl ?_
    refine gF trivial rfl rfl rfl rfl rfl ?_
    refine gL trivial rfl rfl rfl rfl rfl rfl rfl rfl ?_
    refine gSx trivial rfl rfl rfl rfl rfl rfl rfl (by have:=spanOk_in (s:=s) (by first|assumption|exact have_ok (by assumption));have:=ownOk_size (o:=o) (by assumption);omega) (by have:=spanOk_in (s:=s) (by first|assumption|exact have_ok (by assumption));have:=ownOk_size (o:=o) (by assumption);omega) (by have:=spanOk_in (s:=s) (by first|assumption|exact have_ok (by assumption));have:=ownOk_size (o:=o) (by assumption);omega) ?_
    refine gM trivial (.inr rfl) rfl rfl rfl ?_
    refine gM trivial (.inr rfl) rfl rfl rfl ?_
    refine rg_nil nofun ?_
    refine vc_ret ?_
    exact ⟨idm,endsF (.inr rfl) (.tmp rfl rfl (.tmp rfl rfl .nil)) (readT_T (by first|exact readB_4 (by assumption) (by assumption) (by assumption)|exact readB_7 (by assumption) (by assumption))) rfl rfl⟩
theorem impl_OwnRead_c {o:Ow} {s:Sp} (ht:o.t.size≤1048576) (hh:o.h.length≤1048576) (hd:o.d.length≤1048576):FDoes Try.prog 22 [.agg #[.string o.t,.slice (some ⟨0,0,none⟩) o.h.length 0,.slice (some ⟨1,0,none⟩) o.d.length 0],vSp s] (hp [(0,false,one ⟨rSp o.h,38,0⟩),(1,false,one ⟨rSp o.d,38,0⟩)]) { v:=.tuple #[.string (readT o s),.bool (readB o s)],rd:=[0,1] }:=by
 have hm:Try.prog.follows .mixedOrders=true:=by kernel_rfl
 have hd_:∀ x_ ∈ ([(0,false,one ⟨rSp o.h,38,0⟩),(1,false,one ⟨rSp o.d,38,0⟩)]:List (Nat × Bool × Fam)),∀ k_ y_,x_.2.2 k_=some y_→DetB (lt 2) y_:=by
  intro x_ hx k_ y_ e
  simp only [List.mem_cons,List.not_mem_nil,or_false] at hx
  rcases hx with rfl|rfl
  ·exact det_row (rSp_flat o.h) e
  ·exact det_row (rSp_flat o.d) e
 refine fn_exact (u0:=2) Try.func22 rfl rfl (gets rfl rfl rfl hd_ rfl) ?_
 clear hd_
 refine vc_seq ?_
 refine vc_region hm ?_
 refine gB (u':=3) trivial rfl rfl rfl rfl rfl rfl rfl rfl ?_
 refine gB (u':=4) trivial rfl rfl rfl rfl rfl rfl rfl rfl ?_
 refine gM trivial (.inr rfl) rfl rfl rfl ?_
 refine gM trivial (.inr rfl) rfl rfl rfl ?_
 refine rg_nil nofun ?_
 refine vc_seq ?_
 refine vc_seq ?_
 refine vc_region hm ?_
 refine gL trivial rfl rfl rfl rfl rfl rfl rfl rfl ?_
 refine gC0 [0,1] (impl_OwnOk_c (o:=o) ht hh hd) trivial rfl rfl rfl rfl ⟨rFlat (rSp_flat o.h) rfl (.inl rfl) rfl,rFlat (rSp_flat o.d) rfl (.inl rfl) rfl,trivial⟩ rfl rfl rfl rfl rfl ?_
 refine gN trivial rfl rfl rfl rfl ?_
 refine gM trivial (.inl rfl) rfl rfl rfl ?_
 refine gI2 (d:=9) rfl (fun c9=>?_) (fun c9=>?_)
 ·skip
  have n9:=unT c9
  refine gO ⟨_,_,rfl,rfl,c9⟩ rfl rfl ?_
  refine gO ⟨_,_,rfl,rfl,c9⟩ rfl rfl ?_
  refine gO ⟨_,_,rfl,rfl,c9⟩ rfl rfl ?_
  refine gO ⟨_,_,rfl,rfl,c9⟩ rfl rfl ?_
  refine gO ⟨_,_,rfl,rfl,c9⟩ rfl rfl ?_
  refine gPT trivial rfl rfl c9 rfl rfl rfl ?_
  refine rg_nil nofun ?_
  refine cT rfl rfl ?_
  refine vc_seq ?_
  refine vc_region hm ?_
  refine gM trivial (.inr rfl) rfl rfl rfl ?_
  refine gM trivial (.inr rfl) rfl rfl rfl ?_
  refine rg_nil nofun ?_
  refine vc_ret ?_
  exact ⟨idm,endsF (.inr rfl) (.tmp rfl rfl (.tmp rfl rfl .nil)) (readT_F (by first|exact readB_1 (by assumption)|exact readB_2 (by assumption)|exact readB_3 (by assumption)|exact readB_6 (by assumption) (by assumption))) rfl rfl⟩
 ·skip
  have n9:=unF c9
  refine gF ⟨_,_,rfl,rfl,c9⟩ rfl rfl rfl rfl rfl ?_
  refine gL ⟨_,_,rfl,rfl,c9⟩ rfl rfl rfl rfl rfl rfl rfl rfl ?_
  refine gL ⟨_,_,rfl,rfl,c9⟩ rfl rfl rfl rfl rfl rfl rfl rfl ?_
  refine gC0 [0] (impl_SpansHave_c (l:=o.h) (s:=s) hh) ⟨_,_,rfl,rfl,c9⟩ rfl rfl rfl rfl ⟨rFlat (rSp_flat o.h) rfl (.inl rfl) rfl,trivial⟩ rfl rfl rfl rfl rfl ?_
  refine gN ⟨_,_,rfl,rfl,c9⟩ rfl rfl rfl rfl ?_
  refine gPF trivial rfl rfl c9 rfl rfl rfl ?_
  refine rg_nil nofun ?_
  refine cI rfl (fun c15=>?_) (fun c15=>?_)
  ·skip
   have n15:=unT c15
   refine vc_seq ?_
   refine vc_region hm ?_
   refine gM trivial (.inr rfl) rfl rfl rfl ?_
   refine gM trivial (.inr rfl) rfl rfl rfl ?_
   refine rg_nil nofun ?_
   refine vc_ret ?_
   exact ⟨idm,endsF (.inr rfl) (.tmp rfl rfl (.tmp rfl rfl .nil)) (readT_F (by first|exact readB_1 (by assumption)|exact readB_2 (by assumption)|exact readB_3 (by assumption)|exact readB_6 (by assumption) (by assumption))) rfl rfl⟩
  ·skip
   have n15:=unF c15
   refine vc_skip ?_
   refine vc_seq ?_
   refine vc_region hm ?_
   refine gF trivial rfl rfl rfl rfl rfl ?_
   refine gL trivial rfl rfl rfl rfl rfl rfl rfl rfl ?_
   refine gF trivial rfl rfl rfl rfl rfl ?_
   refine gL trivial rfl rfl rfl rfl rfl rfl rfl rfl ?_
   refine gF trivial rfl rfl rfl rfl rfl ?_
   refine gL trivial rfl rfl rfl rfl rfl rfl rfl rfl ?_
   refine gSx trivial rfl rfl rfl rfl rfl rfl rfl (by have:=spanOk_in (s:=s) (by first|assumption|exact have_ok (by assumption));have:=ownOk_size (o:=o) (by assumption);omega) (by have:=spanOk_in (s:=s) (by first|assumption|exact have_ok (by assumption));have:=ownOk_size (o:=o) (by assumption);omega) (by have:=spanOk_in (s:=s) (by first|assumption|exact have_ok (by assumption));have:=ownOk_size (o:=o) (by assumption);omega) ?_
   refine gM trivial (.inr rfl) rfl rfl rfl ?_
   refine gM trivial (.inr rfl) rfl rfl rfl ?_
   refine rg_nil nofun ?_
   refine vc_ret ?_
   exact ⟨idm,endsF (.inr rfl) (.tmp rfl rfl (.tmp rfl rfl .nil)) (readT_T (by first|exact readB_4 (by assumption) (by assumption) (by assumption)|exact readB_7 (by assumption) (by assumption))) rfl rfl⟩
end Go.Proofs.Ythionnhbnfblcaa.A
namespace Go.Proofs.Ythionnhbnfblcaa.A
open Go Go.RowKit
open Go.Joins Go.ChangeShapes Go.WideShapes Go.Deep
def RawN (w:World) (v:Value) (N:Nam) (k n:Nat) (cs:List Value):Prop :=
 v=(if N.nil=true then zv N.z else .slice (some ⟨N.blk,k,none⟩) n (N.cap - 0))∧(if N.nil=true then hls k cs = [] else ∃ (c:Array Value) (t:TypeId) (z:Nat × Nat),w.heap[N.blk]?=some (.cells c t z)∧∀ (i:Nat) (x:Value),(hls k cs)[i]?=some x→x ≠ hole→c[i]?=some x)
theorem raw_none {w:World}:RawN w (.slice none 0 0) ⟨0,0,true,none⟩ 0 0 []:=⟨rfl,rfl⟩
theorem raw_of' {α:Type} {enc:α→List Value} {m:Nat} (he:∀ x,(enc x).length=m) (hm:0<m) {w:World} {a:Addr} {cap:Nat} {l:List α} (h:∀ i x,(rowL enc l)[i]?=some x→w.cell? (a.add i)=some x):∃ N k,RawN w (.slice (some a) l.length cap) N k l.length (rowL enc l)∧(N.nil=false→N.cap=cap):=by
 rcases l with _|⟨x,xs⟩
 ·exact ⟨⟨0,0,true,some (a,cap)⟩,0,⟨rfl,rfl⟩,fun q=>(by cases q)⟩
 ·have hp0:0<(rowL enc (x :: xs)).length:=by rw [rowL_len he,List.length_cons];exact Nat.mul_pos (Nat.succ_pos _) hm
  have h0:=h 0 _ (List.getElem?_eq_getElem hp0)
  have h1:∃ c t z,w.heap[a.block]?=some (.cells c t z)∧a.spot=none:=by
   have e:a.add 0=a:=by simp [Addr.add]
   unfold World.cell? at h0
   rw [e] at h0
   split at h0
   ·rename_i c t z hh
    refine ⟨c,t,z,hh,?_⟩
    split at h0
    ·cases h0
    ·rename_i hs;simpa using hs
   ·cases h0
  obtain ⟨c,t,z,hh,hs⟩:=h1
  obtain ⟨b,off,sp⟩:=a
  simp only at hs hh
  subst hs
  refine ⟨⟨b,cap,false,none⟩,off,⟨rfl,(if_neg Bool.false_ne_true).mpr ⟨c,t,z,hh,fun i v hv hne=>?_⟩⟩,fun _=>rfl⟩
  unfold hls at hv
  by_cases hi:i<off
  ·rw [List.getElem?_append_left (by simpa using hi)] at hv
   have:=List.mem_of_getElem? hv
   exact absurd (List.eq_of_mem_replicate this) hne
  ·rw [List.getElem?_append_right (by simpa using hi),List.length_replicate] at hv
   have:=h (i - off) v hv
   rw [add_eq,cell_eq hh] at this
   rw [← this]
   congr 1
   omega
def envL (l:List Nam):Env:=fun n=>(l[n % 1000]?).getD ⟨0,0,true,none⟩
theorem raw_atR {w:World} {v:Value} {N:Nam} {k n:Nat} {cs:List Value} {t:TypeId} {l:List Nam} {b:Nat} (h:RawN w v N k n cs) (hf:cs.all flat1=true) (hb:l[b]?=some N) (hb':b<1000) (ht:N.nil=false→t - capT≤N.cap):famAt (envL l) w b (one ⟨hls k cs,t,0⟩):=by
 intro k' x e
 obtain ⟨rfl,rfl⟩:=one_some e
 have e1:envL l (nm b 0)=N:=by unfold envL;rw [nm_mod hb',hb];rfl
 unfold blkAt
 rw [e1]
 have h2:=h.2
 cases hn:N.nil with
 | true=>rw [hn,if_pos rfl] at h2;rw [if_pos rfl];exact ⟨h2,fun q=>absurd rfl q,(by decide:0<100)⟩
 | false =>
  rw [hn,if_neg (by decide)] at h2
  rw [if_neg (by decide),if_pos rfl]
  obtain ⟨c,t',z,h3,h4⟩:=h2
  refine ⟨c,t',z,h3,fun i v hv hne=>?_,ht hn⟩
  rw [r1_flat (List.all_eq_true.1 (hls_flat (k:=k) hf) v (List.mem_of_getElem? hv))]
  exact h4 i v hv hne
theorem raw_r1 {w:World} {v:Value} {N:Nam} {k n:Nat} {cs:List Value} {l:List Nam} {b:Nat} (h:RawN w v N k n cs) (hb:l[b]?=some N) (hb':b<1000):r1 (envL l) (.slice (some ⟨b,k,none⟩) n 0)=v:=by
 show (if (envL l b).nil=true then zv (envL l b).z else .slice (some ⟨(envL l b).blk,k,none⟩) n ((envL l b).cap - 0))=v
 have e1:envL l b=N:=by unfold envL;rw [Nat.mod_eq_of_lt hb',hb];rfl
 rw [e1,h.1]
def AtL (ρ:Env) (w:World):List (Nat × Bool × Fam)→Prop
 | []=>True
 | x :: l=>famAt ρ w x.1 x.2.2∧AtL ρ w l
theorem atL_mem {ρ:Env} {w:World}:∀ {l:List (Nat × Bool × Fam)},AtL ρ w l→∀ b o F,l.lookup b=some (o,F)→famAt ρ w b F
 | x :: l,h,b,o,F,e=>by
  obtain ⟨c,y⟩:=x
  rw [List.lookup_cons] at e
  by_cases hb:b=c
  ·subst hb
   simp at e
   subst e
   exact h.1
  ·have:(b == c)=false:=by simpa using hb
   rw [this] at e
   exact atL_mem h.2 b o F e
theorem law_done {P:Program} {f:FuncId} {args:List Value} {hl:List (Nat × Bool × Fam)} {rd:List Nat} {ρ:Env} {w:World} {vs:Array Value} (h:FDoes P f args (hp hl) { v:=.bool true,rd:=rd }) (ha:(args.map (r3 ρ)).toArray=vs) (hr:AtL ρ w hl) :
  Calls P f vs w fun e w'=>e = .returned (.bool true)∧Below w.heap.size w w':=by
 subst ha
 refine (h.run ρ w ⟨fun b _ o F e=>atL_mem hr b o F e,fun b hb=>(by cases hb)⟩).mono fun e w' ⟨ρ',hB,he⟩=>⟨he,?_⟩
 have hf:=hB.frm
 exact Frm.below ⟨hf.os,hf.tape,hf.output,hf.size,fun k hk hn=>hf.block k hk fun ⟨b,hb,_⟩=>(by cases hb)⟩
section
variable {H:Type} {enc:TypeId × Value→H} {P:Program} {w:World} {base:Nat} {spare:Nat→Bool} {held:Bool}
end
section
variable {H:Type} {enc:TypeId × Value→H} {w:World} {base:Nat} {spare:Nat→Bool} {held:Bool}
end
theorem u8_in {n:Int} (h:(Lit.int .u8 n).wf=true):0≤n∧n≤255:=by
 have e1:IntKind.u8.min=0:=by decide
 have e2:IntKind.u8.max=255:=by decide
 simp only [Lit.wf,e1,e2,Bool.and_eq_true,decide_eq_true_eq] at h
 exact h
def CodeArg (w:World) (v:Value) (l:List Int) (N:Nam) (k:Nat):Prop:=RawN w v N k l.length (rY l)∧(N.nil=false→l.length≤N.cap)∧ByL l∧l.length≤9223372036854775807
theorem code_at {w:World} {v:Value} {l:List Int} {N:Nam} {k:Nat} {ns:List Nam} {b:Nat} (h:CodeArg w v l N k) (hb:ns[b]?=some N) (hb':b<1000):famAt (envL ns) w b (one ⟨hls k (rY l),capT + l.length,0⟩) :=
 raw_atR h.1 (rY_flat l) hb hb' fun hn=>by rw [Nat.add_sub_cancel_left];exact h.2.1 hn
theorem code_r3 {w:World} {v:Value} {l:List Int} {N:Nam} {k:Nat} {ns:List Nam} {b:Nat} (h:CodeArg w v l N k) (hb:ns[b]?=some N) (hb':b<1000):r3 (envL ns) (.slice (some ⟨b,k,none⟩) l.length 0)=v:=raw_r1 h.1 hb hb'
theorem open_bytesA {H:Type} {enc:TypeId × Value→H} {w:World} {base:Nat} {spare:Nat→Bool} {held:Bool} {r:Reach} {b0:Nat} {v:Value} {d:DataW H} {p:List MemPlace} (hv:Value.okWide Try.prog w r b0 50 v) (h:DataW.Trod enc Try.prog w base spare held 50 v d p):∃ l N k,CodeArg w v l N k:=by
 obtain ⟨a1,len,cap,rfl⟩:=okWide_slice Try.underlying50 hv
 obtain ⟨fuel,hf⟩:=h
 rcases open_ints Try.underlying50 Try.underlying5 (by kernel_rfl) hf with ⟨h1,_⟩|⟨a,len',cap',zs,h1,_,hl,hm,hz,_,hcell,hw⟩
 ·simp only [Value.cells,List.cons.injEq,_root_.and_true,Value.slice.injEq] at h1
  obtain ⟨rfl,rfl,rfl⟩:=h1
  exact ⟨[],_,_,raw_none,fun q=>(by cases q),(fun _ hx=>(nomatch hx)),by decide⟩
 ·simp only [Value.cells,List.cons.injEq,_root_.and_true,Value.slice.injEq] at h1
  obtain ⟨rfl,rfl,rfl⟩:=h1
  unfold maxLen at hm
  have hlz:len≤zs.length:=by rw [hz];split <;> omega
  have hn:(zs.take len).length=len:=by rw [List.length_take,Nat.min_eq_left hlz]
  have key:∀ i x,(rY (zs.take len))[i]?=some x→w.cell? (a.add i)=some x:=fun i x hx=>by
   have hi:=(List.getElem?_eq_some_iff.1 hx).1
   rw [rowL_len (n:=1) (fun _=>rfl),hn,Nat.mul_one] at hi
   have e1:x = .int .u8 (zs.getD i 0):=by
    have hg:=rowL_get (enc:=eY) (n:=1) (fun _=>rfl) (zs.take len) i 0 (by rw [hn];exact hi) (by decide)
    rw [Nat.mul_one,Nat.add_zero,hx,List.getElem_take] at hg
    rw [List.getD_eq_getElem?_getD,List.getElem?_eq_getElem (by omega)]
    exact Option.some.inj hg
   rw [e1]
   exact hcell i (by omega)
  obtain ⟨N,k,hr,hc⟩:=raw_of' (enc:=eY) (m:=1) (fun _=>rfl) (by decide) (cap:=cap) key
  refine ⟨zs.take len,N,k,by rw [hn] at hr ⊢;exact hr,fun q=>by rw [hc q,hn];omega,fun x hx=>u8_in (hw x (List.mem_of_mem_take hx)),by rw [hn];omega⟩
end Go.Proofs.Ythionnhbnfblcaa.A
namespace Go.Proofs.Ythionnhbnfblcaa.A
open Go Go.RowKit
set_option maxHeartbeats 4000000
theorem FnOwnRead_c {l:List Int} {k:Nat} (hl:ByL l) (hl9:l.length≤9223372036854775807):FDoes Try.prog 11 [.slice (some ⟨0,k,none⟩) l.length 0] (hp [(0,false,one ⟨hls k (rY l),capT + l.length,0⟩)]) { v:=.bool true,rd:=[0] }:=by
 have hm:Try.prog.follows .mixedOrders=true:=by kernel_rfl
 have hd_:∀ x_ ∈ ([(0,false,one ⟨hls k (rY l),capT + l.length,0⟩)]:List (Nat × Bool × Fam)),∀ k_ y_,x_.2.2 k_=some y_→DetB (lt 1) y_:=by
  intro x_ hx k_ y_ e
  simp only [List.mem_cons,List.not_mem_nil,or_false] at hx
  subst hx
  exact det_code e
 refine fn_exact (u0:=1) Try.func11 rfl rfl (gets rfl rfl rfl hd_ rfl) ?_
 clear hd_
 refine vc_seq ?_
 refine vc_region hm ?_
 refine gM trivial (.inr rfl) rfl rfl rfl ?_
 refine rg_nil nofun ?_
 refine vc_seq ?_
 refine vc_seq ?_
 refine vc_region hm ?_
 refine gM trivial (.inl rfl) rfl rfl rfl ?_
 refine gK trivial rfl rfl rfl rfl rfl rfl (hls_nil fun e=>rY_nil e) ?_
 refine gI trivial rfl rfl rfl rfl rfl rfl ?_
 refine rg_nil nofun ?_
 refine cI rfl (fun c16=>?_) (fun c16=>?_)
 ·skip
  have p16:=of_decide_eq_true c16
  refine vc_seq ?_
  refine vc_region hm ?_
  refine gM trivial (.inr rfl) rfl rfl rfl ?_
  refine rg_nil nofun ?_
  refine vc_ret ?_
  exact ⟨idm,ends0 (.inr rfl) rfl (eqB rfl) rfl rfl rfl⟩
 ·skip
  have p16:=of_decide_eq_false c16
  refine vc_skip ?_
  refine vc_seq ?_
  refine vc_region hm ?_
  refine gM trivial (.inl rfl) rfl rfl rfl ?_
  obtain ⟨E2,hE2,x,sp,x1,x2,x3,rfl⟩:=drawRead_c (l:=l) (k:=k) hl
  refine gCF (ups':=[]) (as':=[(1,one ⟨rSp x.h,38,2⟩),(2,one ⟨rSp x.d,38,2⟩)]) (v':=.tuple #[.agg #[.string x.t,.slice (some ⟨1,0,none⟩) x.h.length 0,.slice (some ⟨2,0,none⟩) x.d.length 0],vSp sp]) 3 [0,1,2] hE2 trivial rfl rfl rfl rfl ⟨rCode rfl rfl,trivial⟩ trivial ⟨frFlat (rSp_flat _) rfl,frFlat (rSp_flat _) rfl,trivial⟩ rfl rfl (fun x hx=>nomatch hx) (fun x hx=>nomatch hx) rfl rfl ?_
  refine gM trivial (.inl rfl) rfl rfl rfl ?_
  refine gE trivial rfl rfl rfl rfl rfl rfl ?_
  refine gE trivial rfl rfl rfl rfl rfl rfl ?_
  refine gZ (u':=4) trivial rfl rfl rfl rfl rfl rfl rfl rfl ?_
  refine gZ (u':=5) trivial rfl rfl rfl rfl rfl rfl rfl rfl ?_
  refine gT trivial rfl rfl rfl rfl rfl rfl rfl rfl rfl rfl (Nat.le_of_ble_eq_true rfl) rfl ?_
  refine gT trivial rfl rfl rfl rfl rfl rfl rfl rfl rfl rfl (Nat.le_of_ble_eq_true rfl) rfl ?_
  refine rg_nil nofun ?_
  refine vc_seq ?_
  refine vc_region hm ?_
  refine gL trivial rfl rfl rfl rfl rfl rfl rfl rfl ?_
  refine gL trivial rfl rfl rfl rfl rfl rfl rfl rfl ?_
  refine gC0 [1,2] (impl_OwnRead_c (o:=x) (s:=sp) (by omega) (by omega) (by omega)) trivial rfl rfl rfl rfl ⟨rFlat (rSp_flat x.h) rfl (.inl rfl) rfl,rFlat (rSp_flat x.d) rfl (.inl rfl) rfl,trivial⟩ rfl rfl rfl rfl rfl ?_
  refine gM trivial (.inl rfl) rfl rfl rfl ?_
  refine gE trivial rfl rfl rfl rfl rfl rfl ?_
  refine gE trivial rfl rfl rfl rfl rfl rfl ?_
  refine gM trivial (.inr rfl) rfl rfl rfl ?_
  refine gM trivial (.inr rfl) rfl rfl rfl ?_
  refine rg_nil nofun ?_
  refine vc_seq ?_
  refine vc_region hm ?_
  refine gL trivial rfl rfl rfl rfl rfl rfl rfl rfl ?_
  refine gL trivial rfl rfl rfl rfl rfl rfl rfl rfl ?_
  refine gC0 [1,2] (spec_OwnRead_c (o:=x) (s:=sp) (by omega) (by omega) (by omega)) trivial rfl rfl rfl rfl ⟨rFlat (rSp_flat x.h) rfl (.inl rfl) rfl,rFlat (rSp_flat x.d) rfl (.inl rfl) rfl,trivial⟩ rfl rfl rfl rfl rfl ?_
  refine gM trivial (.inl rfl) rfl rfl rfl ?_
  refine gE trivial rfl rfl rfl rfl rfl rfl ?_
  refine gE trivial rfl rfl rfl rfl rfl rfl ?_
  refine gM trivial (.inr rfl) rfl rfl rfl ?_
  refine gM trivial (.inr rfl) rfl rfl rfl ?_
  refine rg_nil nofun ?_
  refine vc_seq ?_
  refine vc_seq ?_
  refine vc_region hm ?_
  refine gM trivial (.inl rfl) rfl rfl rfl ?_
  refine gM trivial (.inl rfl) rfl rfl rfl ?_
  refine gS trivial rfl rfl rfl rfl rfl rfl ?_
  refine gM trivial (.inl rfl) rfl rfl rfl ?_
  refine gM ⟨_,_,rfl,rfl,(nselfT _)⟩ (.inl rfl) rfl rfl rfl ?_
  refine gM ⟨_,_,rfl,rfl,(nselfT _)⟩ (.inl rfl) rfl rfl rfl ?_
  refine gBN ⟨_,_,rfl,rfl,(nselfT _)⟩ rfl rfl rfl rfl rfl rfl ?_
  refine gPF trivial rfl rfl (nselfT _) rfl rfl rfl ?_
  refine rg_nil nofun ?_
  refine cF rfl (nself _) ?_
  refine vc_skip ?_
  refine vc_seq ?_
  refine vc_seq ?_
  refine vc_region hm ?_
  refine gL trivial rfl rfl rfl rfl rfl rfl rfl rfl ?_
  refine gC0 [1,2] (spec_OwnOk_c (o:=x) (by omega) (by omega) (by omega)) trivial rfl rfl rfl rfl ⟨rFlat (rSp_flat x.h) rfl (.inl rfl) rfl,rFlat (rSp_flat x.d) rfl (.inl rfl) rfl,trivial⟩ rfl rfl rfl rfl rfl ?_
  refine gN trivial rfl rfl rfl rfl ?_
  refine gM trivial (.inl rfl) rfl rfl rfl ?_
  refine gI2 (d:=45) rfl (fun c45=>?_) (fun c45=>?_)
  ·skip
   have n45:=unT c45
   refine gO ⟨_,_,rfl,rfl,c45⟩ rfl rfl ?_
   refine gO ⟨_,_,rfl,rfl,c45⟩ rfl rfl ?_
   refine gO ⟨_,_,rfl,rfl,c45⟩ rfl rfl ?_
   refine gPT trivial rfl rfl c45 rfl rfl rfl ?_
   refine rg_nil nofun ?_
   refine cT rfl rfl ?_
   refine vc_seq ?_
   refine vc_region hm ?_
   refine gM trivial (.inl rfl) rfl rfl rfl ?_
   refine gN trivial rfl rfl rfl rfl ?_
   refine gM trivial (.inl rfl) rfl rfl rfl ?_
   refine gM ⟨_,_,rfl,rfl,(notF (readB_1 n45))⟩ (.inl rfl) rfl rfl rfl ?_
   refine gS ⟨_,_,rfl,rfl,(notF (readB_1 n45))⟩ rfl rfl rfl rfl rfl rfl ?_
   refine gPT trivial rfl rfl (notF (readB_1 n45)) rfl rfl rfl ?_
   refine gM trivial (.inr rfl) rfl rfl rfl ?_
   refine rg_nil nofun ?_
   refine vc_ret ?_
   exact ⟨idm,ends0 (.inr rfl) rfl (eqB (rdE (readB_1 n45))) rfl rfl rfl⟩
  ·skip
   have n45:=unF c45
   refine gL ⟨_,_,rfl,rfl,c45⟩ rfl rfl rfl rfl rfl rfl rfl rfl ?_
   refine gC0 [] (spec_SpanOk_c sp) ⟨_,_,rfl,rfl,c45⟩ rfl rfl rfl rfl (by trivial) rfl rfl rfl rfl rfl ?_
   refine gN ⟨_,_,rfl,rfl,c45⟩ rfl rfl rfl rfl ?_
   refine gPF trivial rfl rfl c45 rfl rfl rfl ?_
   refine rg_nil nofun ?_
   refine cI rfl (fun c49=>?_) (fun c49=>?_)
   ·skip
    have n49:=unT c49
    refine vc_seq ?_
    refine vc_region hm ?_
    refine gM trivial (.inl rfl) rfl rfl rfl ?_
    refine gN trivial rfl rfl rfl rfl ?_
    refine gM trivial (.inl rfl) rfl rfl rfl ?_
    refine gM ⟨_,_,rfl,rfl,(notF (readB_2 n49))⟩ (.inl rfl) rfl rfl rfl ?_
    refine gS ⟨_,_,rfl,rfl,(notF (readB_2 n49))⟩ rfl rfl rfl rfl rfl rfl ?_
    refine gPT trivial rfl rfl (notF (readB_2 n49)) rfl rfl rfl ?_
    refine gM trivial (.inr rfl) rfl rfl rfl ?_
    refine rg_nil nofun ?_
    refine vc_ret ?_
    exact ⟨idm,ends0 (.inr rfl) rfl (eqB (rdE (readB_2 n49))) rfl rfl rfl⟩
   ·skip
    have n49:=unF c49
    refine vc_skip ?_
    refine vc_seq ?_
    refine vc_region hm ?_
    refine gM trivial (.inr rfl) rfl rfl rfl ?_
    refine rg_nil nofun ?_
    refine vc_seq ?_
    refine vc_region hm ?_
    refine gM trivial (.inr rfl) rfl rfl rfl ?_
    refine rg_nil nofun ?_
    refine vc_seq ?_
    refine vc_seq ?_
    refine vc_region hm ?_
    refine gF trivial rfl rfl rfl rfl rfl ?_
    refine gL trivial rfl rfl rfl rfl rfl rfl rfl rfl ?_
    refine gM trivial (.inr rfl) rfl rfl rfl ?_
    refine rg_nil nofun ?_
    refine vc_block ?_
    refine vc_loopT (fun n_ S_=>∃ (i:Int),sp.lo≤i∧i≤sp.hi∧n_=(sp.hi - i).toNat∧S_=⟨5,[(3,.pointer (some ⟨3,0,none⟩)),(4,.pointer (some ⟨4,0,none⟩)),(5,.string (readT x sp)),(6,.bool (readB x sp)),(9,.string (allT x sp.lo i.toNat)),(10,.bool (knB x sp.lo i.toNat)),(11,.int .i64 i)],[(0,false,one ⟨hls k (rY l),capT + l.length,0⟩),(1,true,one ⟨rSp x.h,38,2⟩),(2,true,one ⟨rSp x.d,38,2⟩),(3,true,one ⟨[.string x.t,.slice (some ⟨1,0,none⟩) x.h.length 0,.slice (some ⟨2,0,none⟩) x.d.length 0],29,3⟩),(4,true,one ⟨[.int .i64 sp.lo,.int .i64 sp.hi],38,2⟩)]⟩) ⟨sp.lo,(Int.le_refl _),(by have:=spanOk_in n49;omega),rfl,rfl⟩ (re_nil (ms:=[0,1,2,3,4]) (C:=999) rfl ⟨⟨⟨rfl,rfl⟩,rfl⟩,⟨⟨rfl,rfl⟩,rfl⟩,⟨⟨rfl,rfl⟩,rfl⟩,⟨⟨rfl,rfl⟩,rfl⟩,⟨⟨rfl,by rw [al_0 (spanOk_in n49).1];rfl⟩,rfl⟩,⟨⟨rfl,eqB kn_0⟩,rfl⟩,⟨⟨rfl,rfl⟩,rfl⟩,trivial⟩ ⟨ktCode rfl rfl,ktFlat (rSp_flat _) rfl (.inr (.inl rfl)) id rfl,ktFlat (rSp_flat _) rfl (.inr (.inl rfl)) id rfl,ktRow rfl rfl rfl ⟨.inl rfl,fun _=>rfl,.inr (.inl rfl),fun q=>(by cases q)⟩ id rfl,ktFlat rfl rfl (.inr (.inl rfl)) id rfl,trivial⟩ rfl rfl (rig_of rfl) rfl) ?_
    rintro n_ S_ ⟨i,i0,i1,rfl,rfl⟩
    have sx:=spanOk_in n49
    have i00:0≤i:=by omega
    refine vc_seq ?_
    refine vc_seq ?_
    refine vc_region hm ?_
    refine gM trivial (.inl rfl) rfl rfl rfl ?_
    refine gF trivial rfl rfl rfl rfl rfl ?_
    refine gL trivial rfl rfl rfl rfl rfl rfl rfl rfl ?_
    refine gI trivial rfl rfl rfl rfl rfl rfl ?_
    refine rg_nil nofun ?_
    refine cI rfl (fun c61=>?_) (fun c61=>?_)
    ·skip
     have p61:=of_decide_eq_true c61
     refine vc_skip ?_
     refine vc_seq ?_
     refine vc_block ?_
     refine vc_seq ?_
     refine vc_region hm ?_
     refine gL trivial rfl rfl rfl rfl rfl rfl rfl rfl ?_
     refine gM trivial (.inl rfl) rfl rfl rfl ?_
     refine gC0 [] (wpAt_c i (by omega) (by omega)) trivial rfl rfl rfl rfl (by trivial) rfl rfl rfl rfl rfl ?_
     refine gC0 [1,2] (impl_OwnRead_c (o:=x) (s:=(spOf i)) (by omega) (by omega) (by omega)) trivial rfl rfl rfl rfl ⟨rFlat (rSp_flat x.h) rfl (.inl rfl) rfl,rFlat (rSp_flat x.d) rfl (.inl rfl) rfl,trivial⟩ rfl rfl rfl rfl rfl ?_
     refine gM trivial (.inl rfl) rfl rfl rfl ?_
     refine gE trivial rfl rfl rfl rfl rfl rfl ?_
     refine gE trivial rfl rfl rfl rfl rfl rfl ?_
     refine gM trivial (.inr rfl) rfl rfl rfl ?_
     refine gM trivial (.inr rfl) rfl rfl rfl ?_
     refine rg_nil (fun _=>by kernel_rfl) ?_
     refine vc_seq ?_
     refine vc_region hm ?_
     refine gM trivial (.inl rfl) rfl rfl rfl ?_
     refine gM trivial (.inl rfl) rfl rfl rfl ?_
     refine gI2 (d:=72) rfl (fun c72=>?_) (fun c72=>?_)
     ·skip
      refine gM ⟨_,_,rfl,rfl,c72⟩ (.inl rfl) rfl rfl rfl ?_
      refine gPT trivial rfl rfl c72 rfl rfl rfl ?_
      refine gM trivial (.inr rfl) rfl rfl rfl ?_
      refine rg_nil nofun ?_
      refine vc_region hm ?_
      refine gM trivial (.inl rfl) rfl rfl rfl ?_
      refine gM trivial (.inl rfl) rfl rfl rfl ?_
      refine gCat trivial rfl rfl rfl rfl rfl (by have a1:=al_size (x:=x) (lo:=sp.lo) i.toNat;have a2:=rd1_size (x:=x) i00;omega) ?_
      refine gM trivial (.inr rfl) rfl rfl rfl ?_
      refine rg_nil nofun ?_
      refine vc_region hm ?_
      refine gM trivial (.inl rfl) rfl rfl rfl ?_
      refine gA trivial rfl rfl rfl rfl rfl rfl (by omega) ?_
      refine gM trivial (.inr rfl) rfl rfl rfl ?_
      refine rg_nil nofun ?_
      exact lp_nextT ⟨i + 1,(by omega),(by omega),rfl,rfl⟩ (by omega) (re_nil (ms:=[0,1,2,3,4]) (C:=999) rfl ⟨⟨⟨rfl,rfl⟩,rfl⟩,⟨⟨rfl,rfl⟩,rfl⟩,⟨⟨rfl,rfl⟩,rfl⟩,⟨⟨rfl,rfl⟩,rfl⟩,⟨⟨rfl,by rw [al_next i00 i0];rfl⟩,rfl⟩,⟨⟨rfl,eqB (kn_T i00 i0 c72)⟩,rfl⟩,⟨⟨rfl,rfl⟩,rfl⟩,trivial⟩ ⟨ktCode rfl rfl,ktFlat (rSp_flat _) rfl (.inr (.inl rfl)) id rfl,ktFlat (rSp_flat _) rfl (.inr (.inl rfl)) id rfl,ktRow rfl rfl rfl ⟨.inl rfl,fun _=>rfl,.inr (.inl rfl),fun q=>(by cases q)⟩ id rfl,ktFlat rfl rfl (.inr (.inl rfl)) id rfl,trivial⟩ rfl rfl (rig_of rfl) rfl)
     ·skip
      refine gO ⟨_,_,rfl,rfl,c72⟩ rfl rfl ?_
      refine gPF trivial rfl rfl c72 rfl rfl rfl ?_
      refine gM trivial (.inr rfl) rfl rfl rfl ?_
      refine rg_nil nofun ?_
      refine vc_region hm ?_
      refine gM trivial (.inl rfl) rfl rfl rfl ?_
      refine gM trivial (.inl rfl) rfl rfl rfl ?_
      refine gCat trivial rfl rfl rfl rfl rfl (by have a1:=al_size (x:=x) (lo:=sp.lo) i.toNat;have a2:=rd1_size (x:=x) i00;omega) ?_
      refine gM trivial (.inr rfl) rfl rfl rfl ?_
      refine rg_nil nofun ?_
      refine vc_region hm ?_
      refine gM trivial (.inl rfl) rfl rfl rfl ?_
      refine gA trivial rfl rfl rfl rfl rfl rfl (by omega) ?_
      refine gM trivial (.inr rfl) rfl rfl rfl ?_
      refine rg_nil nofun ?_
      exact lp_nextT ⟨i + 1,(by omega),(by omega),rfl,rfl⟩ (by omega) (re_nil (ms:=[0,1,2,3,4]) (C:=999) rfl ⟨⟨⟨rfl,rfl⟩,rfl⟩,⟨⟨rfl,rfl⟩,rfl⟩,⟨⟨rfl,rfl⟩,rfl⟩,⟨⟨rfl,rfl⟩,rfl⟩,⟨⟨rfl,by rw [al_next i00 i0];rfl⟩,rfl⟩,⟨⟨rfl,eqB (kn_F i00 i0 c72)⟩,rfl⟩,⟨⟨rfl,rfl⟩,rfl⟩,trivial⟩ ⟨ktCode rfl rfl,ktFlat (rSp_flat _) rfl (.inr (.inl rfl)) id rfl,ktFlat (rSp_flat _) rfl (.inr (.inl rfl)) id rfl,ktRow rfl rfl rfl ⟨.inl rfl,fun _=>rfl,.inr (.inl rfl),fun q=>(by cases q)⟩ id rfl,ktFlat rfl rfl (.inr (.inl rfl)) id rfl,trivial⟩ rfl rfl (rig_of rfl) rfl)
    ·skip
     have p61:=of_decide_eq_false c61
     refine vc_exit ?_
     refine vc_seq ?_
     obtain rfl:i=sp.hi:=by omega
     refine vc_region hm ?_
     refine gM trivial (.inl rfl) rfl rfl rfl ?_
     refine gM trivial (.inl rfl) rfl rfl rfl ?_
     refine gBE trivial rfl rfl rfl rfl rfl rfl ?_
     refine gM trivial (.inl rfl) rfl rfl rfl ?_
     refine gM ⟨_,_,rfl,rfl,(kn_end n45 n49)⟩ (.inl rfl) rfl rfl rfl ?_
     refine gN ⟨_,_,rfl,rfl,(kn_end n45 n49)⟩ rfl rfl rfl rfl ?_
     refine gM ⟨_,_,rfl,rfl,(kn_end n45 n49)⟩ (.inl rfl) rfl rfl rfl ?_
     refine gI2 (d:=84) rfl (fun c84=>?_) (fun c84=>?_)
     ·skip
      have n84:=unT c84
      refine gO ⟨_,_,rfl,rfl,c84⟩ rfl rfl ?_
      refine gO ⟨_,_,rfl,rfl,c84⟩ rfl rfl ?_
      refine gO ⟨_,_,rfl,rfl,c84⟩ rfl rfl ?_
      refine gPT ⟨_,_,rfl,rfl,(kn_end n45 n49)⟩ rfl rfl c84 rfl rfl rfl ?_
      refine gPT trivial rfl rfl (kn_end n45 n49) rfl rfl rfl ?_
      refine gM trivial (.inr rfl) rfl rfl rfl ?_
      refine rg_nil nofun ?_
      refine vc_ret ?_
      exact ⟨idm,ends0 (.inr rfl) rfl (eqB rfl) rfl rfl rfl⟩
     ·skip
      have n84:=unF c84
      refine gM ⟨_,_,rfl,rfl,c84⟩ (.inl rfl) rfl rfl rfl ?_
      refine gM ⟨_,_,rfl,rfl,c84⟩ (.inl rfl) rfl rfl rfl ?_
      refine gS ⟨_,_,rfl,rfl,c84⟩ rfl rfl rfl rfl rfl rfl ?_
      refine gPF ⟨_,_,rfl,rfl,(kn_end n45 n49)⟩ rfl rfl c84 rfl rfl rfl ?_
      refine gPT trivial rfl rfl (kn_end n45 n49) rfl rfl rfl ?_
      refine gM trivial (.inr rfl) rfl rfl rfl ?_
      refine rg_nil nofun ?_
      refine vc_ret ?_
      exact ⟨idm,ends0 (.inr rfl) rfl (eqB (al_end n45 n49 n84)) rfl rfl rfl⟩
theorem FnOwnRead_walk {w:World} {v0:Value} {l0:List Int} {N0:Nam} {k0:Nat} (h0:CodeArg w v0 l0 N0 k0):Calls Try.prog 11 #[v0] w fun e w'=>e = .returned (.bool true)∧Below w.heap.size w w' :=
 law_done (FnOwnRead_c h0.2.2.1 h0.2.2.2) (ρ:=envL [N0]) (by simp only [List.map_cons,List.map_nil,code_r3 (ns:=[N0]) (b:=0) h0 rfl (of_blt rfl)]) ⟨code_at h0 rfl (of_blt rfl),trivial⟩
end Go.Proofs.Ythionnhbnfblcaa.A

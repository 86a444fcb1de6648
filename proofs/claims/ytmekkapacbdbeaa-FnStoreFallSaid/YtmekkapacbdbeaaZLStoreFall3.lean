/- Part 3 of the proof of FnStoreFall: words, contracts of callees, plain lemmas. -/
import Derived.Test.YtmekkapacbdbeaaZLStoreFall2
set_option maxHeartbeats 8000000
set_option maxRecDepth 100000
set_option linter.unusedVariables false
set_option linter.unusedSimpArgs false
namespace Go.Proofs.Ytmekkapacbdbeaa.A
open Go Go.RowKit
set_option maxHeartbeats 4000000
theorem some5_c {l:List Int} {k n t0:Nat} {p:Int} (hl:ByL l) (hn:n≤l.length) (hp0:0≤p) (hp1:p≤980000):∃ E,FDoes Try.prog 47 [.pointer (some ⟨1,0,none⟩)] (hp [(0,false,one ⟨hls k (rY l),t0,0⟩),(1,true,one ⟨[.slice (some ⟨0,k,none⟩) n 0,.int .i64 (p)],83,2⟩)]) E∧∃ (s:Stv) (p2:Int),stOk s=true∧p≤p2∧p2≤p + 400∧E=mkF (.agg #[.slice (some ⟨2,0,none⟩) s.now.length 0,.slice (some ⟨3,0,none⟩) s.sure.length 0,.slice (some ⟨4,0,none⟩) s.last.length 0,.slice (some ⟨5,0,none⟩) s.slast.length 0,.slice (some ⟨6,0,none⟩) s.fl.length 0]) [0] [(1,one ⟨[.slice (some ⟨0,k,none⟩) n 0,.int .i64 (p2)],83,2⟩)] [(2,one ⟨rS s.now,9,77⟩),(3,one ⟨rS s.sure,9,77⟩),(4,one ⟨rI s.last,3,77⟩),(5,one ⟨rI s.slast,3,77⟩),(6,one ⟨rI s.fl,3,77⟩)]:=by
 have hm:Try.prog.follows .mixedOrders=true:=by kernel_rfl
 have hd_:∀ x_ ∈ ([(0,false,one ⟨hls k (rY l),t0,0⟩),(1,true,one ⟨[.slice (some ⟨0,k,none⟩) n 0,.int .i64 (p)],83,2⟩)]:List (Nat × Bool × Fam)),∀ k_ y_,x_.2.2 k_=some y_→DetB (lt 2) y_:=by
  intro x_ hx k_ y_ e
  simp only [List.mem_cons,List.not_mem_nil,or_false] at hx
  rcases hx with rfl|rfl
  ·exact det_code e
  ·exact det_ok rfl e
 refine fn_some (u0:=2) Try.func47 rfl rfl (gets rfl rfl rfl hd_ rfl) ?_
 clear hd_
 refine vc_seq ?_
 refine vc_region hm ?_
 refine gZ (u':=3) trivial rfl rfl rfl rfl rfl rfl rfl rfl ?_
 refine rg_nil nofun ?_
 refine vc_seq ?_
 refine vc_region hm ?_
 refine gCn 8 [3,4,5,6,7] (spec_StoreNew_c) trivial rfl rfl rfl rfl (by trivial) ⟨rS_flat newS.now,rS_flat newS.sure,rI_flat newS.last,rI_flat newS.slast,rI_flat newS.fl,trivial⟩ rfl rfl rfl rfl ?_
 refine gZ (u':=9) trivial rfl rfl rfl rfl rfl rfl rfl rfl ?_
 refine gT trivial rfl rfl rfl rfl rfl rfl rfl rfl rfl rfl (Nat.le_of_ble_eq_true rfl) rfl ?_
 refine rg_nil nofun ?_
 refine vc_seq ?_
 refine vc_seq ?_
 refine vc_region hm ?_
 refine gM trivial (.inl rfl) rfl rfl rfl ?_
 refine gR (u':=10) (out:=rI [5,9,3,0,14]) trivial rfl rfl rfl rfl rfl rfl rfl rfl rfl rfl rfl rfl rfl rfl ?_
 obtain ⟨E1,hE1,x1,x1a,x1b,rfl⟩:=num_c (k:=k) (t0:=t0) (p:=p) hl hn (by omega) (by omega) (L:=[5,9,3,0,14]) (a:=0) (b:=14) (by decide) (by decide)
 refine gCF (ups':=[(1,one ⟨[.slice (some ⟨0,k,none⟩) n 0,.int .i64 (p + 1)],83,2⟩)]) (as':=[]) (v':=.int .i64 x1) 10 [0,1,9] hE1 trivial rfl rfl rfl rfl ⟨rCode rfl rfl,rCells rfl ⟨rfl,rfl,.inr rfl⟩ rfl,rFlat (rI_flat _) rfl (.inl rfl) rfl,trivial⟩ ⟨frOne rfl rfl,trivial⟩ trivial rfl rfl (ho1 ⟨_,rfl⟩) (hu1 rfl) rfl rfl ?_
 refine gM trivial (.inr rfl) rfl rfl rfl ?_
 refine rg_nil nofun ?_
 refine vc_block ?_
 refine vc_loopT (fun n_ S_=>∃ (s:Stv) (i q:Int),stOk s=true∧0≤i∧i≤14∧p≤q∧q≤p + 1 + 25 * (14 - i)∧n_=i.toNat∧S_=⟨9,[(0,.pointer (some ⟨1,0,none⟩)),(2,.pointer (some ⟨2,0,none⟩)),(3,.pointer (some ⟨8,0,none⟩)),(4,.int .i64 i)],[(0,false,one ⟨hls k (rY l),t0,0⟩),(1,true,one ⟨[.slice (some ⟨0,k,none⟩) n 0,.int .i64 (q)],83,2⟩),(2,true,one ⟨[.slice none 0 0,.slice none 0 0,.slice none 0 0,.slice none 0 0,.slice none 0 0],26,5⟩),(3,true,one ⟨rS s.now,9,77⟩),(4,true,one ⟨rS s.sure,9,77⟩),(5,true,one ⟨rI s.last,3,77⟩),(6,true,one ⟨rI s.slast,3,77⟩),(7,true,one ⟨rI s.fl,3,77⟩),(8,true,one ⟨[.slice (some ⟨3,0,none⟩) s.now.length 0,.slice (some ⟨4,0,none⟩) s.sure.length 0,.slice (some ⟨5,0,none⟩) s.last.length 0,.slice (some ⟨6,0,none⟩) s.slast.length 0,.slice (some ⟨7,0,none⟩) s.fl.length 0],26,5⟩)]⟩) ⟨newS,x1,p + 1,new_ok,(by omega),(by omega),(by omega),(by omega),rfl,rfl⟩ (re_nil (ms:=[0,1,2,3,4,5,6,7,8]) (C:=999) rfl ⟨⟨⟨rfl,rfl⟩,rfl⟩,⟨⟨rfl,rfl⟩,rfl⟩,⟨⟨rfl,rfl⟩,rfl⟩,⟨⟨rfl,rfl⟩,rfl⟩,trivial⟩ ⟨ktCode rfl rfl,ktRow rfl rfl rfl (BlkW.refl _) id rfl,ktRow rfl rfl rfl (BlkW.refl _) id rfl,ktFlat (rS_flat _) rfl (.inr (.inr ⟨Nat.le_of_ble_eq_true rfl,Nat.le_of_ble_eq_true rfl,fun q=>absurd q (Nat.succ_ne_zero _)⟩)) id rfl,ktFlat (rS_flat _) rfl (.inr (.inr ⟨Nat.le_of_ble_eq_true rfl,Nat.le_of_ble_eq_true rfl,fun q=>absurd q (Nat.succ_ne_zero _)⟩)) id rfl,ktFlat (rI_flat _) rfl (.inr (.inr ⟨Nat.le_of_ble_eq_true rfl,Nat.le_of_ble_eq_true rfl,fun q=>absurd q (Nat.succ_ne_zero _)⟩)) id rfl,ktFlat (rI_flat _) rfl (.inr (.inr ⟨Nat.le_of_ble_eq_true rfl,Nat.le_of_ble_eq_true rfl,fun q=>absurd q (Nat.succ_ne_zero _)⟩)) id rfl,ktFlat (rI_flat _) rfl (.inr (.inr ⟨Nat.le_of_ble_eq_true rfl,Nat.le_of_ble_eq_true rfl,fun q=>absurd q (Nat.succ_ne_zero _)⟩)) id rfl,ktRow rfl rfl rfl ⟨.inl rfl,fun _=>rfl,.inr (.inl rfl),fun q=>(by cases q)⟩ id rfl,trivial⟩ rfl rfl (rig_of rfl) rfl) ?_
 rintro n_ S_ ⟨s,i,q,hk,i0,i1,q0,q1,rfl,rfl⟩
 refine vc_seq ?_
 refine vc_seq ?_
 refine vc_region hm ?_
 refine gM trivial (.inl rfl) rfl rfl rfl ?_
 refine gI trivial rfl rfl rfl rfl rfl rfl ?_
 refine rg_nil nofun ?_
 refine cI rfl (fun c10=>?_) (fun c10=>?_)
 ·skip
  have p10:=of_decide_eq_true c10
  refine vc_skip ?_
  refine vc_seq ?_
  refine vc_block ?_
  refine vc_seq ?_
  refine vc_region hm ?_
  refine gM trivial (.inl rfl) rfl rfl rfl ?_
  obtain ⟨E3,hE3,x3,x3a,x3b,rfl⟩:=pick_c (k:=k) (t0:=t0) (p:=q) hl hn (by omega) (by omega) (m:=9) (by omega) (by omega)
  refine gCF (ups':=[(1,one ⟨[.slice (some ⟨0,k,none⟩) n 0,.int .i64 (q + 1)],83,2⟩)]) (as':=[]) (v':=.int .i64 x3) 9 [0,1] hE3 trivial rfl rfl rfl rfl ⟨rCode rfl rfl,rCells rfl ⟨rfl,rfl,.inr rfl⟩ rfl,trivial⟩ ⟨frOne rfl rfl,trivial⟩ trivial rfl rfl (ho1 ⟨_,rfl⟩) (hu1 rfl) rfl rfl ?_
  refine rg_nil nofun ?_
  refine vc_block ?_
  refine vc_seq ?_
  refine vc_region hm ?_
  refine gI trivial rfl rfl rfl rfl rfl rfl ?_
  refine gM trivial (.inr rfl) rfl rfl rfl ?_
  refine rg_nil nofun ?_
  refine cI rfl (fun c23=>?_) (fun c23=>?_)
  ·skip
   have p23:=eq_of_beq c23
   refine vc_region hm ?_
   refine gL trivial rfl rfl rfl rfl rfl rfl rfl rfl ?_
   refine gCn 14 [3,4,5,6,7,9,10,11,12,13] (spec_StoreSync_c (s:=s) (kk:=0) (cc:=0) hk) trivial rfl rfl rfl rfl ⟨rFlat (rS_flat s.now) rfl (.inl rfl) rfl,rFlat (rS_flat s.sure) rfl (.inl rfl) rfl,rFlat (rI_flat s.last) rfl (.inl rfl) rfl,rFlat (rI_flat s.slast) rfl (.inl rfl) rfl,rFlat (rI_flat s.fl) rfl (.inl rfl) rfl,trivial⟩ ⟨rS_flat (syncSt s).now,rS_flat (syncSt s).sure,rI_flat (syncSt s).last,rI_flat (syncSt s).slast,rI_flat (syncSt s).fl,trivial⟩ rfl rfl rfl rfl ?_
   refine gT trivial rfl rfl rfl rfl rfl rfl rfl rfl rfl rfl (Nat.le_of_ble_eq_true rfl) rfl ?_
   refine rg_nil nofun ?_
   refine vc_region hm ?_
   refine gM trivial (.inl rfl) rfl rfl rfl ?_
   refine gA trivial rfl rfl rfl rfl rfl rfl (by omega) ?_
   refine gM trivial (.inr rfl) rfl rfl rfl ?_
   refine rg_nil nofun ?_
   exact lp_nextT ⟨(syncSt s),i - 1,q + 1,(sync_ok hk),(by omega),(by omega),(by omega),(by omega),rfl,rfl⟩ (by omega) (re_nil (ms:=[0,1,2,9,10,11,12,13,8]) (C:=999) rfl ⟨⟨⟨rfl,rfl⟩,rfl⟩,⟨⟨rfl,rfl⟩,rfl⟩,⟨⟨rfl,rfl⟩,rfl⟩,⟨⟨rfl,rfl⟩,rfl⟩,trivial⟩ ⟨ktCode rfl rfl,ktRow rfl rfl rfl (BlkW.refl _) id rfl,ktRow rfl rfl rfl (BlkW.refl _) id rfl,ktFlat (rS_flat _) rfl (.inr (.inr ⟨Nat.le_of_ble_eq_true rfl,Nat.le_of_ble_eq_true rfl,fun q=>absurd q (Nat.succ_ne_zero _)⟩)) id rfl,ktFlat (rS_flat _) rfl (.inr (.inr ⟨Nat.le_of_ble_eq_true rfl,Nat.le_of_ble_eq_true rfl,fun q=>absurd q (Nat.succ_ne_zero _)⟩)) id rfl,ktFlat (rI_flat _) rfl (.inr (.inr ⟨Nat.le_of_ble_eq_true rfl,Nat.le_of_ble_eq_true rfl,fun q=>absurd q (Nat.succ_ne_zero _)⟩)) id rfl,ktFlat (rI_flat _) rfl (.inr (.inr ⟨Nat.le_of_ble_eq_true rfl,Nat.le_of_ble_eq_true rfl,fun q=>absurd q (Nat.succ_ne_zero _)⟩)) id rfl,ktFlat (rI_flat _) rfl (.inr (.inr ⟨Nat.le_of_ble_eq_true rfl,Nat.le_of_ble_eq_true rfl,fun q=>absurd q (Nat.succ_ne_zero _)⟩)) id rfl,ktRow rfl rfl rfl ⟨.inl rfl,fun _=>rfl,.inr (.inl rfl),fun q=>(by cases q)⟩ id rfl,trivial⟩ rfl rfl (rig_of rfl) rfl)
  ·skip
   have p23:=ne_of_beq_false c23
   refine vc_seq ?_
   refine vc_region hm ?_
   refine gI trivial rfl rfl rfl rfl rfl rfl ?_
   refine gM trivial (.inr rfl) rfl rfl rfl ?_
   refine rg_nil nofun ?_
   refine cI rfl (fun c27=>?_) (fun c27=>?_)
   ·skip
    have p27:=eq_of_beq c27
    refine vc_region hm ?_
    refine gL trivial rfl rfl rfl rfl rfl rfl rfl rfl ?_
    refine gCn 14 [3,4,5,6,7,9,10,11,12,13] (spec_StoreFall_c (s:=s) (kk:=0) (cc:=0) hk) trivial rfl rfl rfl rfl ⟨rFlat (rS_flat s.now) rfl (.inl rfl) rfl,rFlat (rS_flat s.sure) rfl (.inl rfl) rfl,rFlat (rI_flat s.last) rfl (.inl rfl) rfl,rFlat (rI_flat s.slast) rfl (.inl rfl) rfl,rFlat (rI_flat s.fl) rfl (.inl rfl) rfl,trivial⟩ ⟨rS_flat (fallSt s).now,rS_flat (fallSt s).sure,rI_flat (fallSt s).last,rI_flat (fallSt s).slast,rI_flat (fallSt s).fl,trivial⟩ rfl rfl rfl rfl ?_
    refine gT trivial rfl rfl rfl rfl rfl rfl rfl rfl rfl rfl (Nat.le_of_ble_eq_true rfl) rfl ?_
    refine rg_nil nofun ?_
    refine vc_region hm ?_
    refine gM trivial (.inl rfl) rfl rfl rfl ?_
    refine gA trivial rfl rfl rfl rfl rfl rfl (by omega) ?_
    refine gM trivial (.inr rfl) rfl rfl rfl ?_
    refine rg_nil nofun ?_
    exact lp_nextT ⟨(fallSt s),i - 1,q + 1,(fall_ok hk),(by omega),(by omega),(by omega),(by omega),rfl,rfl⟩ (by omega) (re_nil (ms:=[0,1,2,9,10,11,12,13,8]) (C:=999) rfl ⟨⟨⟨rfl,rfl⟩,rfl⟩,⟨⟨rfl,rfl⟩,rfl⟩,⟨⟨rfl,rfl⟩,rfl⟩,⟨⟨rfl,rfl⟩,rfl⟩,trivial⟩ ⟨ktCode rfl rfl,ktRow rfl rfl rfl (BlkW.refl _) id rfl,ktRow rfl rfl rfl (BlkW.refl _) id rfl,ktFlat (rS_flat _) rfl (.inr (.inr ⟨Nat.le_of_ble_eq_true rfl,Nat.le_of_ble_eq_true rfl,fun q=>absurd q (Nat.succ_ne_zero _)⟩)) id rfl,ktFlat (rS_flat _) rfl (.inr (.inr ⟨Nat.le_of_ble_eq_true rfl,Nat.le_of_ble_eq_true rfl,fun q=>absurd q (Nat.succ_ne_zero _)⟩)) id rfl,ktFlat (rI_flat _) rfl (.inr (.inr ⟨Nat.le_of_ble_eq_true rfl,Nat.le_of_ble_eq_true rfl,fun q=>absurd q (Nat.succ_ne_zero _)⟩)) id rfl,ktFlat (rI_flat _) rfl (.inr (.inr ⟨Nat.le_of_ble_eq_true rfl,Nat.le_of_ble_eq_true rfl,fun q=>absurd q (Nat.succ_ne_zero _)⟩)) id rfl,ktFlat (rI_flat _) rfl (.inr (.inr ⟨Nat.le_of_ble_eq_true rfl,Nat.le_of_ble_eq_true rfl,fun q=>absurd q (Nat.succ_ne_zero _)⟩)) id rfl,ktRow rfl rfl rfl ⟨.inl rfl,fun _=>rfl,.inr (.inl rfl),fun q=>(by cases q)⟩ id rfl,trivial⟩ rfl rfl (rig_of rfl) rfl)
   ·skip
    have p27:=ne_of_beq_false c27
    refine vc_seq ?_
    refine vc_region hm ?_
    refine gI trivial rfl rfl rfl rfl rfl rfl ?_
    refine gM trivial (.inr rfl) rfl rfl rfl ?_
    refine rg_nil nofun ?_
    refine cI rfl (fun c31=>?_) (fun c31=>?_)
    ·skip
     have p31:=eq_of_beq c31
     refine vc_region hm ?_
     refine gL trivial rfl rfl rfl rfl rfl rfl rfl rfl ?_
     refine gM trivial (.inl rfl) rfl rfl rfl ?_
     obtain ⟨E7,hE7,x7,x7a,x7b,rfl⟩:=pick_c (k:=k) (t0:=t0) (p:=q + 1) hl hn (by omega) (by omega) (m:=3) (by omega) (by omega)
     refine gCF (ups':=[(1,one ⟨[.slice (some ⟨0,k,none⟩) n 0,.int .i64 (q + 1 + 1)],83,2⟩)]) (as':=[]) (v':=.int .i64 x7) 9 [0,1] hE7 trivial rfl rfl rfl rfl ⟨rCode rfl rfl,rCells rfl ⟨rfl,rfl,.inr rfl⟩ rfl,trivial⟩ ⟨frOne rfl rfl,trivial⟩ trivial rfl rfl (ho1 ⟨_,rfl⟩) (hu1 rfl) rfl rfl ?_
     refine gM trivial (.inl rfl) rfl rfl rfl ?_
     obtain ⟨E8,hE8,x8,x8a,x8b,rfl⟩:=pick_c (k:=k) (t0:=t0) (p:=q + 1 + 1) hl hn (by omega) (by omega) (m:=4) (by omega) (by omega)
     refine gCF (ups':=[(1,one ⟨[.slice (some ⟨0,k,none⟩) n 0,.int .i64 (q + 1 + 1 + 1)],83,2⟩)]) (as':=[]) (v':=.int .i64 x8) 9 [0,1] hE8 trivial rfl rfl rfl rfl ⟨rCode rfl rfl,rCells rfl ⟨rfl,rfl,.inr rfl⟩ rfl,trivial⟩ ⟨frOne rfl rfl,trivial⟩ trivial rfl rfl (ho1 ⟨_,rfl⟩) (hu1 rfl) rfl rfl ?_
     obtain ⟨E9,hE9,x9,b9,d9,rfl⟩:=spec_StoreFence_c (s:=s) (kk:=0) (cc:=0) (who:=x7) (ep:=x8) hk
     refine gCF (ups':=[]) (as':=[(9,one ⟨rS x9.now,9,1⟩),(10,one ⟨rS x9.sure,9,1⟩),(11,one ⟨rI x9.last,3,1⟩),(12,one ⟨rI x9.slast,3,1⟩),(13,one ⟨rI x9.fl,3,1⟩)]) (v':=.tuple #[.agg #[.slice (some ⟨9,0,none⟩) x9.now.length 0,.slice (some ⟨10,0,none⟩) x9.sure.length 0,.slice (some ⟨11,0,none⟩) x9.last.length 0,.slice (some ⟨12,0,none⟩) x9.slast.length 0,.slice (some ⟨13,0,none⟩) x9.fl.length 0],.bool b9]) 14 [3,4,5,6,7,9,10,11,12,13] hE9 trivial rfl rfl rfl rfl ⟨rFlat (rS_flat s.now) rfl (.inl rfl) rfl,rFlat (rS_flat s.sure) rfl (.inl rfl) rfl,rFlat (rI_flat s.last) rfl (.inl rfl) rfl,rFlat (rI_flat s.slast) rfl (.inl rfl) rfl,rFlat (rI_flat s.fl) rfl (.inl rfl) rfl,trivial⟩ trivial ⟨frF (rS_flat x9.now) rfl,frF (rS_flat x9.sure) rfl,frF (rI_flat x9.last) rfl,frF (rI_flat x9.slast) rfl,frF (rI_flat x9.fl) rfl,trivial⟩ rfl rfl (fun x hx=>nomatch hx) (fun x hx=>nomatch hx) rfl rfl ?_
     refine gM trivial (.inl rfl) rfl rfl rfl ?_
     refine gE trivial rfl rfl rfl rfl rfl rfl ?_
     refine gE trivial rfl rfl rfl rfl rfl rfl ?_
     refine gT trivial rfl rfl rfl rfl rfl rfl rfl rfl rfl rfl (Nat.le_of_ble_eq_true rfl) rfl ?_
     refine rg_nil (fun _=>by kernel_rfl) ?_
     refine vc_region hm ?_
     refine gM trivial (.inl rfl) rfl rfl rfl ?_
     refine gA trivial rfl rfl rfl rfl rfl rfl (by omega) ?_
     refine gM trivial (.inr rfl) rfl rfl rfl ?_
     refine rg_nil nofun ?_
     exact lp_nextT ⟨x9,i - 1,q + 1 + 1 + 1,(fence_ok d9 hk),(by omega),(by omega),(by omega),(by omega),rfl,rfl⟩ (by omega) (re_nil (ms:=[0,1,2,9,10,11,12,13,8]) (C:=999) rfl ⟨⟨⟨rfl,rfl⟩,rfl⟩,⟨⟨rfl,rfl⟩,rfl⟩,⟨⟨rfl,rfl⟩,rfl⟩,⟨⟨rfl,rfl⟩,rfl⟩,trivial⟩ ⟨ktCode rfl rfl,ktRow rfl rfl rfl (BlkW.refl _) id rfl,ktRow rfl rfl rfl (BlkW.refl _) id rfl,ktFlat (rS_flat _) rfl (.inr (.inr ⟨Nat.le_of_ble_eq_true rfl,Nat.le_of_ble_eq_true rfl,fun q=>absurd q (Nat.succ_ne_zero _)⟩)) id rfl,ktFlat (rS_flat _) rfl (.inr (.inr ⟨Nat.le_of_ble_eq_true rfl,Nat.le_of_ble_eq_true rfl,fun q=>absurd q (Nat.succ_ne_zero _)⟩)) id rfl,ktFlat (rI_flat _) rfl (.inr (.inr ⟨Nat.le_of_ble_eq_true rfl,Nat.le_of_ble_eq_true rfl,fun q=>absurd q (Nat.succ_ne_zero _)⟩)) id rfl,ktFlat (rI_flat _) rfl (.inr (.inr ⟨Nat.le_of_ble_eq_true rfl,Nat.le_of_ble_eq_true rfl,fun q=>absurd q (Nat.succ_ne_zero _)⟩)) id rfl,ktFlat (rI_flat _) rfl (.inr (.inr ⟨Nat.le_of_ble_eq_true rfl,Nat.le_of_ble_eq_true rfl,fun q=>absurd q (Nat.succ_ne_zero _)⟩)) id rfl,ktRow rfl rfl rfl ⟨.inl rfl,fun _=>rfl,.inr (.inl rfl),fun q=>(by cases q)⟩ id rfl,trivial⟩ rfl rfl (rig_of rfl) rfl)
    ·skip
     have p31:=ne_of_beq_false c31
     refine vc_region hm ?_
     refine gL trivial rfl rfl rfl rfl rfl rfl rfl rfl ?_
     refine gM trivial (.inl rfl) rfl rfl rfl ?_
     refine gL trivial rfl rfl rfl rfl rfl rfl rfl rfl ?_
     obtain ⟨E11,hE11,rq11,p11,d11,r11a,r11b,rfl⟩:=ask_c (k:=k) (t0:=t0) (p:=q + 1) hl hn (by omega) (by omega) (s:=s) (kk:=0) (cc:=0) (dr_ok hk)
     refine gCF (ups':=[(1,one ⟨[.slice (some ⟨0,k,none⟩) n 0,.int .i64 (p11)],83,2⟩)]) (as':=[]) (v':=vRq rq11) 9 [0,1,3,4,5,6,7] hE11 trivial rfl rfl rfl rfl ⟨rCode rfl rfl,rCells rfl ⟨rfl,rfl,.inr rfl⟩ rfl,rFlat (hls_flat (rS_flat s.now)) rfl (.inl rfl) rfl,rFlat (rS_flat s.sure) rfl (.inl rfl) rfl,rFlat (rI_flat s.last) rfl (.inl rfl) rfl,rFlat (rI_flat s.slast) rfl (.inl rfl) rfl,rFlat (rI_flat s.fl) rfl (.inl rfl) rfl,trivial⟩ ⟨frOne rfl rfl,trivial⟩ trivial rfl rfl (ho1 ⟨_,rfl⟩) (hu1 rfl) rfl rfl ?_
     obtain ⟨E12,hE12,x12,c12,d12,rfl⟩:=spec_StoreDo_c (s:=s) (q:=rq11) (kk:=0) (cc:=0) hk (by omega)
     refine gCF (ups':=[]) (as':=[(9,one ⟨rS x12.now,9,1⟩),(10,one ⟨rS x12.sure,9,1⟩),(11,one ⟨rI x12.last,3,1⟩),(12,one ⟨rI x12.slast,3,1⟩),(13,one ⟨rI x12.fl,3,1⟩)]) (v':=.tuple #[.agg #[.slice (some ⟨9,0,none⟩) x12.now.length 0,.slice (some ⟨10,0,none⟩) x12.sure.length 0,.slice (some ⟨11,0,none⟩) x12.last.length 0,.slice (some ⟨12,0,none⟩) x12.slast.length 0,.slice (some ⟨13,0,none⟩) x12.fl.length 0],.int .i64 c12]) 14 [3,4,5,6,7,9,10,11,12,13] hE12 trivial rfl rfl rfl rfl ⟨rFlat (rS_flat s.now) rfl (.inl rfl) rfl,rFlat (rS_flat s.sure) rfl (.inl rfl) rfl,rFlat (rI_flat s.last) rfl (.inl rfl) rfl,rFlat (rI_flat s.slast) rfl (.inl rfl) rfl,rFlat (rI_flat s.fl) rfl (.inl rfl) rfl,trivial⟩ trivial ⟨frF (rS_flat x12.now) rfl,frF (rS_flat x12.sure) rfl,frF (rI_flat x12.last) rfl,frF (rI_flat x12.slast) rfl,frF (rI_flat x12.fl) rfl,trivial⟩ rfl rfl (fun x hx=>nomatch hx) (fun x hx=>nomatch hx) rfl rfl ?_
     refine gM trivial (.inl rfl) rfl rfl rfl ?_
     refine gE trivial rfl rfl rfl rfl rfl rfl ?_
     refine gE trivial rfl rfl rfl rfl rfl rfl ?_
     refine gT trivial rfl rfl rfl rfl rfl rfl rfl rfl rfl rfl (Nat.le_of_ble_eq_true rfl) rfl ?_
     refine rg_nil (fun _=>by kernel_rfl) ?_
     refine vc_region hm ?_
     refine gM trivial (.inl rfl) rfl rfl rfl ?_
     refine gA trivial rfl rfl rfl rfl rfl rfl (by omega) ?_
     refine gM trivial (.inr rfl) rfl rfl rfl ?_
     refine rg_nil nofun ?_
     exact lp_nextT ⟨x12,i - 1,p11,(do_k d12 hk),(by omega),(by omega),(by omega),(by omega),rfl,rfl⟩ (by omega) (re_nil (ms:=[0,1,2,9,10,11,12,13,8]) (C:=999) rfl ⟨⟨⟨rfl,rfl⟩,rfl⟩,⟨⟨rfl,rfl⟩,rfl⟩,⟨⟨rfl,rfl⟩,rfl⟩,⟨⟨rfl,rfl⟩,rfl⟩,trivial⟩ ⟨ktCode rfl rfl,ktRow rfl rfl rfl (BlkW.refl _) id rfl,ktRow rfl rfl rfl (BlkW.refl _) id rfl,ktFlat (rS_flat _) rfl (.inr (.inr ⟨Nat.le_of_ble_eq_true rfl,Nat.le_of_ble_eq_true rfl,fun q=>absurd q (Nat.succ_ne_zero _)⟩)) id rfl,ktFlat (rS_flat _) rfl (.inr (.inr ⟨Nat.le_of_ble_eq_true rfl,Nat.le_of_ble_eq_true rfl,fun q=>absurd q (Nat.succ_ne_zero _)⟩)) id rfl,ktFlat (rI_flat _) rfl (.inr (.inr ⟨Nat.le_of_ble_eq_true rfl,Nat.le_of_ble_eq_true rfl,fun q=>absurd q (Nat.succ_ne_zero _)⟩)) id rfl,ktFlat (rI_flat _) rfl (.inr (.inr ⟨Nat.le_of_ble_eq_true rfl,Nat.le_of_ble_eq_true rfl,fun q=>absurd q (Nat.succ_ne_zero _)⟩)) id rfl,ktFlat (rI_flat _) rfl (.inr (.inr ⟨Nat.le_of_ble_eq_true rfl,Nat.le_of_ble_eq_true rfl,fun q=>absurd q (Nat.succ_ne_zero _)⟩)) id rfl,ktRow rfl rfl rfl ⟨.inl rfl,fun _=>rfl,.inr (.inl rfl),fun q=>(by cases q)⟩ id rfl,trivial⟩ rfl rfl (rig_of rfl) rfl)
 ·skip
  have p10:=of_decide_eq_false c10
  refine vc_exit ?_
  refine vc_seq ?_
  refine vc_region hm ?_
  refine gL trivial rfl rfl rfl rfl rfl rfl rfl rfl ?_
  refine gT trivial rfl rfl rfl rfl rfl rfl rfl rfl rfl rfl (Nat.le_of_ble_eq_true rfl) rfl ?_
  refine rg_nil nofun ?_
  refine vc_ret ?_
  exact ⟨mkF (.agg #[.slice (some ⟨2,0,none⟩) s.now.length 0,.slice (some ⟨3,0,none⟩) s.sure.length 0,.slice (some ⟨4,0,none⟩) s.last.length 0,.slice (some ⟨5,0,none⟩) s.slast.length 0,.slice (some ⟨6,0,none⟩) s.fl.length 0]) [0] [(1,one ⟨[.slice (some ⟨0,k,none⟩) n 0,.int .i64 (q)],83,2⟩)] [(2,one ⟨rS s.now,9,77⟩),(3,one ⟨rS s.sure,9,77⟩),(4,one ⟨rI s.last,3,77⟩),(5,one ⟨rI s.slast,3,77⟩),(6,one ⟨rI s.fl,3,77⟩)],_,endsT [(2,3,one ⟨rS s.now,9,77⟩),(3,4,one ⟨rS s.sure,9,77⟩),(4,5,one ⟨rI s.last,3,77⟩),(5,6,one ⟨rI s.slast,3,77⟩),(6,7,one ⟨rI s.fl,3,77⟩)] (.inr rfl) ((.cell rfl rfl rfl rfl rfl .nil)) rfl rfl ⟨upOne rfl rfl rfl,trivial⟩ ⟨asFlat rfl (rS_flat s.now),asFlat rfl (rS_flat s.sure),asFlat rfl (rI_flat s.last),asFlat rfl (rI_flat s.slast),asFlat rfl (rI_flat s.fl),trivial⟩ rfl,s,_,hk,(by omega),(by omega),rfl⟩
theorem set_I {l:List Int} {a b x:Int} {i:Nat} (h:∀ y ∈ l,a≤y∧y≤b) (hx:a≤x∧x≤b):∀ y ∈ l.set i x,a≤y∧y≤b:=fun y hy=>by
 rcases List.mem_or_eq_of_mem_set hy with h1|h1
 ·exact h y h1
 ·rw [h1];exact hx
theorem bn_0 {s:Stv} (h:DrB s):DrB ⟨s.now.drop 1,s.sure,s.last,s.slast,s.fl⟩:=⟨⟨by have:=h.z.a0;show (s.now.drop 1).length≤_;rw [List.length_drop];omega,h.z.a1,h.z.a2,h.z.a3,h.z.a4,fun x hx=>h.z.b0 x (List.mem_of_mem_drop hx),h.z.b1⟩,h.l,h.f⟩
theorem bn_1 {s:Stv} {i:Nat} (h:DrB s):DrB ⟨s.now,s.sure.set i ⟨#[65]⟩,s.last,s.slast,s.fl⟩:=⟨⟨h.z.a0,by have:=h.z.a1;show (s.sure.set _ _).length≤_;rw [List.length_set];omega,h.z.a2,h.z.a3,h.z.a4,h.z.b0,fun y hy=>by
 rcases List.mem_or_eq_of_mem_set hy with h1|h1
 ·exact h.z.b1 y h1
 ·rw [h1];decide⟩,h.l,h.f⟩
theorem bn_2 {s:Stv} {i:Nat} {x:Int} (h:DrB s) (hx:-1≤x∧x≤1001):DrB ⟨s.now,s.sure,s.last.set i x,s.slast,s.fl⟩:=⟨⟨h.z.a0,h.z.a1,by have:=h.z.a2;show (s.last.set _ _).length≤_;rw [List.length_set];omega,h.z.a3,h.z.a4,h.z.b0,h.z.b1⟩,set_I h.l hx,h.f⟩
theorem bn_3 {s:Stv} {i:Nat} {x:Int} (h:DrB s):DrB ⟨s.now,s.sure,s.last,s.slast.set i x,s.fl⟩:=⟨⟨h.z.a0,h.z.a1,h.z.a2,by have:=h.z.a3;show (s.slast.set _ _).length≤_;rw [List.length_set];omega,h.z.a4,h.z.b0,h.z.b1⟩,h.l,h.f⟩
theorem bn_4 {s:Stv} {i:Nat} {x:Int} (h:DrB s) (hx:-1≤x∧x≤101):DrB ⟨s.now,s.sure,s.last,s.slast,s.fl.set i x⟩:=⟨⟨h.z.a0,h.z.a1,h.z.a2,h.z.a3,by have:=h.z.a4;show (s.fl.set _ _).length≤_;rw [List.length_set];omega,h.z.b0,h.z.b1⟩,h.l,set_I h.f hx⟩
theorem bn_5 {s:Stv} (h:DrB s):DrB ⟨s.now,s.sure,s.last,s.slast,[]⟩:=⟨⟨h.z.a0,h.z.a1,h.z.a2,h.z.a3,Nat.zero_le _,h.z.b0,h.z.b1⟩,h.l,fun y hy=>nomatch hy⟩
theorem bn_6 {s:Stv} (h:DrB s):DrB ⟨[],s.sure,s.last,s.slast,s.fl⟩:=⟨⟨Nat.zero_le _,h.z.a1,h.z.a2,h.z.a3,h.z.a4,fun y hy=>(nomatch hy),h.z.b1⟩,h.l,h.f⟩
theorem rS_drop {l:List ByteArray}:(rS l).drop 1=rS (l.drop 1):=by
 cases l with
 | nil=>rfl
 | cons x l=>rfl
theorem bent5_c {l:List Int} {k n t0:Nat} {p:Int} (hl:ByL l) (hn:n≤l.length) (hp0:0≤p) (hp1:p≤985000) {s:Stv} {kk cc:Nat} (hb:DrB s):∃ E,FDoes Try.prog 46 [.pointer (some ⟨1,0,none⟩),.agg #[.slice (some ⟨2,kk,none⟩) s.now.length cc,.slice (some ⟨3,0,none⟩) s.sure.length 0,.slice (some ⟨4,0,none⟩) s.last.length 0,.slice (some ⟨5,0,none⟩) s.slast.length 0,.slice (some ⟨6,0,none⟩) s.fl.length 0]] (hp [(0,false,one ⟨hls k (rY l),t0,0⟩),(1,true,one ⟨[.slice (some ⟨0,k,none⟩) n 0,.int .i64 (p)],83,2⟩),(2,false,one ⟨hls kk (rS s.now),9,0⟩),(3,false,one ⟨rS s.sure,9,0⟩),(4,false,one ⟨rI s.last,3,0⟩),(5,false,one ⟨rI s.slast,3,0⟩),(6,false,one ⟨rI s.fl,3,0⟩)]) E∧∃ (x:Stv) (k2 c2:Nat) (p2:Int),DrB x∧p≤p2∧p2≤p + 10∧E=mkF (.agg #[.slice (some ⟨7,k2,none⟩) x.now.length c2,.slice (some ⟨8,0,none⟩) x.sure.length 0,.slice (some ⟨9,0,none⟩) x.last.length 0,.slice (some ⟨10,0,none⟩) x.slast.length 0,.slice (some ⟨11,0,none⟩) x.fl.length 0]) [0,2,3,4,5,6] [(1,one ⟨[.slice (some ⟨0,k,none⟩) n 0,.int .i64 (p2)],83,2⟩)] [(7,one ⟨hls k2 (rS x.now),9,0⟩),(8,one ⟨rS x.sure,9,77⟩),(9,one ⟨rI x.last,3,77⟩),(10,one ⟨rI x.slast,3,77⟩),(11,one ⟨rI x.fl,3,77⟩)]:=by
 have hm:Try.prog.follows .mixedOrders=true:=by kernel_rfl
 have hd_:∀ x_ ∈ ([(0,false,one ⟨hls k (rY l),t0,0⟩),(1,true,one ⟨[.slice (some ⟨0,k,none⟩) n 0,.int .i64 (p)],83,2⟩),(2,false,one ⟨hls kk (rS s.now),9,0⟩),(3,false,one ⟨rS s.sure,9,0⟩),(4,false,one ⟨rI s.last,3,0⟩),(5,false,one ⟨rI s.slast,3,0⟩),(6,false,one ⟨rI s.fl,3,0⟩)]:List (Nat × Bool × Fam)),∀ k_ y_,x_.2.2 k_=some y_→DetB (lt 7) y_:=by
  intro x_ hx k_ y_ e
  simp only [List.mem_cons,List.not_mem_nil,or_false] at hx
  rcases hx with rfl|rfl|rfl|rfl|rfl|rfl|rfl
  ·exact det_code e
  ·exact det_ok rfl e
  ·exact det_row (hls_flat (rS_flat s.now)) e
  ·exact det_row (rS_flat s.sure) e
  ·exact det_row (rI_flat s.last) e
  ·exact det_row (rI_flat s.slast) e
  ·exact det_row (rI_flat s.fl) e
 refine fn_some (u0:=7) Try.func46 rfl rfl (gets rfl rfl rfl hd_ rfl) ?_
 clear hd_
 refine vc_seq ?_
 refine vc_region hm ?_
 refine gB (u':=8) trivial rfl rfl rfl rfl rfl rfl rfl rfl ?_
 refine gZ (u':=9) trivial rfl rfl rfl rfl rfl rfl rfl rfl ?_
 refine rg_nil nofun ?_
 refine vc_seq ?_
 refine vc_region hm ?_
 refine gL trivial rfl rfl rfl rfl rfl rfl rfl rfl ?_
 refine gCn 14 [2,3,4,5,6,9,10,11,12,13] (l5Copy_c (s:=s) (kk:=kk) (cc:=cc) hb.z) trivial rfl rfl rfl rfl ⟨rFlat (hls_flat (rS_flat s.now)) rfl (.inl rfl) rfl,rFlat (rS_flat s.sure) rfl (.inl rfl) rfl,rFlat (rI_flat s.last) rfl (.inl rfl) rfl,rFlat (rI_flat s.slast) rfl (.inl rfl) rfl,rFlat (rI_flat s.fl) rfl (.inl rfl) rfl,trivial⟩ ⟨rS_flat s.now,rS_flat s.sure,rI_flat s.last,rI_flat s.slast,rI_flat s.fl,trivial⟩ rfl rfl rfl rfl ?_
 refine gZ (u':=15) trivial rfl rfl rfl rfl rfl rfl rfl rfl ?_
 refine gT trivial rfl rfl rfl rfl rfl rfl rfl rfl rfl rfl (Nat.le_of_ble_eq_true rfl) rfl ?_
 refine rg_nil nofun ?_
 refine vc_seq ?_
 refine vc_seq ?_
 refine vc_region hm ?_
 refine gM trivial (.inl rfl) rfl rfl rfl ?_
 obtain ⟨E1,hE1,x1,x1a,x1b,rfl⟩:=pick_c (k:=k) (t0:=t0) (p:=p) hl hn (by omega) (by omega) (m:=72) (by omega) (by omega)
 refine gCF (ups':=[(1,one ⟨[.slice (some ⟨0,k,none⟩) n 0,.int .i64 (p + 1)],83,2⟩)]) (as':=[]) (v':=.int .i64 x1) 15 [0,1] hE1 trivial rfl rfl rfl rfl ⟨rCode rfl rfl,rCells rfl ⟨rfl,rfl,.inr rfl⟩ rfl,trivial⟩ ⟨frOne rfl rfl,trivial⟩ trivial rfl rfl (ho1 ⟨_,rfl⟩) (hu1 rfl) rfl rfl ?_
 refine rg_nil nofun ?_
 refine vc_block ?_
 refine vc_seq ?_
 refine vc_region hm ?_
 refine gI trivial rfl rfl rfl rfl rfl rfl ?_
 refine gM trivial (.inr rfl) rfl rfl rfl ?_
 refine rg_nil nofun ?_
 refine cI rfl (fun c10=>?_) (fun c10=>?_)
 ·skip
  have p10:=eq_of_beq c10
  refine vc_seq ?_
  refine vc_region hm ?_
  refine gF trivial rfl rfl rfl rfl rfl ?_
  refine gL trivial rfl rfl rfl rfl rfl rfl rfl rfl ?_
  refine gK trivial rfl rfl rfl rfl rfl rfl rS_nil ?_
  refine gI trivial rfl rfl rfl rfl rfl rfl ?_
  refine rg_nil nofun ?_
  refine cI rfl (fun c15=>?_) (fun c15=>?_)
  ·skip
   have p15:=of_decide_eq_true c15
   rcases Nat.lt_or_ge 1 s.now.length with g1|g1
   ·skip
    refine vc_region hm ?_
    refine gF trivial rfl rfl rfl rfl rfl ?_
    refine gL trivial rfl rfl rfl rfl rfl rfl rfl rfl ?_
    refine gTailO trivial rfl rfl rfl rfl rfl rfl rfl rfl rfl (by rw [rowL_len (n:=1) (fun _=>rfl)];rfl) (by decide) (by omega) ?_
    refine gF trivial rfl rfl rfl rfl rfl ?_
    refine gT trivial rfl rfl rfl rfl rfl rfl rfl rfl rfl rfl (Nat.le_of_ble_eq_true rfl) rfl ?_
    refine rg_nil nofun ?_
    refine vc_seq ?_
    refine vc_region hm ?_
    refine gL trivial rfl rfl rfl rfl rfl rfl rfl rfl ?_
    refine gT trivial rfl rfl rfl rfl rfl rfl rfl rfl rfl rfl (Nat.le_of_ble_eq_true rfl) rfl ?_
    refine rg_nil nofun ?_
    refine vc_re (S2:=⟨15,[(4,.pointer (some ⟨8,0,none⟩))],[(1,true,one ⟨[.slice (some ⟨0,k,none⟩) n 0,.int .i64 (p + 1)],83,2⟩),(8,true,one ⟨[.slice (some ⟨9,(Int.toNat 1 * 1),none⟩) (s.now.length - Int.toNat 1) (Int.toNat 1),.slice (some ⟨10,0,none⟩) s.sure.length 0,.slice (some ⟨11,0,none⟩) s.last.length 0,.slice (some ⟨12,0,none⟩) s.slast.length 0,.slice (some ⟨13,0,none⟩) s.fl.length 0],26,5⟩),(9,true,one ⟨hls 1 (rS (⟨s.now.drop 1,s.sure,s.last,s.slast,s.fl⟩:Stv).now),9,0⟩),(10,true,one ⟨rS (⟨s.now.drop 1,s.sure,s.last,s.slast,s.fl⟩:Stv).sure,9,77⟩),(11,true,one ⟨rI (⟨s.now.drop 1,s.sure,s.last,s.slast,s.fl⟩:Stv).last,3,77⟩),(12,true,one ⟨rI (⟨s.now.drop 1,s.sure,s.last,s.slast,s.fl⟩:Stv).slast,3,77⟩),(13,true,one ⟨rI (⟨s.now.drop 1,s.sure,s.last,s.slast,s.fl⟩:Stv).fl,3,77⟩)]⟩) (re_nil (ms:=[0,1,2,3,4,5,6,7,8,9,10,11,12,13,14]) (C:=999) rfl ⟨⟨⟨rfl,rfl⟩,rfl⟩,trivial⟩ ⟨ktRow rfl rfl rfl (BlkW.refl _) id rfl,ktRow rfl rfl rfl ⟨.inl rfl,fun _=>rfl,.inr (.inl rfl),fun q=>(by cases q)⟩ id rfl,ktHol (rS_flat _) rfl rS_drop (rS_ne (by omega)) id rfl rfl,ktFlat (rS_flat _) rfl (.inr (.inr ⟨Nat.le_of_ble_eq_true rfl,Nat.le_of_ble_eq_true rfl,fun q=>absurd q (Nat.succ_ne_zero _)⟩)) id rfl,ktFlat (rI_flat _) rfl (.inr (.inr ⟨Nat.le_of_ble_eq_true rfl,Nat.le_of_ble_eq_true rfl,fun q=>absurd q (Nat.succ_ne_zero _)⟩)) id rfl,ktFlat (rI_flat _) rfl (.inr (.inr ⟨Nat.le_of_ble_eq_true rfl,Nat.le_of_ble_eq_true rfl,fun q=>absurd q (Nat.succ_ne_zero _)⟩)) id rfl,ktFlat (rI_flat _) rfl (.inr (.inr ⟨Nat.le_of_ble_eq_true rfl,Nat.le_of_ble_eq_true rfl,fun q=>absurd q (Nat.succ_ne_zero _)⟩)) id rfl,trivial⟩ rfl rfl (rig_of rfl) rfl) ?_
    refine vc_ret ?_
    exact ⟨mkF (.agg #[.slice (some ⟨7,1,none⟩) (⟨s.now.drop 1,s.sure,s.last,s.slast,s.fl⟩:Stv).now.length 1,.slice (some ⟨8,0,none⟩) (⟨s.now.drop 1,s.sure,s.last,s.slast,s.fl⟩:Stv).sure.length 0,.slice (some ⟨9,0,none⟩) (⟨s.now.drop 1,s.sure,s.last,s.slast,s.fl⟩:Stv).last.length 0,.slice (some ⟨10,0,none⟩) (⟨s.now.drop 1,s.sure,s.last,s.slast,s.fl⟩:Stv).slast.length 0,.slice (some ⟨11,0,none⟩) (⟨s.now.drop 1,s.sure,s.last,s.slast,s.fl⟩:Stv).fl.length 0]) [0,2,3,4,5,6] [(1,one ⟨[.slice (some ⟨0,k,none⟩) n 0,.int .i64 (p + 1)],83,2⟩)] [(7,one ⟨hls 1 (rS (⟨s.now.drop 1,s.sure,s.last,s.slast,s.fl⟩:Stv).now),9,0⟩),(8,one ⟨rS (⟨s.now.drop 1,s.sure,s.last,s.slast,s.fl⟩:Stv).sure,9,77⟩),(9,one ⟨rI (⟨s.now.drop 1,s.sure,s.last,s.slast,s.fl⟩:Stv).last,3,77⟩),(10,one ⟨rI (⟨s.now.drop 1,s.sure,s.last,s.slast,s.fl⟩:Stv).slast,3,77⟩),(11,one ⟨rI (⟨s.now.drop 1,s.sure,s.last,s.slast,s.fl⟩:Stv).fl,3,77⟩)],_,endsT [(7,9,one ⟨hls 1 (rS (⟨s.now.drop 1,s.sure,s.last,s.slast,s.fl⟩:Stv).now),9,0⟩),(8,10,one ⟨rS (⟨s.now.drop 1,s.sure,s.last,s.slast,s.fl⟩:Stv).sure,9,77⟩),(9,11,one ⟨rI (⟨s.now.drop 1,s.sure,s.last,s.slast,s.fl⟩:Stv).last,3,77⟩),(10,12,one ⟨rI (⟨s.now.drop 1,s.sure,s.last,s.slast,s.fl⟩:Stv).slast,3,77⟩),(11,13,one ⟨rI (⟨s.now.drop 1,s.sure,s.last,s.slast,s.fl⟩:Stv).fl,3,77⟩)] (.inr rfl) ((.cell rfl rfl rfl rfl rfl .nil)) (by rw [List.length_drop];rfl) rfl ⟨upOne rfl rfl rfl,trivial⟩ ⟨asFlat rfl (hls_flat (rS_flat (⟨s.now.drop 1,s.sure,s.last,s.slast,s.fl⟩:Stv).now)),asFlat rfl (rS_flat (⟨s.now.drop 1,s.sure,s.last,s.slast,s.fl⟩:Stv).sure),asFlat rfl (rI_flat (⟨s.now.drop 1,s.sure,s.last,s.slast,s.fl⟩:Stv).last),asFlat rfl (rI_flat (⟨s.now.drop 1,s.sure,s.last,s.slast,s.fl⟩:Stv).slast),asFlat rfl (rI_flat (⟨s.now.drop 1,s.sure,s.last,s.slast,s.fl⟩:Stv).fl),trivial⟩ rfl,(⟨s.now.drop 1,s.sure,s.last,s.slast,s.fl⟩:Stv),1,1,_,(bn_0 hb),(by omega),(by omega),rfl⟩
   ·skip
    refine vc_region hm ?_
    refine gF trivial rfl rfl rfl rfl rfl ?_
    refine gL trivial rfl rfl rfl rfl rfl rfl rfl rfl ?_
    refine gTailE (u':=16) trivial rfl rfl rfl rfl rfl rfl rfl rfl rfl rfl rfl (by rw [rowL_len (n:=1) (fun _=>rfl)];rfl) (by omega) ?_
    refine gF trivial rfl rfl rfl rfl rfl ?_
    refine gT trivial rfl rfl rfl rfl rfl rfl rfl rfl rfl rfl (Nat.le_of_ble_eq_true rfl) rfl ?_
    refine rg_nil nofun ?_
    refine vc_seq ?_
    refine vc_region hm ?_
    refine gL trivial rfl rfl rfl rfl rfl rfl rfl rfl ?_
    refine gT trivial rfl rfl rfl rfl rfl rfl rfl rfl rfl rfl (Nat.le_of_ble_eq_true rfl) rfl ?_
    refine rg_nil nofun ?_
    refine vc_re (S2:=⟨16,[(4,.pointer (some ⟨8,0,none⟩))],[(1,true,one ⟨[.slice (some ⟨0,k,none⟩) n 0,.int .i64 (p + 1)],83,2⟩),(8,true,one ⟨[.slice (some ⟨15,0,none⟩) 0 0,.slice (some ⟨10,0,none⟩) s.sure.length 0,.slice (some ⟨11,0,none⟩) s.last.length 0,.slice (some ⟨12,0,none⟩) s.slast.length 0,.slice (some ⟨13,0,none⟩) s.fl.length 0],26,5⟩),(15,true,one ⟨hls 0 (rS (⟨[],s.sure,s.last,s.slast,s.fl⟩:Stv).now),9,0⟩),(10,true,one ⟨rS (⟨[],s.sure,s.last,s.slast,s.fl⟩:Stv).sure,9,77⟩),(11,true,one ⟨rI (⟨[],s.sure,s.last,s.slast,s.fl⟩:Stv).last,3,77⟩),(12,true,one ⟨rI (⟨[],s.sure,s.last,s.slast,s.fl⟩:Stv).slast,3,77⟩),(13,true,one ⟨rI (⟨[],s.sure,s.last,s.slast,s.fl⟩:Stv).fl,3,77⟩)]⟩) (re_nil (ms:=[0,1,2,3,4,5,6,7,8,9,10,11,12,13,14,15]) (C:=999) rfl ⟨⟨⟨rfl,rfl⟩,rfl⟩,trivial⟩ ⟨ktRow rfl rfl rfl (BlkW.refl _) id rfl,ktRow rfl rfl rfl ⟨.inl rfl,fun _=>rfl,.inr (.inl rfl),fun q=>(by cases q)⟩ id rfl,ktFlat (hls_flat (rS_flat _)) rfl (.inl rfl) id rfl,ktFlat (rS_flat _) rfl (.inr (.inr ⟨Nat.le_of_ble_eq_true rfl,Nat.le_of_ble_eq_true rfl,fun q=>absurd q (Nat.succ_ne_zero _)⟩)) id rfl,ktFlat (rI_flat _) rfl (.inr (.inr ⟨Nat.le_of_ble_eq_true rfl,Nat.le_of_ble_eq_true rfl,fun q=>absurd q (Nat.succ_ne_zero _)⟩)) id rfl,ktFlat (rI_flat _) rfl (.inr (.inr ⟨Nat.le_of_ble_eq_true rfl,Nat.le_of_ble_eq_true rfl,fun q=>absurd q (Nat.succ_ne_zero _)⟩)) id rfl,ktFlat (rI_flat _) rfl (.inr (.inr ⟨Nat.le_of_ble_eq_true rfl,Nat.le_of_ble_eq_true rfl,fun q=>absurd q (Nat.succ_ne_zero _)⟩)) id rfl,trivial⟩ rfl rfl (rig_of rfl) rfl) ?_
    refine vc_ret ?_
    exact ⟨mkF (.agg #[.slice (some ⟨7,0,none⟩) (⟨[],s.sure,s.last,s.slast,s.fl⟩:Stv).now.length 0,.slice (some ⟨8,0,none⟩) (⟨[],s.sure,s.last,s.slast,s.fl⟩:Stv).sure.length 0,.slice (some ⟨9,0,none⟩) (⟨[],s.sure,s.last,s.slast,s.fl⟩:Stv).last.length 0,.slice (some ⟨10,0,none⟩) (⟨[],s.sure,s.last,s.slast,s.fl⟩:Stv).slast.length 0,.slice (some ⟨11,0,none⟩) (⟨[],s.sure,s.last,s.slast,s.fl⟩:Stv).fl.length 0]) [0,2,3,4,5,6] [(1,one ⟨[.slice (some ⟨0,k,none⟩) n 0,.int .i64 (p + 1)],83,2⟩)] [(7,one ⟨hls 0 (rS (⟨[],s.sure,s.last,s.slast,s.fl⟩:Stv).now),9,0⟩),(8,one ⟨rS (⟨[],s.sure,s.last,s.slast,s.fl⟩:Stv).sure,9,77⟩),(9,one ⟨rI (⟨[],s.sure,s.last,s.slast,s.fl⟩:Stv).last,3,77⟩),(10,one ⟨rI (⟨[],s.sure,s.last,s.slast,s.fl⟩:Stv).slast,3,77⟩),(11,one ⟨rI (⟨[],s.sure,s.last,s.slast,s.fl⟩:Stv).fl,3,77⟩)],_,endsT [(7,15,one ⟨hls 0 (rS (⟨[],s.sure,s.last,s.slast,s.fl⟩:Stv).now),9,0⟩),(8,10,one ⟨rS (⟨[],s.sure,s.last,s.slast,s.fl⟩:Stv).sure,9,77⟩),(9,11,one ⟨rI (⟨[],s.sure,s.last,s.slast,s.fl⟩:Stv).last,3,77⟩),(10,12,one ⟨rI (⟨[],s.sure,s.last,s.slast,s.fl⟩:Stv).slast,3,77⟩),(11,13,one ⟨rI (⟨[],s.sure,s.last,s.slast,s.fl⟩:Stv).fl,3,77⟩)] (.inr rfl) ((.cell rfl rfl rfl rfl rfl .nil)) rfl rfl ⟨upOne rfl rfl rfl,trivial⟩ ⟨asFlat rfl (hls_flat (rS_flat (⟨[],s.sure,s.last,s.slast,s.fl⟩:Stv).now)),asFlat rfl (rS_flat (⟨[],s.sure,s.last,s.slast,s.fl⟩:Stv).sure),asFlat rfl (rI_flat (⟨[],s.sure,s.last,s.slast,s.fl⟩:Stv).last),asFlat rfl (rI_flat (⟨[],s.sure,s.last,s.slast,s.fl⟩:Stv).slast),asFlat rfl (rI_flat (⟨[],s.sure,s.last,s.slast,s.fl⟩:Stv).fl),trivial⟩ rfl,(⟨[],s.sure,s.last,s.slast,s.fl⟩:Stv),0,0,_,(bn_6 hb),(by omega),(by omega),rfl⟩
  ·skip
   have p15:=of_decide_eq_false c15
   refine vc_skip ?_
   refine vc_seq ?_
   refine vc_region hm ?_
   refine gL trivial rfl rfl rfl rfl rfl rfl rfl rfl ?_
   refine gT trivial rfl rfl rfl rfl rfl rfl rfl rfl rfl rfl (Nat.le_of_ble_eq_true rfl) rfl ?_
   refine rg_nil nofun ?_
   refine vc_re (S2:=⟨15,[(4,.pointer (some ⟨8,0,none⟩))],[(1,true,one ⟨[.slice (some ⟨0,k,none⟩) n 0,.int .i64 (p + 1)],83,2⟩),(8,true,one ⟨[.slice (some ⟨9,0,none⟩) s.now.length 0,.slice (some ⟨10,0,none⟩) s.sure.length 0,.slice (some ⟨11,0,none⟩) s.last.length 0,.slice (some ⟨12,0,none⟩) s.slast.length 0,.slice (some ⟨13,0,none⟩) s.fl.length 0],26,5⟩),(9,true,one ⟨hls 0 (rS s.now),9,0⟩),(10,true,one ⟨rS s.sure,9,77⟩),(11,true,one ⟨rI s.last,3,77⟩),(12,true,one ⟨rI s.slast,3,77⟩),(13,true,one ⟨rI s.fl,3,77⟩)]⟩) (re_nil (ms:=[0,1,2,3,4,5,6,7,8,9,10,11,12,13,14]) (C:=999) rfl ⟨⟨⟨rfl,rfl⟩,rfl⟩,trivial⟩ ⟨ktRow rfl rfl rfl (BlkW.refl _) id rfl,ktRow rfl rfl rfl ⟨.inl rfl,fun _=>rfl,.inr (.inl rfl),fun q=>(by cases q)⟩ id rfl,ktFlat (hls_flat (rS_flat _)) rfl (.inl rfl) id rfl,ktFlat (rS_flat _) rfl (.inr (.inr ⟨Nat.le_of_ble_eq_true rfl,Nat.le_of_ble_eq_true rfl,fun q=>absurd q (Nat.succ_ne_zero _)⟩)) id rfl,ktFlat (rI_flat _) rfl (.inr (.inr ⟨Nat.le_of_ble_eq_true rfl,Nat.le_of_ble_eq_true rfl,fun q=>absurd q (Nat.succ_ne_zero _)⟩)) id rfl,ktFlat (rI_flat _) rfl (.inr (.inr ⟨Nat.le_of_ble_eq_true rfl,Nat.le_of_ble_eq_true rfl,fun q=>absurd q (Nat.succ_ne_zero _)⟩)) id rfl,ktFlat (rI_flat _) rfl (.inr (.inr ⟨Nat.le_of_ble_eq_true rfl,Nat.le_of_ble_eq_true rfl,fun q=>absurd q (Nat.succ_ne_zero _)⟩)) id rfl,trivial⟩ rfl rfl (rig_of rfl) rfl) ?_
   refine vc_ret ?_
   exact ⟨mkF (.agg #[.slice (some ⟨7,0,none⟩) s.now.length 0,.slice (some ⟨8,0,none⟩) s.sure.length 0,.slice (some ⟨9,0,none⟩) s.last.length 0,.slice (some ⟨10,0,none⟩) s.slast.length 0,.slice (some ⟨11,0,none⟩) s.fl.length 0]) [0,2,3,4,5,6] [(1,one ⟨[.slice (some ⟨0,k,none⟩) n 0,.int .i64 (p + 1)],83,2⟩)] [(7,one ⟨hls 0 (rS s.now),9,0⟩),(8,one ⟨rS s.sure,9,77⟩),(9,one ⟨rI s.last,3,77⟩),(10,one ⟨rI s.slast,3,77⟩),(11,one ⟨rI s.fl,3,77⟩)],_,endsT [(7,9,one ⟨hls 0 (rS s.now),9,0⟩),(8,10,one ⟨rS s.sure,9,77⟩),(9,11,one ⟨rI s.last,3,77⟩),(10,12,one ⟨rI s.slast,3,77⟩),(11,13,one ⟨rI s.fl,3,77⟩)] (.inr rfl) ((.cell rfl rfl rfl rfl rfl .nil)) rfl rfl ⟨upOne rfl rfl rfl,trivial⟩ ⟨asFlat rfl (hls_flat (rS_flat s.now)),asFlat rfl (rS_flat s.sure),asFlat rfl (rI_flat s.last),asFlat rfl (rI_flat s.slast),asFlat rfl (rI_flat s.fl),trivial⟩ rfl,s,0,0,_,hb,(by omega),(by omega),rfl⟩
 ·skip
  have p10:=ne_of_beq_false c10
  refine vc_seq ?_
  refine vc_region hm ?_
  refine gI trivial rfl rfl rfl rfl rfl rfl ?_
  refine gM trivial (.inr rfl) rfl rfl rfl ?_
  refine rg_nil nofun ?_
  refine cI rfl (fun c20=>?_) (fun c20=>?_)
  ·skip
   have p20:=eq_of_beq c20
   refine vc_seq ?_
   refine vc_region hm ?_
   refine gF trivial rfl rfl rfl rfl rfl ?_
   refine gL trivial rfl rfl rfl rfl rfl rfl rfl rfl ?_
   refine gK trivial rfl rfl rfl rfl rfl rfl rS_nil ?_
   refine gI trivial rfl rfl rfl rfl rfl rfl ?_
   refine rg_nil nofun ?_
   refine cI rfl (fun c25=>?_) (fun c25=>?_)
   ·skip
    have p25:=of_decide_eq_true c25
    refine vc_region hm ?_
    refine gF trivial rfl rfl rfl rfl rfl ?_
    refine gL trivial rfl rfl rfl rfl rfl rfl rfl rfl ?_
    refine gX trivial rfl rfl rfl rfl rfl rfl rfl rfl (by omega) (by omega) rS_ne ?_
    refine gT trivial rfl rfl rfl rfl rfl rfl rfl rfl rfl rfl (kS (by omega) (by omega)) (sS (by omega) (by omega)) ?_
    refine rg_nil nofun ?_
    refine vc_seq ?_
    refine vc_region hm ?_
    refine gL trivial rfl rfl rfl rfl rfl rfl rfl rfl ?_
    refine gT trivial rfl rfl rfl rfl rfl rfl rfl rfl rfl rfl (Nat.le_of_ble_eq_true rfl) rfl ?_
    refine rg_nil nofun ?_
    refine vc_re (S2:=⟨15,[(4,.pointer (some ⟨8,0,none⟩))],[(1,true,one ⟨[.slice (some ⟨0,k,none⟩) n 0,.int .i64 (p + 1)],83,2⟩),(8,true,one ⟨[.slice (some ⟨9,0,none⟩) s.now.length 0,.slice (some ⟨10,0,none⟩) s.sure.length 0,.slice (some ⟨11,0,none⟩) s.last.length 0,.slice (some ⟨12,0,none⟩) s.slast.length 0,.slice (some ⟨13,0,none⟩) s.fl.length 0],26,5⟩),(9,true,one ⟨hls 0 (rS (⟨s.now,s.sure.set (Int.toNat 0) ⟨#[65]⟩,s.last,s.slast,s.fl⟩:Stv).now),9,0⟩),(10,true,one ⟨rS (⟨s.now,s.sure.set (Int.toNat 0) ⟨#[65]⟩,s.last,s.slast,s.fl⟩:Stv).sure,9,77⟩),(11,true,one ⟨rI (⟨s.now,s.sure.set (Int.toNat 0) ⟨#[65]⟩,s.last,s.slast,s.fl⟩:Stv).last,3,77⟩),(12,true,one ⟨rI (⟨s.now,s.sure.set (Int.toNat 0) ⟨#[65]⟩,s.last,s.slast,s.fl⟩:Stv).slast,3,77⟩),(13,true,one ⟨rI (⟨s.now,s.sure.set (Int.toNat 0) ⟨#[65]⟩,s.last,s.slast,s.fl⟩:Stv).fl,3,77⟩)]⟩) (re_nil (ms:=[0,1,2,3,4,5,6,7,8,9,10,11,12,13,14]) (C:=999) rfl ⟨⟨⟨rfl,rfl⟩,rfl⟩,trivial⟩ ⟨ktRow rfl rfl rfl (BlkW.refl _) id rfl,ktRow rfl rfl rfl ⟨.inl rfl,fun _=>rfl,.inr (.inl rfl),fun q=>(by cases q)⟩ id rfl,ktFlat (hls_flat (rS_flat _)) rfl (.inl rfl) id rfl,ktFlat (rS_flat _) rfl (.inr (.inr ⟨Nat.le_of_ble_eq_true rfl,Nat.le_of_ble_eq_true rfl,fun q=>absurd q (Nat.succ_ne_zero _)⟩)) id rfl,ktFlat (rI_flat _) rfl (.inr (.inr ⟨Nat.le_of_ble_eq_true rfl,Nat.le_of_ble_eq_true rfl,fun q=>absurd q (Nat.succ_ne_zero _)⟩)) id rfl,ktFlat (rI_flat _) rfl (.inr (.inr ⟨Nat.le_of_ble_eq_true rfl,Nat.le_of_ble_eq_true rfl,fun q=>absurd q (Nat.succ_ne_zero _)⟩)) id rfl,ktFlat (rI_flat _) rfl (.inr (.inr ⟨Nat.le_of_ble_eq_true rfl,Nat.le_of_ble_eq_true rfl,fun q=>absurd q (Nat.succ_ne_zero _)⟩)) id rfl,trivial⟩ rfl rfl (rig_of rfl) rfl) ?_
    refine vc_ret ?_
    exact ⟨mkF (.agg #[.slice (some ⟨7,0,none⟩) (⟨s.now,s.sure.set (Int.toNat 0) ⟨#[65]⟩,s.last,s.slast,s.fl⟩:Stv).now.length 0,.slice (some ⟨8,0,none⟩) (⟨s.now,s.sure.set (Int.toNat 0) ⟨#[65]⟩,s.last,s.slast,s.fl⟩:Stv).sure.length 0,.slice (some ⟨9,0,none⟩) (⟨s.now,s.sure.set (Int.toNat 0) ⟨#[65]⟩,s.last,s.slast,s.fl⟩:Stv).last.length 0,.slice (some ⟨10,0,none⟩) (⟨s.now,s.sure.set (Int.toNat 0) ⟨#[65]⟩,s.last,s.slast,s.fl⟩:Stv).slast.length 0,.slice (some ⟨11,0,none⟩) (⟨s.now,s.sure.set (Int.toNat 0) ⟨#[65]⟩,s.last,s.slast,s.fl⟩:Stv).fl.length 0]) [0,2,3,4,5,6] [(1,one ⟨[.slice (some ⟨0,k,none⟩) n 0,.int .i64 (p + 1)],83,2⟩)] [(7,one ⟨hls 0 (rS (⟨s.now,s.sure.set (Int.toNat 0) ⟨#[65]⟩,s.last,s.slast,s.fl⟩:Stv).now),9,0⟩),(8,one ⟨rS (⟨s.now,s.sure.set (Int.toNat 0) ⟨#[65]⟩,s.last,s.slast,s.fl⟩:Stv).sure,9,77⟩),(9,one ⟨rI (⟨s.now,s.sure.set (Int.toNat 0) ⟨#[65]⟩,s.last,s.slast,s.fl⟩:Stv).last,3,77⟩),(10,one ⟨rI (⟨s.now,s.sure.set (Int.toNat 0) ⟨#[65]⟩,s.last,s.slast,s.fl⟩:Stv).slast,3,77⟩),(11,one ⟨rI (⟨s.now,s.sure.set (Int.toNat 0) ⟨#[65]⟩,s.last,s.slast,s.fl⟩:Stv).fl,3,77⟩)],_,endsT [(7,9,one ⟨hls 0 (rS (⟨s.now,s.sure.set (Int.toNat 0) ⟨#[65]⟩,s.last,s.slast,s.fl⟩:Stv).now),9,0⟩),(8,10,one ⟨rS (⟨s.now,s.sure.set (Int.toNat 0) ⟨#[65]⟩,s.last,s.slast,s.fl⟩:Stv).sure,9,77⟩),(9,11,one ⟨rI (⟨s.now,s.sure.set (Int.toNat 0) ⟨#[65]⟩,s.last,s.slast,s.fl⟩:Stv).last,3,77⟩),(10,12,one ⟨rI (⟨s.now,s.sure.set (Int.toNat 0) ⟨#[65]⟩,s.last,s.slast,s.fl⟩:Stv).slast,3,77⟩),(11,13,one ⟨rI (⟨s.now,s.sure.set (Int.toNat 0) ⟨#[65]⟩,s.last,s.slast,s.fl⟩:Stv).fl,3,77⟩)] (.inr rfl) ((.cell rfl rfl rfl rfl rfl .nil)) (by rw [List.length_set];rfl) rfl ⟨upOne rfl rfl rfl,trivial⟩ ⟨asFlat rfl (hls_flat (rS_flat (⟨s.now,s.sure.set (Int.toNat 0) ⟨#[65]⟩,s.last,s.slast,s.fl⟩:Stv).now)),asFlat rfl (rS_flat (⟨s.now,s.sure.set (Int.toNat 0) ⟨#[65]⟩,s.last,s.slast,s.fl⟩:Stv).sure),asFlat rfl (rI_flat (⟨s.now,s.sure.set (Int.toNat 0) ⟨#[65]⟩,s.last,s.slast,s.fl⟩:Stv).last),asFlat rfl (rI_flat (⟨s.now,s.sure.set (Int.toNat 0) ⟨#[65]⟩,s.last,s.slast,s.fl⟩:Stv).slast),asFlat rfl (rI_flat (⟨s.now,s.sure.set (Int.toNat 0) ⟨#[65]⟩,s.last,s.slast,s.fl⟩:Stv).fl),trivial⟩ rfl,(⟨s.now,s.sure.set (Int.toNat 0) ⟨#[65]⟩,s.last,s.slast,s.fl⟩:Stv),0,0,_,(bn_1 hb),(by omega),(by omega),rfl⟩
   ·skip
    have p25:=of_decide_eq_false c25
    refine vc_skip ?_
    refine vc_seq ?_
    refine vc_region hm ?_
    refine gL trivial rfl rfl rfl rfl rfl rfl rfl rfl ?_
    refine gT trivial rfl rfl rfl rfl rfl rfl rfl rfl rfl rfl (Nat.le_of_ble_eq_true rfl) rfl ?_
    refine rg_nil nofun ?_
    refine vc_re (S2:=⟨15,[(4,.pointer (some ⟨8,0,none⟩))],[(1,true,one ⟨[.slice (some ⟨0,k,none⟩) n 0,.int .i64 (p + 1)],83,2⟩),(8,true,one ⟨[.slice (some ⟨9,0,none⟩) s.now.length 0,.slice (some ⟨10,0,none⟩) s.sure.length 0,.slice (some ⟨11,0,none⟩) s.last.length 0,.slice (some ⟨12,0,none⟩) s.slast.length 0,.slice (some ⟨13,0,none⟩) s.fl.length 0],26,5⟩),(9,true,one ⟨hls 0 (rS s.now),9,0⟩),(10,true,one ⟨rS s.sure,9,77⟩),(11,true,one ⟨rI s.last,3,77⟩),(12,true,one ⟨rI s.slast,3,77⟩),(13,true,one ⟨rI s.fl,3,77⟩)]⟩) (re_nil (ms:=[0,1,2,3,4,5,6,7,8,9,10,11,12,13,14]) (C:=999) rfl ⟨⟨⟨rfl,rfl⟩,rfl⟩,trivial⟩ ⟨ktRow rfl rfl rfl (BlkW.refl _) id rfl,ktRow rfl rfl rfl ⟨.inl rfl,fun _=>rfl,.inr (.inl rfl),fun q=>(by cases q)⟩ id rfl,ktFlat (hls_flat (rS_flat _)) rfl (.inl rfl) id rfl,ktFlat (rS_flat _) rfl (.inr (.inr ⟨Nat.le_of_ble_eq_true rfl,Nat.le_of_ble_eq_true rfl,fun q=>absurd q (Nat.succ_ne_zero _)⟩)) id rfl,ktFlat (rI_flat _) rfl (.inr (.inr ⟨Nat.le_of_ble_eq_true rfl,Nat.le_of_ble_eq_true rfl,fun q=>absurd q (Nat.succ_ne_zero _)⟩)) id rfl,ktFlat (rI_flat _) rfl (.inr (.inr ⟨Nat.le_of_ble_eq_true rfl,Nat.le_of_ble_eq_true rfl,fun q=>absurd q (Nat.succ_ne_zero _)⟩)) id rfl,ktFlat (rI_flat _) rfl (.inr (.inr ⟨Nat.le_of_ble_eq_true rfl,Nat.le_of_ble_eq_true rfl,fun q=>absurd q (Nat.succ_ne_zero _)⟩)) id rfl,trivial⟩ rfl rfl (rig_of rfl) rfl) ?_
    refine vc_ret ?_
    exact ⟨mkF (.agg #[.slice (some ⟨7,0,none⟩) s.now.length 0,.slice (some ⟨8,0,none⟩) s.sure.length 0,.slice (some ⟨9,0,none⟩) s.last.length 0,.slice (some ⟨10,0,none⟩) s.slast.length 0,.slice (some ⟨11,0,none⟩) s.fl.length 0]) [0,2,3,4,5,6] [(1,one ⟨[.slice (some ⟨0,k,none⟩) n 0,.int .i64 (p + 1)],83,2⟩)] [(7,one ⟨hls 0 (rS s.now),9,0⟩),(8,one ⟨rS s.sure,9,77⟩),(9,one ⟨rI s.last,3,77⟩),(10,one ⟨rI s.slast,3,77⟩),(11,one ⟨rI s.fl,3,77⟩)],_,endsT [(7,9,one ⟨hls 0 (rS s.now),9,0⟩),(8,10,one ⟨rS s.sure,9,77⟩),(9,11,one ⟨rI s.last,3,77⟩),(10,12,one ⟨rI s.slast,3,77⟩),(11,13,one ⟨rI s.fl,3,77⟩)] (.inr rfl) ((.cell rfl rfl rfl rfl rfl .nil)) rfl rfl ⟨upOne rfl rfl rfl,trivial⟩ ⟨asFlat rfl (hls_flat (rS_flat s.now)),asFlat rfl (rS_flat s.sure),asFlat rfl (rI_flat s.last),asFlat rfl (rI_flat s.slast),asFlat rfl (rI_flat s.fl),trivial⟩ rfl,s,0,0,_,hb,(by omega),(by omega),rfl⟩
  ·skip
   have p20:=ne_of_beq_false c20
   refine vc_seq ?_
   refine vc_region hm ?_
   refine gI trivial rfl rfl rfl rfl rfl rfl ?_
   refine gM trivial (.inr rfl) rfl rfl rfl ?_
   refine rg_nil nofun ?_
   refine cI rfl (fun c29=>?_) (fun c29=>?_)
   ·skip
    have p29:=eq_of_beq c29
    refine vc_seq ?_
    refine vc_region hm ?_
    refine gF trivial rfl rfl rfl rfl rfl ?_
    refine gL trivial rfl rfl rfl rfl rfl rfl rfl rfl ?_
    refine gK trivial rfl rfl rfl rfl rfl rfl rI_nil ?_
    refine gI trivial rfl rfl rfl rfl rfl rfl ?_
    refine rg_nil nofun ?_
    refine cI rfl (fun c34=>?_) (fun c34=>?_)
    ·skip
     have p34:=of_decide_eq_true c34
     refine vc_region hm ?_
     refine gF trivial rfl rfl rfl rfl rfl ?_
     refine gL trivial rfl rfl rfl rfl rfl rfl rfl rfl ?_
     refine gM trivial (.inl rfl) rfl rfl rfl ?_
     refine gR (u':=16) (out:=rI [-1,1000,1001]) trivial rfl rfl rfl rfl rfl rfl rfl rfl rfl rfl rfl rfl rfl rfl ?_
     obtain ⟨E8,hE8,x8,x8a,x8b,rfl⟩:=num_c (k:=k) (t0:=t0) (p:=p + 1) hl hn (by omega) (by omega) (L:=[-1,1000,1001]) (a:=-1) (b:=1001) (by decide) (by decide)
     refine gCF (ups':=[(1,one ⟨[.slice (some ⟨0,k,none⟩) n 0,.int .i64 (p + 1 + 1)],83,2⟩)]) (as':=[]) (v':=.int .i64 x8) 16 [0,1,15] hE8 trivial rfl rfl rfl rfl ⟨rCode rfl rfl,rCells rfl ⟨rfl,rfl,.inr rfl⟩ rfl,rFlat (rI_flat _) rfl (.inl rfl) rfl,trivial⟩ ⟨frOne rfl rfl,trivial⟩ trivial rfl rfl (ho1 ⟨_,rfl⟩) (hu1 rfl) rfl rfl ?_
     refine gX trivial rfl rfl rfl rfl rfl rfl rfl rfl (by omega) (by omega) rI_ne ?_
     refine gT trivial rfl rfl rfl rfl rfl rfl rfl rfl rfl rfl (kI (by omega) (by omega)) (sI (by omega) (by omega)) ?_
     refine rg_nil (fun _=>by kernel_rfl) ?_
     refine vc_seq ?_
     refine vc_region hm ?_
     refine gL trivial rfl rfl rfl rfl rfl rfl rfl rfl ?_
     refine gT trivial rfl rfl rfl rfl rfl rfl rfl rfl rfl rfl (Nat.le_of_ble_eq_true rfl) rfl ?_
     refine rg_nil nofun ?_
     refine vc_re (S2:=⟨16,[(4,.pointer (some ⟨8,0,none⟩))],[(1,true,one ⟨[.slice (some ⟨0,k,none⟩) n 0,.int .i64 (p + 1 + 1)],83,2⟩),(8,true,one ⟨[.slice (some ⟨9,0,none⟩) s.now.length 0,.slice (some ⟨10,0,none⟩) s.sure.length 0,.slice (some ⟨11,0,none⟩) s.last.length 0,.slice (some ⟨12,0,none⟩) s.slast.length 0,.slice (some ⟨13,0,none⟩) s.fl.length 0],26,5⟩),(9,true,one ⟨hls 0 (rS (⟨s.now,s.sure,s.last.set (Int.toNat 0) x8,s.slast,s.fl⟩:Stv).now),9,0⟩),(10,true,one ⟨rS (⟨s.now,s.sure,s.last.set (Int.toNat 0) x8,s.slast,s.fl⟩:Stv).sure,9,77⟩),(11,true,one ⟨rI (⟨s.now,s.sure,s.last.set (Int.toNat 0) x8,s.slast,s.fl⟩:Stv).last,3,77⟩),(12,true,one ⟨rI (⟨s.now,s.sure,s.last.set (Int.toNat 0) x8,s.slast,s.fl⟩:Stv).slast,3,77⟩),(13,true,one ⟨rI (⟨s.now,s.sure,s.last.set (Int.toNat 0) x8,s.slast,s.fl⟩:Stv).fl,3,77⟩)]⟩) (re_nil (ms:=[0,1,2,3,4,5,6,7,8,9,10,11,12,13,14,15]) (C:=999) rfl ⟨⟨⟨rfl,rfl⟩,rfl⟩,trivial⟩ ⟨ktRow rfl rfl rfl (BlkW.refl _) id rfl,ktRow rfl rfl rfl ⟨.inl rfl,fun _=>rfl,.inr (.inl rfl),fun q=>(by cases q)⟩ id rfl,ktFlat (hls_flat (rS_flat _)) rfl (.inl rfl) id rfl,ktFlat (rS_flat _) rfl (.inr (.inr ⟨Nat.le_of_ble_eq_true rfl,Nat.le_of_ble_eq_true rfl,fun q=>absurd q (Nat.succ_ne_zero _)⟩)) id rfl,ktFlat (rI_flat _) rfl (.inr (.inr ⟨Nat.le_of_ble_eq_true rfl,Nat.le_of_ble_eq_true rfl,fun q=>absurd q (Nat.succ_ne_zero _)⟩)) id rfl,ktFlat (rI_flat _) rfl (.inr (.inr ⟨Nat.le_of_ble_eq_true rfl,Nat.le_of_ble_eq_true rfl,fun q=>absurd q (Nat.succ_ne_zero _)⟩)) id rfl,ktFlat (rI_flat _) rfl (.inr (.inr ⟨Nat.le_of_ble_eq_true rfl,Nat.le_of_ble_eq_true rfl,fun q=>absurd q (Nat.succ_ne_zero _)⟩)) id rfl,trivial⟩ rfl rfl (rig_of rfl) rfl) ?_
     refine vc_ret ?_
     exact ⟨mkF (.agg #[.slice (some ⟨7,0,none⟩) (⟨s.now,s.sure,s.last.set (Int.toNat 0) x8,s.slast,s.fl⟩:Stv).now.length 0,.slice (some ⟨8,0,none⟩) (⟨s.now,s.sure,s.last.set (Int.toNat 0) x8,s.slast,s.fl⟩:Stv).sure.length 0,.slice (some ⟨9,0,none⟩) (⟨s.now,s.sure,s.last.set (Int.toNat 0) x8,s.slast,s.fl⟩:Stv).last.length 0,.slice (some ⟨10,0,none⟩) (⟨s.now,s.sure,s.last.set (Int.toNat 0) x8,s.slast,s.fl⟩:Stv).slast.length 0,.slice (some ⟨11,0,none⟩) (⟨s.now,s.sure,s.last.set (Int.toNat 0) x8,s.slast,s.fl⟩:Stv).fl.length 0]) [0,2,3,4,5,6] [(1,one ⟨[.slice (some ⟨0,k,none⟩) n 0,.int .i64 (p + 1 + 1)],83,2⟩)] [(7,one ⟨hls 0 (rS (⟨s.now,s.sure,s.last.set (Int.toNat 0) x8,s.slast,s.fl⟩:Stv).now),9,0⟩),(8,one ⟨rS (⟨s.now,s.sure,s.last.set (Int.toNat 0) x8,s.slast,s.fl⟩:Stv).sure,9,77⟩),(9,one ⟨rI (⟨s.now,s.sure,s.last.set (Int.toNat 0) x8,s.slast,s.fl⟩:Stv).last,3,77⟩),(10,one ⟨rI (⟨s.now,s.sure,s.last.set (Int.toNat 0) x8,s.slast,s.fl⟩:Stv).slast,3,77⟩),(11,one ⟨rI (⟨s.now,s.sure,s.last.set (Int.toNat 0) x8,s.slast,s.fl⟩:Stv).fl,3,77⟩)],_,endsT [(7,9,one ⟨hls 0 (rS (⟨s.now,s.sure,s.last.set (Int.toNat 0) x8,s.slast,s.fl⟩:Stv).now),9,0⟩),(8,10,one ⟨rS (⟨s.now,s.sure,s.last.set (Int.toNat 0) x8,s.slast,s.fl⟩:Stv).sure,9,77⟩),(9,11,one ⟨rI (⟨s.now,s.sure,s.last.set (Int.toNat 0) x8,s.slast,s.fl⟩:Stv).last,3,77⟩),(10,12,one ⟨rI (⟨s.now,s.sure,s.last.set (Int.toNat 0) x8,s.slast,s.fl⟩:Stv).slast,3,77⟩),(11,13,one ⟨rI (⟨s.now,s.sure,s.last.set (Int.toNat 0) x8,s.slast,s.fl⟩:Stv).fl,3,77⟩)] (.inr rfl) ((.cell rfl rfl rfl rfl rfl .nil)) (by rw [List.length_set];rfl) rfl ⟨upOne rfl rfl rfl,trivial⟩ ⟨asFlat rfl (hls_flat (rS_flat (⟨s.now,s.sure,s.last.set (Int.toNat 0) x8,s.slast,s.fl⟩:Stv).now)),asFlat rfl (rS_flat (⟨s.now,s.sure,s.last.set (Int.toNat 0) x8,s.slast,s.fl⟩:Stv).sure),asFlat rfl (rI_flat (⟨s.now,s.sure,s.last.set (Int.toNat 0) x8,s.slast,s.fl⟩:Stv).last),asFlat rfl (rI_flat (⟨s.now,s.sure,s.last.set (Int.toNat 0) x8,s.slast,s.fl⟩:Stv).slast),asFlat rfl (rI_flat (⟨s.now,s.sure,s.last.set (Int.toNat 0) x8,s.slast,s.fl⟩:Stv).fl),trivial⟩ rfl,(⟨s.now,s.sure,s.last.set (Int.toNat 0) x8,s.slast,s.fl⟩:Stv),0,0,_,(bn_2 hb (by omega)),(by omega),(by omega),rfl⟩
    ·skip
     have p34:=of_decide_eq_false c34
     refine vc_skip ?_
     refine vc_seq ?_
     refine vc_region hm ?_
     refine gL trivial rfl rfl rfl rfl rfl rfl rfl rfl ?_
     refine gT trivial rfl rfl rfl rfl rfl rfl rfl rfl rfl rfl (Nat.le_of_ble_eq_true rfl) rfl ?_
     refine rg_nil nofun ?_
     refine vc_re (S2:=⟨15,[(4,.pointer (some ⟨8,0,none⟩))],[(1,true,one ⟨[.slice (some ⟨0,k,none⟩) n 0,.int .i64 (p + 1)],83,2⟩),(8,true,one ⟨[.slice (some ⟨9,0,none⟩) s.now.length 0,.slice (some ⟨10,0,none⟩) s.sure.length 0,.slice (some ⟨11,0,none⟩) s.last.length 0,.slice (some ⟨12,0,none⟩) s.slast.length 0,.slice (some ⟨13,0,none⟩) s.fl.length 0],26,5⟩),(9,true,one ⟨hls 0 (rS s.now),9,0⟩),(10,true,one ⟨rS s.sure,9,77⟩),(11,true,one ⟨rI s.last,3,77⟩),(12,true,one ⟨rI s.slast,3,77⟩),(13,true,one ⟨rI s.fl,3,77⟩)]⟩) (re_nil (ms:=[0,1,2,3,4,5,6,7,8,9,10,11,12,13,14]) (C:=999) rfl ⟨⟨⟨rfl,rfl⟩,rfl⟩,trivial⟩ ⟨ktRow rfl rfl rfl (BlkW.refl _) id rfl,ktRow rfl rfl rfl ⟨.inl rfl,fun _=>rfl,.inr (.inl rfl),fun q=>(by cases q)⟩ id rfl,ktFlat (hls_flat (rS_flat _)) rfl (.inl rfl) id rfl,ktFlat (rS_flat _) rfl (.inr (.inr ⟨Nat.le_of_ble_eq_true rfl,Nat.le_of_ble_eq_true rfl,fun q=>absurd q (Nat.succ_ne_zero _)⟩)) id rfl,ktFlat (rI_flat _) rfl (.inr (.inr ⟨Nat.le_of_ble_eq_true rfl,Nat.le_of_ble_eq_true rfl,fun q=>absurd q (Nat.succ_ne_zero _)⟩)) id rfl,ktFlat (rI_flat _) rfl (.inr (.inr ⟨Nat.le_of_ble_eq_true rfl,Nat.le_of_ble_eq_true rfl,fun q=>absurd q (Nat.succ_ne_zero _)⟩)) id rfl,ktFlat (rI_flat _) rfl (.inr (.inr ⟨Nat.le_of_ble_eq_true rfl,Nat.le_of_ble_eq_true rfl,fun q=>absurd q (Nat.succ_ne_zero _)⟩)) id rfl,trivial⟩ rfl rfl (rig_of rfl) rfl) ?_
     refine vc_ret ?_
     exact ⟨mkF (.agg #[.slice (some ⟨7,0,none⟩) s.now.length 0,.slice (some ⟨8,0,none⟩) s.sure.length 0,.slice (some ⟨9,0,none⟩) s.last.length 0,.slice (some ⟨10,0,none⟩) s.slast.length 0,.slice (some ⟨11,0,none⟩) s.fl.length 0]) [0,2,3,4,5,6] [(1,one ⟨[.slice (some ⟨0,k,none⟩) n 0,.int .i64 (p + 1)],83,2⟩)] [(7,one ⟨hls 0 (rS s.now),9,0⟩),(8,one ⟨rS s.sure,9,77⟩),(9,one ⟨rI s.last,3,77⟩),(10,one ⟨rI s.slast,3,77⟩),(11,one ⟨rI s.fl,3,77⟩)],_,endsT [(7,9,one ⟨hls 0 (rS s.now),9,0⟩),(8,10,one ⟨rS s.sure,9,77⟩),(9,11,one ⟨rI s.last,3,77⟩),(10,12,one ⟨rI s.slast,3,77⟩),(11,13,one ⟨rI s.fl,3,77⟩)] (.inr rfl) ((.cell rfl rfl rfl rfl rfl .nil)) rfl rfl ⟨upOne rfl rfl rfl,trivial⟩ ⟨asFlat rfl (hls_flat (rS_flat s.now)),asFlat rfl (rS_flat s.sure),asFlat rfl (rI_flat s.last),asFlat rfl (rI_flat s.slast),asFlat rfl (rI_flat s.fl),trivial⟩ rfl,s,0,0,_,hb,(by omega),(by omega),rfl⟩
   ·skip
    have p29:=ne_of_beq_false c29
    refine vc_seq ?_
    refine vc_region hm ?_
    refine gI trivial rfl rfl rfl rfl rfl rfl ?_
    refine gM trivial (.inr rfl) rfl rfl rfl ?_
    refine rg_nil nofun ?_
    refine cI rfl (fun c41=>?_) (fun c41=>?_)
    ·skip
     have p41:=eq_of_beq c41
     refine vc_seq ?_
     refine vc_region hm ?_
     refine gF trivial rfl rfl rfl rfl rfl ?_
     refine gL trivial rfl rfl rfl rfl rfl rfl rfl rfl ?_
     refine gK trivial rfl rfl rfl rfl rfl rfl rI_nil ?_
     refine gI trivial rfl rfl rfl rfl rfl rfl ?_
     refine gM trivial (.inl rfl) rfl rfl rfl ?_
     refine gI2 (d:=47) rfl (fun c47=>?_) (fun c47=>?_)
     ·skip
      have p47:=of_decide_eq_true c47
      refine gF ⟨_,_,rfl,rfl,c47⟩ rfl rfl rfl rfl rfl ?_
      refine gL ⟨_,_,rfl,rfl,c47⟩ rfl rfl rfl rfl rfl rfl rfl rfl ?_
      refine gK ⟨_,_,rfl,rfl,c47⟩ rfl rfl rfl rfl rfl rfl rI_nil ?_
      refine gI ⟨_,_,rfl,rfl,c47⟩ rfl rfl rfl rfl rfl rfl ?_
      refine gPT trivial rfl rfl c47 rfl rfl rfl ?_
      refine rg_nil nofun ?_
      refine cI rfl (fun c52=>?_) (fun c52=>?_)
      ·skip
       have p52:=of_decide_eq_true c52
       refine vc_region hm ?_
       refine gF trivial rfl rfl rfl rfl rfl ?_
       refine gL trivial rfl rfl rfl rfl rfl rfl rfl rfl ?_
       refine gF trivial rfl rfl rfl rfl rfl ?_
       refine gL trivial rfl rfl rfl rfl rfl rfl rfl rfl ?_
       refine gX trivial rfl rfl rfl rfl rfl rfl rfl rfl (by omega) (by omega) rI_ne ?_
       refine gL trivial rfl rfl rfl rfl rfl rfl rfl (lI (by omega) (by omega)) ?_
       refine gM trivial (.inl rfl) rfl rfl rfl ?_
       refine gR (u':=16) (out:=rI [1,-1]) trivial rfl rfl rfl rfl rfl rfl rfl rfl rfl rfl rfl rfl rfl rfl ?_
       obtain ⟨E12,hE12,x12,x12a,x12b,rfl⟩:=num_c (k:=k) (t0:=t0) (p:=p + 1) hl hn (by omega) (by omega) (L:=[1,-1]) (a:=-1) (b:=1) (by decide) (by decide)
       refine gCF (ups':=[(1,one ⟨[.slice (some ⟨0,k,none⟩) n 0,.int .i64 (p + 1 + 1)],83,2⟩)]) (as':=[]) (v':=.int .i64 x12) 16 [0,1,15] hE12 trivial rfl rfl rfl rfl ⟨rCode rfl rfl,rCells rfl ⟨rfl,rfl,.inr rfl⟩ rfl,rFlat (rI_flat _) rfl (.inl rfl) rfl,trivial⟩ ⟨frOne rfl rfl,trivial⟩ trivial rfl rfl (ho1 ⟨_,rfl⟩) (hu1 rfl) rfl rfl ?_
       refine gA trivial rfl rfl rfl rfl rfl rfl (by have:=at_I hb.l (i:=1) (by omega) (by omega);omega) ?_
       refine gX trivial rfl rfl rfl rfl rfl rfl rfl rfl (by omega) (by omega) rI_ne ?_
       refine gT trivial rfl rfl rfl rfl rfl rfl rfl rfl rfl rfl (kI (by omega) (by omega)) (sI (by omega) (by omega)) ?_
       refine rg_nil (fun _=>by kernel_rfl) ?_
       refine vc_seq ?_
       refine vc_region hm ?_
       refine gL trivial rfl rfl rfl rfl rfl rfl rfl rfl ?_
       refine gT trivial rfl rfl rfl rfl rfl rfl rfl rfl rfl rfl (Nat.le_of_ble_eq_true rfl) rfl ?_
       refine rg_nil nofun ?_
       refine vc_re (S2:=⟨16,[(4,.pointer (some ⟨8,0,none⟩))],[(1,true,one ⟨[.slice (some ⟨0,k,none⟩) n 0,.int .i64 (p + 1 + 1)],83,2⟩),(8,true,one ⟨[.slice (some ⟨9,0,none⟩) s.now.length 0,.slice (some ⟨10,0,none⟩) s.sure.length 0,.slice (some ⟨11,0,none⟩) s.last.length 0,.slice (some ⟨12,0,none⟩) s.slast.length 0,.slice (some ⟨13,0,none⟩) s.fl.length 0],26,5⟩),(9,true,one ⟨hls 0 (rS (⟨s.now,s.sure,s.last,s.slast.set (Int.toNat 1) (at_ s.last 1 + x12),s.fl⟩:Stv).now),9,0⟩),(10,true,one ⟨rS (⟨s.now,s.sure,s.last,s.slast.set (Int.toNat 1) (at_ s.last 1 + x12),s.fl⟩:Stv).sure,9,77⟩),(11,true,one ⟨rI (⟨s.now,s.sure,s.last,s.slast.set (Int.toNat 1) (at_ s.last 1 + x12),s.fl⟩:Stv).last,3,77⟩),(12,true,one ⟨rI (⟨s.now,s.sure,s.last,s.slast.set (Int.toNat 1) (at_ s.last 1 + x12),s.fl⟩:Stv).slast,3,77⟩),(13,true,one ⟨rI (⟨s.now,s.sure,s.last,s.slast.set (Int.toNat 1) (at_ s.last 1 + x12),s.fl⟩:Stv).fl,3,77⟩)]⟩) (re_nil (ms:=[0,1,2,3,4,5,6,7,8,9,10,11,12,13,14,15]) (C:=999) rfl ⟨⟨⟨rfl,rfl⟩,rfl⟩,trivial⟩ ⟨ktRow rfl rfl rfl (BlkW.refl _) id rfl,ktRow rfl rfl rfl ⟨.inl rfl,fun _=>rfl,.inr (.inl rfl),fun q=>(by cases q)⟩ id rfl,ktFlat (hls_flat (rS_flat _)) rfl (.inl rfl) id rfl,ktFlat (rS_flat _) rfl (.inr (.inr ⟨Nat.le_of_ble_eq_true rfl,Nat.le_of_ble_eq_true rfl,fun q=>absurd q (Nat.succ_ne_zero _)⟩)) id rfl,ktFlat (rI_flat _) rfl (.inr (.inr ⟨Nat.le_of_ble_eq_true rfl,Nat.le_of_ble_eq_true rfl,fun q=>absurd q (Nat.succ_ne_zero _)⟩)) id rfl,ktFlat (rI_flat _) rfl (.inr (.inr ⟨Nat.le_of_ble_eq_true rfl,Nat.le_of_ble_eq_true rfl,fun q=>absurd q (Nat.succ_ne_zero _)⟩)) id rfl,ktFlat (rI_flat _) rfl (.inr (.inr ⟨Nat.le_of_ble_eq_true rfl,Nat.le_of_ble_eq_true rfl,fun q=>absurd q (Nat.succ_ne_zero _)⟩)) id rfl,trivial⟩ rfl rfl (rig_of rfl) rfl) ?_
       refine vc_ret ?_
       exact ⟨mkF (.agg #[.slice (some ⟨7,0,none⟩) (⟨s.now,s.sure,s.last,s.slast.set (Int.toNat 1) (at_ s.last 1 + x12),s.fl⟩:Stv).now.length 0,.slice (some ⟨8,0,none⟩) (⟨s.now,s.sure,s.last,s.slast.set (Int.toNat 1) (at_ s.last 1 + x12),s.fl⟩:Stv).sure.length 0,.slice (some ⟨9,0,none⟩) (⟨s.now,s.sure,s.last,s.slast.set (Int.toNat 1) (at_ s.last 1 + x12),s.fl⟩:Stv).last.length 0,.slice (some ⟨10,0,none⟩) (⟨s.now,s.sure,s.last,s.slast.set (Int.toNat 1) (at_ s.last 1 + x12),s.fl⟩:Stv).slast.length 0,.slice (some ⟨11,0,none⟩) (⟨s.now,s.sure,s.last,s.slast.set (Int.toNat 1) (at_ s.last 1 + x12),s.fl⟩:Stv).fl.length 0]) [0,2,3,4,5,6] [(1,one ⟨[.slice (some ⟨0,k,none⟩) n 0,.int .i64 (p + 1 + 1)],83,2⟩)] [(7,one ⟨hls 0 (rS (⟨s.now,s.sure,s.last,s.slast.set (Int.toNat 1) (at_ s.last 1 + x12),s.fl⟩:Stv).now),9,0⟩),(8,one ⟨rS (⟨s.now,s.sure,s.last,s.slast.set (Int.toNat 1) (at_ s.last 1 + x12),s.fl⟩:Stv).sure,9,77⟩),(9,one ⟨rI (⟨s.now,s.sure,s.last,s.slast.set (Int.toNat 1) (at_ s.last 1 + x12),s.fl⟩:Stv).last,3,77⟩),(10,one ⟨rI (⟨s.now,s.sure,s.last,s.slast.set (Int.toNat 1) (at_ s.last 1 + x12),s.fl⟩:Stv).slast,3,77⟩),(11,one ⟨rI (⟨s.now,s.sure,s.last,s.slast.set (Int.toNat 1) (at_ s.last 1 + x12),s.fl⟩:Stv).fl,3,77⟩)],_,endsT [(7,9,one ⟨hls 0 (rS (⟨s.now,s.sure,s.last,s.slast.set (Int.toNat 1) (at_ s.last 1 + x12),s.fl⟩:Stv).now),9,0⟩),(8,10,one ⟨rS (⟨s.now,s.sure,s.last,s.slast.set (Int.toNat 1) (at_ s.last 1 + x12),s.fl⟩:Stv).sure,9,77⟩),(9,11,one ⟨rI (⟨s.now,s.sure,s.last,s.slast.set (Int.toNat 1) (at_ s.last 1 + x12),s.fl⟩:Stv).last,3,77⟩),(10,12,one ⟨rI (⟨s.now,s.sure,s.last,s.slast.set (Int.toNat 1) (at_ s.last 1 + x12),s.fl⟩:Stv).slast,3,77⟩),(11,13,one ⟨rI (⟨s.now,s.sure,s.last,s.slast.set (Int.toNat 1) (at_ s.last 1 + x12),s.fl⟩:Stv).fl,3,77⟩)] (.inr rfl) ((.cell rfl rfl rfl rfl rfl .nil)) (by rw [List.length_set];rfl) rfl ⟨upOne rfl rfl rfl,trivial⟩ ⟨asFlat rfl (hls_flat (rS_flat (⟨s.now,s.sure,s.last,s.slast.set (Int.toNat 1) (at_ s.last 1 + x12),s.fl⟩:Stv).now)),asFlat rfl (rS_flat (⟨s.now,s.sure,s.last,s.slast.set (Int.toNat 1) (at_ s.last 1 + x12),s.fl⟩:Stv).sure),asFlat rfl (rI_flat (⟨s.now,s.sure,s.last,s.slast.set (Int.toNat 1) (at_ s.last 1 + x12),s.fl⟩:Stv).last),asFlat rfl (rI_flat (⟨s.now,s.sure,s.last,s.slast.set (Int.toNat 1) (at_ s.last 1 + x12),s.fl⟩:Stv).slast),asFlat rfl (rI_flat (⟨s.now,s.sure,s.last,s.slast.set (Int.toNat 1) (at_ s.last 1 + x12),s.fl⟩:Stv).fl),trivial⟩ rfl,(⟨s.now,s.sure,s.last,s.slast.set (Int.toNat 1) (at_ s.last 1 + x12),s.fl⟩:Stv),0,0,_,(bn_3 hb),(by omega),(by omega),rfl⟩
      ·skip
       have p52:=of_decide_eq_false c52
       refine vc_skip ?_
       refine vc_seq ?_
       refine vc_region hm ?_
       refine gL trivial rfl rfl rfl rfl rfl rfl rfl rfl ?_
       refine gT trivial rfl rfl rfl rfl rfl rfl rfl rfl rfl rfl (Nat.le_of_ble_eq_true rfl) rfl ?_
       refine rg_nil nofun ?_
       refine vc_re (S2:=⟨15,[(4,.pointer (some ⟨8,0,none⟩))],[(1,true,one ⟨[.slice (some ⟨0,k,none⟩) n 0,.int .i64 (p + 1)],83,2⟩),(8,true,one ⟨[.slice (some ⟨9,0,none⟩) s.now.length 0,.slice (some ⟨10,0,none⟩) s.sure.length 0,.slice (some ⟨11,0,none⟩) s.last.length 0,.slice (some ⟨12,0,none⟩) s.slast.length 0,.slice (some ⟨13,0,none⟩) s.fl.length 0],26,5⟩),(9,true,one ⟨hls 0 (rS s.now),9,0⟩),(10,true,one ⟨rS s.sure,9,77⟩),(11,true,one ⟨rI s.last,3,77⟩),(12,true,one ⟨rI s.slast,3,77⟩),(13,true,one ⟨rI s.fl,3,77⟩)]⟩) (re_nil (ms:=[0,1,2,3,4,5,6,7,8,9,10,11,12,13,14]) (C:=999) rfl ⟨⟨⟨rfl,rfl⟩,rfl⟩,trivial⟩ ⟨ktRow rfl rfl rfl (BlkW.refl _) id rfl,ktRow rfl rfl rfl ⟨.inl rfl,fun _=>rfl,.inr (.inl rfl),fun q=>(by cases q)⟩ id rfl,ktFlat (hls_flat (rS_flat _)) rfl (.inl rfl) id rfl,ktFlat (rS_flat _) rfl (.inr (.inr ⟨Nat.le_of_ble_eq_true rfl,Nat.le_of_ble_eq_true rfl,fun q=>absurd q (Nat.succ_ne_zero _)⟩)) id rfl,ktFlat (rI_flat _) rfl (.inr (.inr ⟨Nat.le_of_ble_eq_true rfl,Nat.le_of_ble_eq_true rfl,fun q=>absurd q (Nat.succ_ne_zero _)⟩)) id rfl,ktFlat (rI_flat _) rfl (.inr (.inr ⟨Nat.le_of_ble_eq_true rfl,Nat.le_of_ble_eq_true rfl,fun q=>absurd q (Nat.succ_ne_zero _)⟩)) id rfl,ktFlat (rI_flat _) rfl (.inr (.inr ⟨Nat.le_of_ble_eq_true rfl,Nat.le_of_ble_eq_true rfl,fun q=>absurd q (Nat.succ_ne_zero _)⟩)) id rfl,trivial⟩ rfl rfl (rig_of rfl) rfl) ?_
       refine vc_ret ?_
       exact ⟨mkF (.agg #[.slice (some ⟨7,0,none⟩) s.now.length 0,.slice (some ⟨8,0,none⟩) s.sure.length 0,.slice (some ⟨9,0,none⟩) s.last.length 0,.slice (some ⟨10,0,none⟩) s.slast.length 0,.slice (some ⟨11,0,none⟩) s.fl.length 0]) [0,2,3,4,5,6] [(1,one ⟨[.slice (some ⟨0,k,none⟩) n 0,.int .i64 (p + 1)],83,2⟩)] [(7,one ⟨hls 0 (rS s.now),9,0⟩),(8,one ⟨rS s.sure,9,77⟩),(9,one ⟨rI s.last,3,77⟩),(10,one ⟨rI s.slast,3,77⟩),(11,one ⟨rI s.fl,3,77⟩)],_,endsT [(7,9,one ⟨hls 0 (rS s.now),9,0⟩),(8,10,one ⟨rS s.sure,9,77⟩),(9,11,one ⟨rI s.last,3,77⟩),(10,12,one ⟨rI s.slast,3,77⟩),(11,13,one ⟨rI s.fl,3,77⟩)] (.inr rfl) ((.cell rfl rfl rfl rfl rfl .nil)) rfl rfl ⟨upOne rfl rfl rfl,trivial⟩ ⟨asFlat rfl (hls_flat (rS_flat s.now)),asFlat rfl (rS_flat s.sure),asFlat rfl (rI_flat s.last),asFlat rfl (rI_flat s.slast),asFlat rfl (rI_flat s.fl),trivial⟩ rfl,s,0,0,_,hb,(by omega),(by omega),rfl⟩
     ·skip
      have p47:=of_decide_eq_false c47
      refine gO ⟨_,_,rfl,rfl,c47⟩ rfl rfl ?_
      refine gO ⟨_,_,rfl,rfl,c47⟩ rfl rfl ?_
      refine gO ⟨_,_,rfl,rfl,c47⟩ rfl rfl ?_
      refine gO ⟨_,_,rfl,rfl,c47⟩ rfl rfl ?_
      refine gPF trivial rfl rfl c47 rfl rfl rfl ?_
      refine rg_nil nofun ?_
      refine cF rfl rfl ?_
      refine vc_skip ?_
      refine vc_seq ?_
      refine vc_region hm ?_
      refine gL trivial rfl rfl rfl rfl rfl rfl rfl rfl ?_
      refine gT trivial rfl rfl rfl rfl rfl rfl rfl rfl rfl rfl (Nat.le_of_ble_eq_true rfl) rfl ?_
      refine rg_nil nofun ?_
      refine vc_re (S2:=⟨15,[(4,.pointer (some ⟨8,0,none⟩))],[(1,true,one ⟨[.slice (some ⟨0,k,none⟩) n 0,.int .i64 (p + 1)],83,2⟩),(8,true,one ⟨[.slice (some ⟨9,0,none⟩) s.now.length 0,.slice (some ⟨10,0,none⟩) s.sure.length 0,.slice (some ⟨11,0,none⟩) s.last.length 0,.slice (some ⟨12,0,none⟩) s.slast.length 0,.slice (some ⟨13,0,none⟩) s.fl.length 0],26,5⟩),(9,true,one ⟨hls 0 (rS s.now),9,0⟩),(10,true,one ⟨rS s.sure,9,77⟩),(11,true,one ⟨rI s.last,3,77⟩),(12,true,one ⟨rI s.slast,3,77⟩),(13,true,one ⟨rI s.fl,3,77⟩)]⟩) (re_nil (ms:=[0,1,2,3,4,5,6,7,8,9,10,11,12,13,14]) (C:=999) rfl ⟨⟨⟨rfl,rfl⟩,rfl⟩,trivial⟩ ⟨ktRow rfl rfl rfl (BlkW.refl _) id rfl,ktRow rfl rfl rfl ⟨.inl rfl,fun _=>rfl,.inr (.inl rfl),fun q=>(by cases q)⟩ id rfl,ktFlat (hls_flat (rS_flat _)) rfl (.inl rfl) id rfl,ktFlat (rS_flat _) rfl (.inr (.inr ⟨Nat.le_of_ble_eq_true rfl,Nat.le_of_ble_eq_true rfl,fun q=>absurd q (Nat.succ_ne_zero _)⟩)) id rfl,ktFlat (rI_flat _) rfl (.inr (.inr ⟨Nat.le_of_ble_eq_true rfl,Nat.le_of_ble_eq_true rfl,fun q=>absurd q (Nat.succ_ne_zero _)⟩)) id rfl,ktFlat (rI_flat _) rfl (.inr (.inr ⟨Nat.le_of_ble_eq_true rfl,Nat.le_of_ble_eq_true rfl,fun q=>absurd q (Nat.succ_ne_zero _)⟩)) id rfl,ktFlat (rI_flat _) rfl (.inr (.inr ⟨Nat.le_of_ble_eq_true rfl,Nat.le_of_ble_eq_true rfl,fun q=>absurd q (Nat.succ_ne_zero _)⟩)) id rfl,trivial⟩ rfl rfl (rig_of rfl) rfl) ?_
      refine vc_ret ?_
      exact ⟨mkF (.agg #[.slice (some ⟨7,0,none⟩) s.now.length 0,.slice (some ⟨8,0,none⟩) s.sure.length 0,.slice (some ⟨9,0,none⟩) s.last.length 0,.slice (some ⟨10,0,none⟩) s.slast.length 0,.slice (some ⟨11,0,none⟩) s.fl.length 0]) [0,2,3,4,5,6] [(1,one ⟨[.slice (some ⟨0,k,none⟩) n 0,.int .i64 (p + 1)],83,2⟩)] [(7,one ⟨hls 0 (rS s.now),9,0⟩),(8,one ⟨rS s.sure,9,77⟩),(9,one ⟨rI s.last,3,77⟩),(10,one ⟨rI s.slast,3,77⟩),(11,one ⟨rI s.fl,3,77⟩)],_,endsT [(7,9,one ⟨hls 0 (rS s.now),9,0⟩),(8,10,one ⟨rS s.sure,9,77⟩),(9,11,one ⟨rI s.last,3,77⟩),(10,12,one ⟨rI s.slast,3,77⟩),(11,13,one ⟨rI s.fl,3,77⟩)] (.inr rfl) ((.cell rfl rfl rfl rfl rfl .nil)) rfl rfl ⟨upOne rfl rfl rfl,trivial⟩ ⟨asFlat rfl (hls_flat (rS_flat s.now)),asFlat rfl (rS_flat s.sure),asFlat rfl (rI_flat s.last),asFlat rfl (rI_flat s.slast),asFlat rfl (rI_flat s.fl),trivial⟩ rfl,s,0,0,_,hb,(by omega),(by omega),rfl⟩
    ·skip
     have p41:=ne_of_beq_false c41
     refine vc_seq ?_
     refine vc_region hm ?_
     refine gI trivial rfl rfl rfl rfl rfl rfl ?_
     refine gM trivial (.inr rfl) rfl rfl rfl ?_
     refine rg_nil nofun ?_
     refine cI rfl (fun c64=>?_) (fun c64=>?_)
     ·skip
      have p64:=eq_of_beq c64
      refine vc_seq ?_
      refine vc_region hm ?_
      refine gF trivial rfl rfl rfl rfl rfl ?_
      refine gL trivial rfl rfl rfl rfl rfl rfl rfl rfl ?_
      refine gK trivial rfl rfl rfl rfl rfl rfl rI_nil ?_
      refine gI trivial rfl rfl rfl rfl rfl rfl ?_
      refine rg_nil nofun ?_
      refine cI rfl (fun c69=>?_) (fun c69=>?_)
      ·skip
       have p69:=of_decide_eq_true c69
       refine vc_region hm ?_
       refine gF trivial rfl rfl rfl rfl rfl ?_
       refine gL trivial rfl rfl rfl rfl rfl rfl rfl rfl ?_
       refine gM trivial (.inl rfl) rfl rfl rfl ?_
       refine gR (u':=16) (out:=rI [-1,100,101]) trivial rfl rfl rfl rfl rfl rfl rfl rfl rfl rfl rfl rfl rfl rfl ?_
       obtain ⟨E15,hE15,x15,x15a,x15b,rfl⟩:=num_c (k:=k) (t0:=t0) (p:=p + 1) hl hn (by omega) (by omega) (L:=[-1,100,101]) (a:=-1) (b:=101) (by decide) (by decide)
       refine gCF (ups':=[(1,one ⟨[.slice (some ⟨0,k,none⟩) n 0,.int .i64 (p + 1 + 1)],83,2⟩)]) (as':=[]) (v':=.int .i64 x15) 16 [0,1,15] hE15 trivial rfl rfl rfl rfl ⟨rCode rfl rfl,rCells rfl ⟨rfl,rfl,.inr rfl⟩ rfl,rFlat (rI_flat _) rfl (.inl rfl) rfl,trivial⟩ ⟨frOne rfl rfl,trivial⟩ trivial rfl rfl (ho1 ⟨_,rfl⟩) (hu1 rfl) rfl rfl ?_
       refine gX trivial rfl rfl rfl rfl rfl rfl rfl rfl (by omega) (by omega) rI_ne ?_
       refine gT trivial rfl rfl rfl rfl rfl rfl rfl rfl rfl rfl (kI (by omega) (by omega)) (sI (by omega) (by omega)) ?_
       refine rg_nil (fun _=>by kernel_rfl) ?_
       refine vc_seq ?_
       refine vc_region hm ?_
       refine gL trivial rfl rfl rfl rfl rfl rfl rfl rfl ?_
       refine gT trivial rfl rfl rfl rfl rfl rfl rfl rfl rfl rfl (Nat.le_of_ble_eq_true rfl) rfl ?_
       refine rg_nil nofun ?_
       refine vc_re (S2:=⟨16,[(4,.pointer (some ⟨8,0,none⟩))],[(1,true,one ⟨[.slice (some ⟨0,k,none⟩) n 0,.int .i64 (p + 1 + 1)],83,2⟩),(8,true,one ⟨[.slice (some ⟨9,0,none⟩) s.now.length 0,.slice (some ⟨10,0,none⟩) s.sure.length 0,.slice (some ⟨11,0,none⟩) s.last.length 0,.slice (some ⟨12,0,none⟩) s.slast.length 0,.slice (some ⟨13,0,none⟩) s.fl.length 0],26,5⟩),(9,true,one ⟨hls 0 (rS (⟨s.now,s.sure,s.last,s.slast,s.fl.set (Int.toNat 0) x15⟩:Stv).now),9,0⟩),(10,true,one ⟨rS (⟨s.now,s.sure,s.last,s.slast,s.fl.set (Int.toNat 0) x15⟩:Stv).sure,9,77⟩),(11,true,one ⟨rI (⟨s.now,s.sure,s.last,s.slast,s.fl.set (Int.toNat 0) x15⟩:Stv).last,3,77⟩),(12,true,one ⟨rI (⟨s.now,s.sure,s.last,s.slast,s.fl.set (Int.toNat 0) x15⟩:Stv).slast,3,77⟩),(13,true,one ⟨rI (⟨s.now,s.sure,s.last,s.slast,s.fl.set (Int.toNat 0) x15⟩:Stv).fl,3,77⟩)]⟩) (re_nil (ms:=[0,1,2,3,4,5,6,7,8,9,10,11,12,13,14,15]) (C:=999) rfl ⟨⟨⟨rfl,rfl⟩,rfl⟩,trivial⟩ ⟨ktRow rfl rfl rfl (BlkW.refl _) id rfl,ktRow rfl rfl rfl ⟨.inl rfl,fun _=>rfl,.inr (.inl rfl),fun q=>(by cases q)⟩ id rfl,ktFlat (hls_flat (rS_flat _)) rfl (.inl rfl) id rfl,ktFlat (rS_flat _) rfl (.inr (.inr ⟨Nat.le_of_ble_eq_true rfl,Nat.le_of_ble_eq_true rfl,fun q=>absurd q (Nat.succ_ne_zero _)⟩)) id rfl,ktFlat (rI_flat _) rfl (.inr (.inr ⟨Nat.le_of_ble_eq_true rfl,Nat.le_of_ble_eq_true rfl,fun q=>absurd q (Nat.succ_ne_zero _)⟩)) id rfl,ktFlat (rI_flat _) rfl (.inr (.inr ⟨Nat.le_of_ble_eq_true rfl,Nat.le_of_ble_eq_true rfl,fun q=>absurd q (Nat.succ_ne_zero _)⟩)) id rfl,ktFlat (rI_flat _) rfl (.inr (.inr ⟨Nat.le_of_ble_eq_true rfl,Nat.le_of_ble_eq_true rfl,fun q=>absurd q (Nat.succ_ne_zero _)⟩)) id rfl,trivial⟩ rfl rfl (rig_of rfl) rfl) ?_
       refine vc_ret ?_
       exact ⟨mkF (.agg #[.slice (some ⟨7,0,none⟩) (⟨s.now,s.sure,s.last,s.slast,s.fl.set (Int.toNat 0) x15⟩:Stv).now.length 0,.slice (some ⟨8,0,none⟩) (⟨s.now,s.sure,s.last,s.slast,s.fl.set (Int.toNat 0) x15⟩:Stv).sure.length 0,.slice (some ⟨9,0,none⟩) (⟨s.now,s.sure,s.last,s.slast,s.fl.set (Int.toNat 0) x15⟩:Stv).last.length 0,.slice (some ⟨10,0,none⟩) (⟨s.now,s.sure,s.last,s.slast,s.fl.set (Int.toNat 0) x15⟩:Stv).slast.length 0,.slice (some ⟨11,0,none⟩) (⟨s.now,s.sure,s.last,s.slast,s.fl.set (Int.toNat 0) x15⟩:Stv).fl.length 0]) [0,2,3,4,5,6] [(1,one ⟨[.slice (some ⟨0,k,none⟩) n 0,.int .i64 (p + 1 + 1)],83,2⟩)] [(7,one ⟨hls 0 (rS (⟨s.now,s.sure,s.last,s.slast,s.fl.set (Int.toNat 0) x15⟩:Stv).now),9,0⟩),(8,one ⟨rS (⟨s.now,s.sure,s.last,s.slast,s.fl.set (Int.toNat 0) x15⟩:Stv).sure,9,77⟩),(9,one ⟨rI (⟨s.now,s.sure,s.last,s.slast,s.fl.set (Int.toNat 0) x15⟩:Stv).last,3,77⟩),(10,one ⟨rI (⟨s.now,s.sure,s.last,s.slast,s.fl.set (Int.toNat 0) x15⟩:Stv).slast,3,77⟩),(11,one ⟨rI (⟨s.now,s.sure,s.last,s.slast,s.fl.set (Int.toNat 0) x15⟩:Stv).fl,3,77⟩)],_,endsT [(7,9,one ⟨hls 0 (rS (⟨s.now,s.sure,s.last,s.slast,s.fl.set (Int.toNat 0) x15⟩:Stv).now),9,0⟩),(8,10,one ⟨rS (⟨s.now,s.sure,s.last,s.slast,s.fl.set (Int.toNat 0) x15⟩:Stv).sure,9,77⟩),(9,11,one ⟨rI (⟨s.now,s.sure,s.last,s.slast,s.fl.set (Int.toNat 0) x15⟩:Stv).last,3,77⟩),(10,12,one ⟨rI (⟨s.now,s.sure,s.last,s.slast,s.fl.set (Int.toNat 0) x15⟩:Stv).slast,3,77⟩),(11,13,one ⟨rI (⟨s.now,s.sure,s.last,s.slast,s.fl.set (Int.toNat 0) x15⟩:Stv).fl,3,77⟩)] (.inr rfl) ((.cell rfl rfl rfl rfl rfl .nil)) (by rw [List.length_set];rfl) rfl ⟨upOne rfl rfl rfl,trivial⟩ ⟨asFlat rfl (hls_flat (rS_flat (⟨s.now,s.sure,s.last,s.slast,s.fl.set (Int.toNat 0) x15⟩:Stv).now)),asFlat rfl (rS_flat (⟨s.now,s.sure,s.last,s.slast,s.fl.set (Int.toNat 0) x15⟩:Stv).sure),asFlat rfl (rI_flat (⟨s.now,s.sure,s.last,s.slast,s.fl.set (Int.toNat 0) x15⟩:Stv).last),asFlat rfl (rI_flat (⟨s.now,s.sure,s.last,s.slast,s.fl.set (Int.toNat 0) x15⟩:Stv).slast),asFlat rfl (rI_flat (⟨s.now,s.sure,s.last,s.slast,s.fl.set (Int.toNat 0) x15⟩:Stv).fl),trivial⟩ rfl,(⟨s.now,s.sure,s.last,s.slast,s.fl.set (Int.toNat 0) x15⟩:Stv),0,0,_,(bn_4 hb (by omega)),(by omega),(by omega),rfl⟩
      ·skip
       have p69:=of_decide_eq_false c69
       refine vc_skip ?_
       refine vc_seq ?_
       refine vc_region hm ?_
       refine gL trivial rfl rfl rfl rfl rfl rfl rfl rfl ?_
       refine gT trivial rfl rfl rfl rfl rfl rfl rfl rfl rfl rfl (Nat.le_of_ble_eq_true rfl) rfl ?_
       refine rg_nil nofun ?_
       refine vc_re (S2:=⟨15,[(4,.pointer (some ⟨8,0,none⟩))],[(1,true,one ⟨[.slice (some ⟨0,k,none⟩) n 0,.int .i64 (p + 1)],83,2⟩),(8,true,one ⟨[.slice (some ⟨9,0,none⟩) s.now.length 0,.slice (some ⟨10,0,none⟩) s.sure.length 0,.slice (some ⟨11,0,none⟩) s.last.length 0,.slice (some ⟨12,0,none⟩) s.slast.length 0,.slice (some ⟨13,0,none⟩) s.fl.length 0],26,5⟩),(9,true,one ⟨hls 0 (rS s.now),9,0⟩),(10,true,one ⟨rS s.sure,9,77⟩),(11,true,one ⟨rI s.last,3,77⟩),(12,true,one ⟨rI s.slast,3,77⟩),(13,true,one ⟨rI s.fl,3,77⟩)]⟩) (re_nil (ms:=[0,1,2,3,4,5,6,7,8,9,10,11,12,13,14]) (C:=999) rfl ⟨⟨⟨rfl,rfl⟩,rfl⟩,trivial⟩ ⟨ktRow rfl rfl rfl (BlkW.refl _) id rfl,ktRow rfl rfl rfl ⟨.inl rfl,fun _=>rfl,.inr (.inl rfl),fun q=>(by cases q)⟩ id rfl,ktFlat (hls_flat (rS_flat _)) rfl (.inl rfl) id rfl,ktFlat (rS_flat _) rfl (.inr (.inr ⟨Nat.le_of_ble_eq_true rfl,Nat.le_of_ble_eq_true rfl,fun q=>absurd q (Nat.succ_ne_zero _)⟩)) id rfl,ktFlat (rI_flat _) rfl (.inr (.inr ⟨Nat.le_of_ble_eq_true rfl,Nat.le_of_ble_eq_true rfl,fun q=>absurd q (Nat.succ_ne_zero _)⟩)) id rfl,ktFlat (rI_flat _) rfl (.inr (.inr ⟨Nat.le_of_ble_eq_true rfl,Nat.le_of_ble_eq_true rfl,fun q=>absurd q (Nat.succ_ne_zero _)⟩)) id rfl,ktFlat (rI_flat _) rfl (.inr (.inr ⟨Nat.le_of_ble_eq_true rfl,Nat.le_of_ble_eq_true rfl,fun q=>absurd q (Nat.succ_ne_zero _)⟩)) id rfl,trivial⟩ rfl rfl (rig_of rfl) rfl) ?_
       refine vc_ret ?_
       exact ⟨mkF (.agg #[.slice (some ⟨7,0,none⟩) s.now.length 0,.slice (some ⟨8,0,none⟩) s.sure.length 0,.slice (some ⟨9,0,none⟩) s.last.length 0,.slice (some ⟨10,0,none⟩) s.slast.length 0,.slice (some ⟨11,0,none⟩) s.fl.length 0]) [0,2,3,4,5,6] [(1,one ⟨[.slice (some ⟨0,k,none⟩) n 0,.int .i64 (p + 1)],83,2⟩)] [(7,one ⟨hls 0 (rS s.now),9,0⟩),(8,one ⟨rS s.sure,9,77⟩),(9,one ⟨rI s.last,3,77⟩),(10,one ⟨rI s.slast,3,77⟩),(11,one ⟨rI s.fl,3,77⟩)],_,endsT [(7,9,one ⟨hls 0 (rS s.now),9,0⟩),(8,10,one ⟨rS s.sure,9,77⟩),(9,11,one ⟨rI s.last,3,77⟩),(10,12,one ⟨rI s.slast,3,77⟩),(11,13,one ⟨rI s.fl,3,77⟩)] (.inr rfl) ((.cell rfl rfl rfl rfl rfl .nil)) rfl rfl ⟨upOne rfl rfl rfl,trivial⟩ ⟨asFlat rfl (hls_flat (rS_flat s.now)),asFlat rfl (rS_flat s.sure),asFlat rfl (rI_flat s.last),asFlat rfl (rI_flat s.slast),asFlat rfl (rI_flat s.fl),trivial⟩ rfl,s,0,0,_,hb,(by omega),(by omega),rfl⟩
     ·skip
      have p64:=ne_of_beq_false c64
      refine vc_seq ?_
      refine vc_region hm ?_
      refine gI trivial rfl rfl rfl rfl rfl rfl ?_
      refine gM trivial (.inr rfl) rfl rfl rfl ?_
      refine rg_nil nofun ?_
      refine cI rfl (fun c76=>?_) (fun c76=>?_)
      ·skip
       have p76:=eq_of_beq c76
       refine vc_region hm ?_
       refine gF trivial rfl rfl rfl rfl rfl ?_
       refine gT trivial rfl rfl rfl rfl rfl rfl rfl rfl rfl rfl (Nat.le_of_ble_eq_true rfl) rfl ?_
       refine rg_nil nofun ?_
       refine vc_seq ?_
       refine vc_region hm ?_
       refine gL trivial rfl rfl rfl rfl rfl rfl rfl rfl ?_
       refine gT trivial rfl rfl rfl rfl rfl rfl rfl rfl rfl rfl (Nat.le_of_ble_eq_true rfl) rfl ?_
       refine rg_nil nofun ?_
       refine vc_re (S2:=⟨16,[(4,.pointer (some ⟨8,0,none⟩))],[(1,true,one ⟨[.slice (some ⟨0,k,none⟩) n 0,.int .i64 (p + 1)],83,2⟩),(8,true,one ⟨[.slice (some ⟨9,0,none⟩) s.now.length 0,.slice (some ⟨10,0,none⟩) s.sure.length 0,.slice (some ⟨11,0,none⟩) s.last.length 0,.slice (some ⟨12,0,none⟩) s.slast.length 0,.slice (some ⟨15,0,none⟩) 0 0],26,5⟩),(9,true,one ⟨hls 0 (rS (⟨s.now,s.sure,s.last,s.slast,[]⟩:Stv).now),9,0⟩),(10,true,one ⟨rS (⟨s.now,s.sure,s.last,s.slast,[]⟩:Stv).sure,9,77⟩),(11,true,one ⟨rI (⟨s.now,s.sure,s.last,s.slast,[]⟩:Stv).last,3,77⟩),(12,true,one ⟨rI (⟨s.now,s.sure,s.last,s.slast,[]⟩:Stv).slast,3,77⟩),(15,true,one ⟨rI (⟨s.now,s.sure,s.last,s.slast,[]⟩:Stv).fl,3,77⟩)]⟩) (re_nil (ms:=[0,1,2,3,4,5,6,7,8,9,10,11,12,13,14]) (C:=15) rfl ⟨⟨⟨rfl,rfl⟩,rfl⟩,trivial⟩ ⟨ktRow rfl rfl rfl (BlkW.refl _) id rfl,ktRow rfl rfl rfl ⟨.inl rfl,fun _=>rfl,.inr (.inl rfl),fun q=>(by cases q)⟩ id rfl,ktFlat (hls_flat (rS_flat _)) rfl (.inl rfl) id rfl,ktFlat (rS_flat _) rfl (.inr (.inr ⟨Nat.le_of_ble_eq_true rfl,Nat.le_of_ble_eq_true rfl,fun q=>absurd q (Nat.succ_ne_zero _)⟩)) id rfl,ktFlat (rI_flat _) rfl (.inr (.inr ⟨Nat.le_of_ble_eq_true rfl,Nat.le_of_ble_eq_true rfl,fun q=>absurd q (Nat.succ_ne_zero _)⟩)) id rfl,ktFlat (rI_flat _) rfl (.inr (.inr ⟨Nat.le_of_ble_eq_true rfl,Nat.le_of_ble_eq_true rfl,fun q=>absurd q (Nat.succ_ne_zero _)⟩)) id rfl,ktC1 rfl (by decide) rfl,trivial⟩ rfl rfl (rig_of rfl) rfl) ?_
       refine vc_ret ?_
       exact ⟨mkF (.agg #[.slice (some ⟨7,0,none⟩) (⟨s.now,s.sure,s.last,s.slast,[]⟩:Stv).now.length 0,.slice (some ⟨8,0,none⟩) (⟨s.now,s.sure,s.last,s.slast,[]⟩:Stv).sure.length 0,.slice (some ⟨9,0,none⟩) (⟨s.now,s.sure,s.last,s.slast,[]⟩:Stv).last.length 0,.slice (some ⟨10,0,none⟩) (⟨s.now,s.sure,s.last,s.slast,[]⟩:Stv).slast.length 0,.slice (some ⟨11,0,none⟩) (⟨s.now,s.sure,s.last,s.slast,[]⟩:Stv).fl.length 0]) [0,2,3,4,5,6] [(1,one ⟨[.slice (some ⟨0,k,none⟩) n 0,.int .i64 (p + 1)],83,2⟩)] [(7,one ⟨hls 0 (rS (⟨s.now,s.sure,s.last,s.slast,[]⟩:Stv).now),9,0⟩),(8,one ⟨rS (⟨s.now,s.sure,s.last,s.slast,[]⟩:Stv).sure,9,77⟩),(9,one ⟨rI (⟨s.now,s.sure,s.last,s.slast,[]⟩:Stv).last,3,77⟩),(10,one ⟨rI (⟨s.now,s.sure,s.last,s.slast,[]⟩:Stv).slast,3,77⟩),(11,one ⟨rI (⟨s.now,s.sure,s.last,s.slast,[]⟩:Stv).fl,3,77⟩)],_,endsT [(7,9,one ⟨hls 0 (rS (⟨s.now,s.sure,s.last,s.slast,[]⟩:Stv).now),9,0⟩),(8,10,one ⟨rS (⟨s.now,s.sure,s.last,s.slast,[]⟩:Stv).sure,9,77⟩),(9,11,one ⟨rI (⟨s.now,s.sure,s.last,s.slast,[]⟩:Stv).last,3,77⟩),(10,12,one ⟨rI (⟨s.now,s.sure,s.last,s.slast,[]⟩:Stv).slast,3,77⟩),(11,15,one ⟨rI (⟨s.now,s.sure,s.last,s.slast,[]⟩:Stv).fl,3,77⟩)] (.inr rfl) ((.cell rfl rfl rfl rfl rfl .nil)) rfl rfl ⟨upOne rfl rfl rfl,trivial⟩ ⟨asFlat rfl (hls_flat (rS_flat (⟨s.now,s.sure,s.last,s.slast,[]⟩:Stv).now)),asFlat rfl (rS_flat (⟨s.now,s.sure,s.last,s.slast,[]⟩:Stv).sure),asFlat rfl (rI_flat (⟨s.now,s.sure,s.last,s.slast,[]⟩:Stv).last),asFlat rfl (rI_flat (⟨s.now,s.sure,s.last,s.slast,[]⟩:Stv).slast),asFlat rfl (rI_flat (⟨s.now,s.sure,s.last,s.slast,[]⟩:Stv).fl),trivial⟩ rfl,(⟨s.now,s.sure,s.last,s.slast,[]⟩:Stv),0,0,_,(bn_5 hb),(by omega),(by omega),rfl⟩
      ·skip
       have p76:=ne_of_beq_false c76
       refine vc_skip ?_
       refine vc_seq ?_
       refine vc_region hm ?_
       refine gL trivial rfl rfl rfl rfl rfl rfl rfl rfl ?_
       refine gT trivial rfl rfl rfl rfl rfl rfl rfl rfl rfl rfl (Nat.le_of_ble_eq_true rfl) rfl ?_
       refine rg_nil nofun ?_
       refine vc_re (S2:=⟨15,[(4,.pointer (some ⟨8,0,none⟩))],[(1,true,one ⟨[.slice (some ⟨0,k,none⟩) n 0,.int .i64 (p + 1)],83,2⟩),(8,true,one ⟨[.slice (some ⟨9,0,none⟩) s.now.length 0,.slice (some ⟨10,0,none⟩) s.sure.length 0,.slice (some ⟨11,0,none⟩) s.last.length 0,.slice (some ⟨12,0,none⟩) s.slast.length 0,.slice (some ⟨13,0,none⟩) s.fl.length 0],26,5⟩),(9,true,one ⟨hls 0 (rS s.now),9,0⟩),(10,true,one ⟨rS s.sure,9,77⟩),(11,true,one ⟨rI s.last,3,77⟩),(12,true,one ⟨rI s.slast,3,77⟩),(13,true,one ⟨rI s.fl,3,77⟩)]⟩) (re_nil (ms:=[0,1,2,3,4,5,6,7,8,9,10,11,12,13,14]) (C:=999) rfl ⟨⟨⟨rfl,rfl⟩,rfl⟩,trivial⟩ ⟨ktRow rfl rfl rfl (BlkW.refl _) id rfl,ktRow rfl rfl rfl ⟨.inl rfl,fun _=>rfl,.inr (.inl rfl),fun q=>(by cases q)⟩ id rfl,ktFlat (hls_flat (rS_flat _)) rfl (.inl rfl) id rfl,ktFlat (rS_flat _) rfl (.inr (.inr ⟨Nat.le_of_ble_eq_true rfl,Nat.le_of_ble_eq_true rfl,fun q=>absurd q (Nat.succ_ne_zero _)⟩)) id rfl,ktFlat (rI_flat _) rfl (.inr (.inr ⟨Nat.le_of_ble_eq_true rfl,Nat.le_of_ble_eq_true rfl,fun q=>absurd q (Nat.succ_ne_zero _)⟩)) id rfl,ktFlat (rI_flat _) rfl (.inr (.inr ⟨Nat.le_of_ble_eq_true rfl,Nat.le_of_ble_eq_true rfl,fun q=>absurd q (Nat.succ_ne_zero _)⟩)) id rfl,ktFlat (rI_flat _) rfl (.inr (.inr ⟨Nat.le_of_ble_eq_true rfl,Nat.le_of_ble_eq_true rfl,fun q=>absurd q (Nat.succ_ne_zero _)⟩)) id rfl,trivial⟩ rfl rfl (rig_of rfl) rfl) ?_
       refine vc_ret ?_
       exact ⟨mkF (.agg #[.slice (some ⟨7,0,none⟩) s.now.length 0,.slice (some ⟨8,0,none⟩) s.sure.length 0,.slice (some ⟨9,0,none⟩) s.last.length 0,.slice (some ⟨10,0,none⟩) s.slast.length 0,.slice (some ⟨11,0,none⟩) s.fl.length 0]) [0,2,3,4,5,6] [(1,one ⟨[.slice (some ⟨0,k,none⟩) n 0,.int .i64 (p + 1)],83,2⟩)] [(7,one ⟨hls 0 (rS s.now),9,0⟩),(8,one ⟨rS s.sure,9,77⟩),(9,one ⟨rI s.last,3,77⟩),(10,one ⟨rI s.slast,3,77⟩),(11,one ⟨rI s.fl,3,77⟩)],_,endsT [(7,9,one ⟨hls 0 (rS s.now),9,0⟩),(8,10,one ⟨rS s.sure,9,77⟩),(9,11,one ⟨rI s.last,3,77⟩),(10,12,one ⟨rI s.slast,3,77⟩),(11,13,one ⟨rI s.fl,3,77⟩)] (.inr rfl) ((.cell rfl rfl rfl rfl rfl .nil)) rfl rfl ⟨upOne rfl rfl rfl,trivial⟩ ⟨asFlat rfl (hls_flat (rS_flat s.now)),asFlat rfl (rS_flat s.sure),asFlat rfl (rI_flat s.last),asFlat rfl (rI_flat s.slast),asFlat rfl (rI_flat s.fl),trivial⟩ rfl,s,0,0,_,hb,(by omega),(by omega),rfl⟩
theorem drawOk5_c {l:List Int} {k:Nat} (hl:ByL l):∃ E,FDoes Try.prog 67 [.slice (some ⟨0,k,none⟩) l.length 0] (hp [(0,false,one ⟨hls k (rY l),capT + l.length,0⟩)]) E∧∃ (s:Stv) (kk cc:Nat),DrB s∧E=mkF (.agg #[.slice (some ⟨1,kk,none⟩) s.now.length cc,.slice (some ⟨2,0,none⟩) s.sure.length 0,.slice (some ⟨3,0,none⟩) s.last.length 0,.slice (some ⟨4,0,none⟩) s.slast.length 0,.slice (some ⟨5,0,none⟩) s.fl.length 0]) [0] [] [(1,one ⟨hls kk (rS s.now),9,0⟩),(2,one ⟨rS s.sure,9,77⟩),(3,one ⟨rI s.last,3,77⟩),(4,one ⟨rI s.slast,3,77⟩),(5,one ⟨rI s.fl,3,77⟩)]:=by
 have hm:Try.prog.follows .mixedOrders=true:=by kernel_rfl
 have hd_:∀ x_ ∈ ([(0,false,one ⟨hls k (rY l),capT + l.length,0⟩)]:List (Nat × Bool × Fam)),∀ k_ y_,x_.2.2 k_=some y_→DetB (lt 1) y_:=by
  intro x_ hx k_ y_ e
  simp only [List.mem_cons,List.not_mem_nil,or_false] at hx
  subst hx
  exact det_code e
 refine fn_some (u0:=1) Try.func67 rfl rfl (gets rfl rfl rfl hd_ rfl) ?_
 clear hd_
 refine vc_seq ?_
 refine vc_region hm ?_
 refine gZ (u':=2) trivial rfl rfl rfl rfl rfl rfl rfl rfl ?_
 refine rg_nil nofun ?_
 refine vc_seq ?_
 refine vc_region hm ?_
 refine gM trivial (.inl rfl) rfl rfl rfl ?_
 obtain ⟨En1,hEn1,n,hn,rfl⟩:=open_c (l:=l) (k:=k) hl
 have hp0:(0:Int)≤0:=Int.le_refl _
 refine gCF (ups':=[]) (as':=[(2,one ⟨[.slice (some ⟨0,k,none⟩) n 0,.int .i64 (0)],83,2⟩)]) (v':=.pointer (some ⟨2,0,none⟩)) 3 [0,2] hEn1 trivial rfl rfl rfl rfl ⟨rCode rfl rfl,trivial⟩ trivial ⟨frOne rfl rfl,trivial⟩ rfl rfl (fun x hx=>nomatch hx) (fun x hx=>nomatch hx) rfl rfl ?_
 refine gM trivial (.inr rfl) rfl rfl rfl ?_
 refine rg_nil nofun ?_
 refine vc_seq ?_
 refine vc_region hm ?_
 refine gM trivial (.inl rfl) rfl rfl rfl ?_
 refine gM trivial (.inl rfl) rfl rfl rfl ?_
 refine gM trivial (.inl rfl) rfl rfl rfl ?_
 obtain ⟨E2,hE2,s2,p2,k2,q2a,q2b,rfl⟩:=some5_c (k:=k) (t0:=capT + l.length) (p:=0) hl hn (by omega) (by omega) 
 refine gCF (ups':=[(2,one ⟨[.slice (some ⟨0,k,none⟩) n 0,.int .i64 (p2)],83,2⟩)]) (as':=[(3,one ⟨rS s2.now,9,77⟩),(4,one ⟨rS s2.sure,9,77⟩),(5,one ⟨rI s2.last,3,77⟩),(6,one ⟨rI s2.slast,3,77⟩),(7,one ⟨rI s2.fl,3,77⟩)]) (v':=.agg #[.slice (some ⟨3,0,none⟩) s2.now.length 0,.slice (some ⟨4,0,none⟩) s2.sure.length 0,.slice (some ⟨5,0,none⟩) s2.last.length 0,.slice (some ⟨6,0,none⟩) s2.slast.length 0,.slice (some ⟨7,0,none⟩) s2.fl.length 0]) 8 [0,2,3,4,5,6,7] hE2 trivial rfl rfl rfl rfl ⟨rCode rfl rfl,rCells rfl ⟨rfl,rfl,.inr rfl⟩ rfl,trivial⟩ ⟨frOne rfl rfl,trivial⟩ ⟨frF (rS_flat s2.now) rfl,frF (rS_flat s2.sure) rfl,frF (rI_flat s2.last) rfl,frF (rI_flat s2.slast) rfl,frF (rI_flat s2.fl) rfl,trivial⟩ rfl rfl (ho1 ⟨_,rfl⟩) (hu1 rfl) rfl rfl ?_
 obtain ⟨E3,hE3,s3,kk3,cc3,p3,b3,q3a,q3b,rfl⟩:=bent5_c (k:=k) (t0:=capT + l.length) (p:=p2) hl hn (by omega) (by omega) (s:=s2) (kk:=0) (cc:=0) (dr_ok k2)
 refine gCF (ups':=[(2,one ⟨[.slice (some ⟨0,k,none⟩) n 0,.int .i64 (p3)],83,2⟩)]) (as':=[(8,one ⟨hls kk3 (rS s3.now),9,0⟩),(9,one ⟨rS s3.sure,9,77⟩),(10,one ⟨rI s3.last,3,77⟩),(11,one ⟨rI s3.slast,3,77⟩),(12,one ⟨rI s3.fl,3,77⟩)]) (v':=.agg #[.slice (some ⟨8,kk3,none⟩) s3.now.length cc3,.slice (some ⟨9,0,none⟩) s3.sure.length 0,.slice (some ⟨10,0,none⟩) s3.last.length 0,.slice (some ⟨11,0,none⟩) s3.slast.length 0,.slice (some ⟨12,0,none⟩) s3.fl.length 0]) 13 [0,2,3,4,5,6,7,8,9,10,11,12] hE3 trivial rfl rfl rfl rfl ⟨rCode rfl rfl,rCells rfl ⟨rfl,rfl,.inr rfl⟩ rfl,rFlat (hls_flat (rS_flat s2.now)) rfl (.inl rfl) rfl,rFlat (rS_flat s2.sure) rfl (.inl rfl) rfl,rFlat (rI_flat s2.last) rfl (.inl rfl) rfl,rFlat (rI_flat s2.slast) rfl (.inl rfl) rfl,rFlat (rI_flat s2.fl) rfl (.inl rfl) rfl,trivial⟩ ⟨frOne rfl rfl,trivial⟩ ⟨frF (hls_flat (rS_flat s3.now)) rfl,frF (rS_flat s3.sure) rfl,frF (rI_flat s3.last) rfl,frF (rI_flat s3.slast) rfl,frF (rI_flat s3.fl) rfl,trivial⟩ rfl rfl (ho1 ⟨_,rfl⟩) (hu1 rfl) rfl rfl ?_
 obtain ⟨E4,hE4,s4,kk4,cc4,p4,b4,q4a,q4b,rfl⟩:=bent5_c (k:=k) (t0:=capT + l.length) (p:=p3) hl hn (by omega) (by omega) (s:=s3) (kk:=kk3) (cc:=cc3) b3
 refine gCF (ups':=[(2,one ⟨[.slice (some ⟨0,k,none⟩) n 0,.int .i64 (p4)],83,2⟩)]) (as':=[(13,one ⟨hls kk4 (rS s4.now),9,0⟩),(14,one ⟨rS s4.sure,9,77⟩),(15,one ⟨rI s4.last,3,77⟩),(16,one ⟨rI s4.slast,3,77⟩),(17,one ⟨rI s4.fl,3,77⟩)]) (v':=.agg #[.slice (some ⟨13,kk4,none⟩) s4.now.length cc4,.slice (some ⟨14,0,none⟩) s4.sure.length 0,.slice (some ⟨15,0,none⟩) s4.last.length 0,.slice (some ⟨16,0,none⟩) s4.slast.length 0,.slice (some ⟨17,0,none⟩) s4.fl.length 0]) 18 [0,2,8,9,10,11,12,13,14,15,16,17] hE4 trivial rfl rfl rfl rfl ⟨rCode rfl rfl,rCells rfl ⟨rfl,rfl,.inr rfl⟩ rfl,rFlat (hls_flat (rS_flat s3.now)) rfl (.inl rfl) rfl,rFlat (rS_flat s3.sure) rfl (.inl rfl) rfl,rFlat (rI_flat s3.last) rfl (.inl rfl) rfl,rFlat (rI_flat s3.slast) rfl (.inl rfl) rfl,rFlat (rI_flat s3.fl) rfl (.inl rfl) rfl,trivial⟩ ⟨frOne rfl rfl,trivial⟩ ⟨frF (hls_flat (rS_flat s4.now)) rfl,frF (rS_flat s4.sure) rfl,frF (rI_flat s4.last) rfl,frF (rI_flat s4.slast) rfl,frF (rI_flat s4.fl) rfl,trivial⟩ rfl rfl (ho1 ⟨_,rfl⟩) (hu1 rfl) rfl rfl ?_
 refine gT trivial rfl rfl rfl rfl rfl rfl rfl rfl rfl rfl (Nat.le_of_ble_eq_true rfl) rfl ?_
 refine rg_nil nofun ?_
 refine vc_ret ?_
 exact ⟨mkF (.agg #[.slice (some ⟨1,kk4,none⟩) s4.now.length cc4,.slice (some ⟨2,0,none⟩) s4.sure.length 0,.slice (some ⟨3,0,none⟩) s4.last.length 0,.slice (some ⟨4,0,none⟩) s4.slast.length 0,.slice (some ⟨5,0,none⟩) s4.fl.length 0]) [0] [] [(1,one ⟨hls kk4 (rS s4.now),9,0⟩),(2,one ⟨rS s4.sure,9,77⟩),(3,one ⟨rI s4.last,3,77⟩),(4,one ⟨rI s4.slast,3,77⟩),(5,one ⟨rI s4.fl,3,77⟩)],_,endsT [(1,13,one ⟨hls kk4 (rS s4.now),9,0⟩),(2,14,one ⟨rS s4.sure,9,77⟩),(3,15,one ⟨rI s4.last,3,77⟩),(4,16,one ⟨rI s4.slast,3,77⟩),(5,17,one ⟨rI s4.fl,3,77⟩)] (.inr rfl) (.cell rfl rfl rfl rfl rfl .nil) rfl rfl trivial ⟨asFlat rfl (hls_flat (rS_flat s4.now)),asFlat rfl (rS_flat s4.sure),asFlat rfl (rI_flat s4.last),asFlat rfl (rI_flat s4.slast),asFlat rfl (rI_flat s4.fl),trivial⟩ rfl,s4,kk4,cc4,b4,rfl⟩
theorem drawFall_c {l:List Int} {k:Nat} (hl:ByL l):∃ E,FDoes Try.prog 34 [.slice (some ⟨0,k,none⟩) l.length 0] (hp [(0,false,one ⟨hls k (rY l),capT + l.length,0⟩)]) E∧∃ (s:Stv) (kk cc:Nat),DrB s∧E=mkF (.agg #[.slice (some ⟨1,kk,none⟩) s.now.length cc,.slice (some ⟨2,0,none⟩) s.sure.length 0,.slice (some ⟨3,0,none⟩) s.last.length 0,.slice (some ⟨4,0,none⟩) s.slast.length 0,.slice (some ⟨5,0,none⟩) s.fl.length 0]) [0] [] [(1,one ⟨hls kk (rS s.now),9,0⟩),(2,one ⟨rS s.sure,9,77⟩),(3,one ⟨rI s.last,3,77⟩),(4,one ⟨rI s.slast,3,77⟩),(5,one ⟨rI s.fl,3,77⟩)]:=by
 have hm:Try.prog.follows .mixedOrders=true:=by kernel_rfl
 have hd_:∀ x_ ∈ ([(0,false,one ⟨hls k (rY l),capT + l.length,0⟩)]:List (Nat × Bool × Fam)),∀ k_ y_,x_.2.2 k_=some y_→DetB (lt 1) y_:=by
  intro x_ hx k_ y_ e
  simp only [List.mem_cons,List.not_mem_nil,or_false] at hx
  subst hx
  exact det_code e
 refine fn_some (u0:=1) Try.func34 rfl rfl (gets rfl rfl rfl hd_ rfl) ?_
 clear hd_
 refine vc_seq ?_
 refine vc_region hm ?_
 refine gZ (u':=2) trivial rfl rfl rfl rfl rfl rfl rfl rfl ?_
 refine rg_nil nofun ?_
 refine vc_seq ?_
 refine vc_region hm ?_
 refine gM trivial (.inl rfl) rfl rfl rfl ?_
 obtain ⟨E1,hE1,s,kk,cc,hb,rfl⟩:=drawOk5_c (l:=l) (k:=k) hl
 refine gCF (ups':=[]) (as':=[(2,one ⟨hls kk (rS s.now),9,0⟩),(3,one ⟨rS s.sure,9,77⟩),(4,one ⟨rI s.last,3,77⟩),(5,one ⟨rI s.slast,3,77⟩),(6,one ⟨rI s.fl,3,77⟩)]) (v':=.agg #[.slice (some ⟨2,kk,none⟩) s.now.length cc,.slice (some ⟨3,0,none⟩) s.sure.length 0,.slice (some ⟨4,0,none⟩) s.last.length 0,.slice (some ⟨5,0,none⟩) s.slast.length 0,.slice (some ⟨6,0,none⟩) s.fl.length 0]) 7 [0,2,3,4,5,6] hE1 trivial rfl rfl rfl rfl ⟨rCode rfl rfl,trivial⟩ trivial ⟨frF (hls_flat (rS_flat s.now)) rfl,frF (rS_flat s.sure) rfl,frF (rI_flat s.last) rfl,frF (rI_flat s.slast) rfl,frF (rI_flat s.fl) rfl,trivial⟩ rfl rfl (fun x hx=>nomatch hx) (fun x hx=>nomatch hx) rfl rfl ?_
 refine gT trivial rfl rfl rfl rfl rfl rfl rfl rfl rfl rfl (Nat.le_of_ble_eq_true rfl) rfl ?_
 refine rg_nil nofun ?_
 refine vc_ret ?_
 exact ⟨mkF (.agg #[.slice (some ⟨1,kk,none⟩) s.now.length cc,.slice (some ⟨2,0,none⟩) s.sure.length 0,.slice (some ⟨3,0,none⟩) s.last.length 0,.slice (some ⟨4,0,none⟩) s.slast.length 0,.slice (some ⟨5,0,none⟩) s.fl.length 0]) [0] [] [(1,one ⟨hls kk (rS s.now),9,0⟩),(2,one ⟨rS s.sure,9,77⟩),(3,one ⟨rI s.last,3,77⟩),(4,one ⟨rI s.slast,3,77⟩),(5,one ⟨rI s.fl,3,77⟩)],_,endsT [(1,2,one ⟨hls kk (rS s.now),9,0⟩),(2,3,one ⟨rS s.sure,9,77⟩),(3,4,one ⟨rI s.last,3,77⟩),(4,5,one ⟨rI s.slast,3,77⟩),(5,6,one ⟨rI s.fl,3,77⟩)] (.inr rfl) (.cell rfl rfl rfl rfl rfl .nil) rfl rfl trivial ⟨asFlat rfl (hls_flat (rS_flat s.now)),asFlat rfl (rS_flat s.sure),asFlat rfl (rI_flat s.last),asFlat rfl (rI_flat s.slast),asFlat rfl (rI_flat s.fl),trivial⟩ rfl,s,kk,cc,hb,rfl⟩
theorem spec_StoreSync_n {s:Stv} {kk cc:Nat} (hz:StSz s) (h:stOk s=false):FDoes Try.prog 36 [.agg #[.slice (some ⟨0,kk,none⟩) s.now.length cc,.slice (some ⟨1,0,none⟩) s.sure.length 0,.slice (some ⟨2,0,none⟩) s.last.length 0,.slice (some ⟨3,0,none⟩) s.slast.length 0,.slice (some ⟨4,0,none⟩) s.fl.length 0]] (hp [(0,false,one ⟨hls kk (rS s.now),9,0⟩),(1,false,one ⟨rS s.sure,9,0⟩),(2,false,one ⟨rI s.last,3,0⟩),(3,false,one ⟨rI s.slast,3,0⟩),(4,false,one ⟨rI s.fl,3,0⟩)]) { v:=.agg #[.slice none 0 0,.slice none 0 0,.slice none 0 0,.slice none 0 0,.slice none 0 0],rd:=[0,1,2,3,4] }:=by
 have hm:Try.prog.follows .mixedOrders=true:=by kernel_rfl
 have hd_:∀ x_ ∈ ([(0,false,one ⟨hls kk (rS s.now),9,0⟩),(1,false,one ⟨rS s.sure,9,0⟩),(2,false,one ⟨rI s.last,3,0⟩),(3,false,one ⟨rI s.slast,3,0⟩),(4,false,one ⟨rI s.fl,3,0⟩)]:List (Nat × Bool × Fam)),∀ k_ y_,x_.2.2 k_=some y_→DetB (lt 5) y_:=by
  intro x_ hx k_ y_ e
  simp only [List.mem_cons,List.not_mem_nil,or_false] at hx
  rcases hx with rfl|rfl|rfl|rfl|rfl
  ·exact det_row (hls_flat (rS_flat s.now)) e
  ·exact det_row (rS_flat s.sure) e
  ·exact det_row (rI_flat s.last) e
  ·exact det_row (rI_flat s.slast) e
  ·exact det_row (rI_flat s.fl) e
 refine fn_exact (u0:=5) Try.func36 rfl rfl (gets rfl rfl rfl hd_ rfl) ?_
 clear hd_
 refine vc_seq ?_
 refine vc_region hm ?_
 refine gB (u':=6) trivial rfl rfl rfl rfl rfl rfl rfl rfl ?_
 refine gZ (u':=7) trivial rfl rfl rfl rfl rfl rfl rfl rfl ?_
 refine rg_nil nofun ?_
 refine vc_seq ?_
 refine vc_seq ?_
 refine vc_region hm ?_
 refine gL trivial rfl rfl rfl rfl rfl rfl rfl rfl ?_
 refine gC0 [0,1,2,3,4] (spec_StoreOk_c (s:=s) (kk:=kk) (cc:=cc) hz) trivial rfl rfl rfl rfl ⟨rFlat (hls_flat (rS_flat s.now)) rfl (.inl rfl) rfl,rFlat (rS_flat s.sure) rfl (.inl rfl) rfl,rFlat (rI_flat s.last) rfl (.inl rfl) rfl,rFlat (rI_flat s.slast) rfl (.inl rfl) rfl,rFlat (rI_flat s.fl) rfl (.inl rfl) rfl,trivial⟩ rfl rfl rfl rfl rfl ?_
 refine gN trivial rfl rfl rfl rfl ?_
 refine rg_nil nofun ?_
 refine cT rfl (notF h) ?_
 refine vc_seq ?_
 refine vc_region hm ?_
 refine gU trivial rfl rfl rfl rfl rfl rfl rfl rfl ?_
 refine gT trivial rfl rfl rfl rfl rfl rfl rfl rfl rfl rfl (Nat.le_of_ble_eq_true rfl) rfl ?_
 refine rg_nil nofun ?_
 refine vc_ret ?_
 exact ⟨idm,endsF (.inr rfl) (.cell rfl rfl rfl rfl rfl .nil) rfl rfl rfl⟩
theorem spec_StoreFall_n {s:Stv} {kk cc:Nat} (hz:StSz s) (h:stOk s=false):FDoes Try.prog 35 [.agg #[.slice (some ⟨0,kk,none⟩) s.now.length cc,.slice (some ⟨1,0,none⟩) s.sure.length 0,.slice (some ⟨2,0,none⟩) s.last.length 0,.slice (some ⟨3,0,none⟩) s.slast.length 0,.slice (some ⟨4,0,none⟩) s.fl.length 0]] (hp [(0,false,one ⟨hls kk (rS s.now),9,0⟩),(1,false,one ⟨rS s.sure,9,0⟩),(2,false,one ⟨rI s.last,3,0⟩),(3,false,one ⟨rI s.slast,3,0⟩),(4,false,one ⟨rI s.fl,3,0⟩)]) { v:=.agg #[.slice none 0 0,.slice none 0 0,.slice none 0 0,.slice none 0 0,.slice none 0 0],rd:=[0,1,2,3,4] }:=by
 have hm:Try.prog.follows .mixedOrders=true:=by kernel_rfl
 have hd_:∀ x_ ∈ ([(0,false,one ⟨hls kk (rS s.now),9,0⟩),(1,false,one ⟨rS s.sure,9,0⟩),(2,false,one ⟨rI s.last,3,0⟩),(3,false,one ⟨rI s.slast,3,0⟩),(4,false,one ⟨rI s.fl,3,0⟩)]:List (Nat × Bool × Fam)),∀ k_ y_,x_.2.2 k_=some y_→DetB (lt 5) y_:=by
  intro x_ hx k_ y_ e
  simp only [List.mem_cons,List.not_mem_nil,or_false] at hx
  rcases hx with rfl|rfl|rfl|rfl|rfl
  ·exact det_row (hls_flat (rS_flat s.now)) e
  ·exact det_row (rS_flat s.sure) e
  ·exact det_row (rI_flat s.last) e
  ·exact det_row (rI_flat s.slast) e
  ·exact det_row (rI_flat s.fl) e
 refine fn_exact (u0:=5) Try.func35 rfl rfl (gets rfl rfl rfl hd_ rfl) ?_
 clear hd_
 refine vc_seq ?_
 refine vc_region hm ?_
 refine gB (u':=6) trivial rfl rfl rfl rfl rfl rfl rfl rfl ?_
 refine gZ (u':=7) trivial rfl rfl rfl rfl rfl rfl rfl rfl ?_
 refine rg_nil nofun ?_
 refine vc_seq ?_
 refine vc_seq ?_
 refine vc_region hm ?_
 refine gL trivial rfl rfl rfl rfl rfl rfl rfl rfl ?_
 refine gC0 [0,1,2,3,4] (spec_StoreOk_c (s:=s) (kk:=kk) (cc:=cc) hz) trivial rfl rfl rfl rfl ⟨rFlat (hls_flat (rS_flat s.now)) rfl (.inl rfl) rfl,rFlat (rS_flat s.sure) rfl (.inl rfl) rfl,rFlat (rI_flat s.last) rfl (.inl rfl) rfl,rFlat (rI_flat s.slast) rfl (.inl rfl) rfl,rFlat (rI_flat s.fl) rfl (.inl rfl) rfl,trivial⟩ rfl rfl rfl rfl rfl ?_
 refine gN trivial rfl rfl rfl rfl ?_
 refine rg_nil nofun ?_
 refine cT rfl (notF h) ?_
 refine vc_seq ?_
 refine vc_region hm ?_
 refine gU trivial rfl rfl rfl rfl rfl rfl rfl rfl ?_
 refine gT trivial rfl rfl rfl rfl rfl rfl rfl rfl rfl rfl (Nat.le_of_ble_eq_true rfl) rfl ?_
 refine rg_nil nofun ?_
 refine vc_ret ?_
 exact ⟨idm,endsF (.inr rfl) (.cell rfl rfl rfl rfl rfl .nil) rfl rfl rfl⟩

theorem wpNums_c {a b:List Int} {ka ca kb cb:Nat} (hn:a.length≤1048576):FDoes Try.prog 18 [.slice (some ⟨0,ka,none⟩) a.length ca,.slice (some ⟨1,kb,none⟩) b.length cb] (hp [(0,false,one ⟨hls ka (rI a),3,0⟩),(1,false,one ⟨hls kb (rI b),3,0⟩)]) { v:=.bool (decide (a=b)),rd:=[0,1] }:=by
 have hm:Try.prog.follows .mixedOrders=true:=by kernel_rfl
 have hd_:∀ x_ ∈ ([(0,false,one ⟨hls ka (rI a),3,0⟩),(1,false,one ⟨hls kb (rI b),3,0⟩)]:List (Nat × Bool × Fam)),∀ k_ y_,x_.2.2 k_=some y_→DetB (lt 2) y_:=by
  intro x_ hx k_ y_ e
  simp only [List.mem_cons,List.not_mem_nil,or_false] at hx
  rcases hx with rfl|rfl
  ·exact det_row (hls_flat (rI_flat a)) e
  ·exact det_row (hls_flat (rI_flat b)) e
 refine fn_exact (u0:=2) Try.func18 rfl rfl (gets rfl rfl rfl hd_ rfl) ?_
 clear hd_
 refine vc_seq ?_
 refine vc_region hm ?_
 refine gM trivial (.inr rfl) rfl rfl rfl ?_
 refine rg_nil nofun ?_
 refine vc_seq ?_
 refine vc_seq ?_
 refine vc_region hm ?_
 refine gM trivial (.inl rfl) rfl rfl rfl ?_
 refine gK trivial rfl rfl rfl rfl rfl rfl (hls_nil rI_nil) ?_
 refine gM trivial (.inl rfl) rfl rfl rfl ?_
 refine gK trivial rfl rfl rfl rfl rfl rfl (hls_nil rI_nil) ?_
 refine gI trivial rfl rfl rfl rfl rfl rfl ?_
 refine rg_nil nofun ?_
 refine cI rfl (fun c10=>?_) (fun c10=>?_)
 ·skip
  have p10:=bne_iff_ne.1 c10
  refine vc_seq ?_
  refine vc_region hm ?_
  refine gM trivial (.inr rfl) rfl rfl rfl ?_
  refine rg_nil nofun ?_
  refine vc_ret ?_
  exact ⟨idm,ends0 (.inr rfl) rfl (eqB (decide_eq_false (ln_ne p10))) rfl rfl rfl⟩
 ·skip
  have p10:=bne_eq_false_iff_eq.1 c10
  refine vc_skip ?_
  refine vc_seq ?_
  refine vc_seq ?_
  refine vc_region hm ?_
  refine gM trivial (.inr rfl) rfl rfl rfl ?_
  refine rg_nil nofun ?_
  refine vc_block ?_
  have hl:a.length=b.length:=by omega
  refine vc_loop' (fun n_ S_=>∃ (j:Nat),j≤a.length∧a.take j=b.take j∧n_=a.length - j∧S_=⟨2,[(0,.slice (some ⟨0,ka,none⟩) a.length ca),(1,.slice (some ⟨1,kb,none⟩) b.length cb),(5,.int .i64 j)],[(0,false,one ⟨hls ka (rI a),3,0⟩),(1,false,one ⟨hls kb (rI b),3,0⟩)]⟩) (m0:=idm) ⟨0,Nat.zero_le _,rfl,rfl,rfl⟩ (le_mk rfl ⟨⟨rfl,rfl⟩,⟨rfl,rfl⟩,⟨rfl,rfl⟩,trivial⟩ ⟨kFlat (hls_flat (rI_flat a)) rfl id rfl,kFlat (hls_flat (rI_flat b)) rfl id rfl,trivial⟩ rfl (fun _ _=>rfl)) ?_
  rintro n_ S_ ⟨j,hj,hk,rfl,rfl⟩
  refine vc_seq ?_
  refine vc_seq ?_
  refine vc_region hm ?_
  refine gM trivial (.inl rfl) rfl rfl rfl ?_
  refine gM trivial (.inl rfl) rfl rfl rfl ?_
  refine gK trivial rfl rfl rfl rfl rfl rfl (hls_nil rI_nil) ?_
  refine gI trivial rfl rfl rfl rfl rfl rfl ?_
  refine rg_nil nofun ?_
  refine cI rfl (fun c14=>?_) (fun c14=>?_)
  ·skip
   have p14:=of_decide_eq_true c14
   refine vc_skip ?_
   refine vc_seq ?_
   refine vc_block ?_
   refine vc_seq ?_
   refine vc_region hm ?_
   refine gM trivial (.inl rfl) rfl rfl rfl ?_
   refine gM trivial (.inl rfl) rfl rfl rfl ?_
   refine gX trivial rfl rfl rfl rfl rfl rfl rfl rfl (by omega) (by omega) (fun h=>hls_ne (rI_ne h)) ?_
   refine gL trivial rfl rfl rfl rfl rfl rfl rfl (wR (lI (by omega) (by omega)) rfl) ?_
   refine gM trivial (.inl rfl) rfl rfl rfl ?_
   refine gM trivial (.inl rfl) rfl rfl rfl ?_
   refine gX trivial rfl rfl rfl rfl rfl rfl rfl rfl (by omega) (by omega) (fun h=>hls_ne (rI_ne h)) ?_
   refine gL trivial rfl rfl rfl rfl rfl rfl rfl (wR (lI (by omega) (by omega)) rfl) ?_
   refine gI trivial rfl rfl rfl rfl rfl rfl ?_
   refine rg_nil (fun _=>by kernel_rfl) ?_
   refine cI rfl (fun c25=>?_) (fun c25=>?_)
   ·skip
    have p25:=bne_iff_ne.1 c25
    refine vc_seq ?_
    refine vc_region hm ?_
    refine gM trivial (.inr rfl) rfl rfl rfl ?_
    refine rg_nil nofun ?_
    refine vc_ret ?_
    exact ⟨idm,ends0 (.inr rfl) rfl (eqB (decide_eq_false (at_ne p25))) rfl rfl rfl⟩
   ·skip
    have p25:=bne_eq_false_iff_eq.1 c25
    refine vc_skip ?_
    refine vc_region hm ?_
    refine gM trivial (.inl rfl) rfl rfl rfl ?_
    refine gA trivial rfl rfl rfl rfl rfl rfl (by omega) ?_
    refine gM trivial (.inr rfl) rfl rfl rfl ?_
    refine rg_nil nofun ?_
    exact lp_next (m:=idm) ⟨j + 1,(by omega),(take_step hk p14 hl p25),rfl,rfl⟩ (by omega) (le_mk rfl ⟨⟨rfl,rfl⟩,⟨rfl,rfl⟩,⟨rfl,rfl⟩,trivial⟩ ⟨kFlat (hls_flat (rI_flat a)) rfl id rfl,kFlat (hls_flat (rI_flat b)) rfl id rfl,trivial⟩ rfl (fun _ _=>rfl))
  ·skip
   have p14:=of_decide_eq_false c14
   refine vc_exit ?_
   refine vc_seq ?_
   refine vc_region hm ?_
   refine gM trivial (.inr rfl) rfl rfl rfl ?_
   refine rg_nil nofun ?_
   refine vc_ret ?_
   exact ⟨idm,ends0 (.inr rfl) rfl (eqB (decide_eq_true (take_all hk p14 hl))) rfl rfl rfl⟩
theorem eqnnS_c : FDoes Try.prog 55 [.slice none 0 0,.slice none 0 0] (hp []) { v:=.bool true }:=by
 have hm:Try.prog.follows .mixedOrders=true:=by kernel_rfl
 have hd_:∀ x ∈ ([]:List (Nat × Bool × Fam)),∀ k y,x.2.2 k=some y→DetB (lt 0) y:=fun x_ hx=>(by cases hx)
 refine fn_exact (u0:=0) Try.func55 rfl rfl (gets rfl rfl rfl hd_ rfl) ?_
 clear hd_
 refine vc_seq ?_
 refine vc_region hm ?_
 refine gM trivial (.inr rfl) rfl rfl rfl ?_
 refine rg_nil nofun ?_
 refine vc_seq ?_
 refine vc_seq ?_
 refine vc_region hm ?_
 refine gM trivial (.inl rfl) rfl rfl rfl ?_
 refine gKN trivial rfl rfl rfl rfl rfl ?_
 refine gM trivial (.inl rfl) rfl rfl rfl ?_
 refine gKN trivial rfl rfl rfl rfl rfl ?_
 refine gI trivial rfl rfl rfl rfl rfl rfl ?_
 refine rg_nil nofun ?_
 refine cF rfl rfl ?_
 refine vc_skip ?_
 refine vc_seq ?_
 refine vc_seq ?_
 refine vc_region hm ?_
 refine gM trivial (.inl rfl) rfl rfl rfl ?_
 refine gKN trivial rfl rfl rfl rfl rfl ?_
 refine gM trivial (.inl rfl) rfl rfl rfl ?_
 refine rg_nil nofun ?_
 refine vc_block ?_
 refine vc_loop' (fun n_ S_=>∃ (j:Nat),j=0∧n_=0∧S_=⟨0,[(0,.slice none 0 0),(1,.slice none 0 0),(12,.int .i64 (0:Nat)),(13,.int .i64 j)],[]⟩) (m0:=idm) ⟨0,rfl,rfl,rfl⟩ (le_mk rfl ⟨⟨rfl,rfl⟩,⟨rfl,rfl⟩,⟨rfl,rfl⟩,⟨rfl,rfl⟩,trivial⟩ trivial rfl (fun _ _=>rfl)) ?_
 rintro n_ S_ ⟨j,hj,rfl,rfl⟩
 refine vc_seq ?_
 refine vc_region hm ?_
 refine gI trivial rfl rfl rfl rfl rfl rfl ?_
 refine rg_nil nofun ?_
 refine vc_seq ?_
 refine cF rfl (decide_eq_false (by omega)) ?_
 refine vc_exit ?_
 refine vc_seq ?_
 refine vc_region hm ?_
 refine gM trivial (.inr rfl) rfl rfl rfl ?_
 refine rg_nil nofun ?_
 refine vc_ret ?_
 exact ⟨idm,ends0 (.inr rfl) rfl (eqB rfl) rfl rfl rfl⟩
theorem eqnnI_c : FDoes Try.prog 56 [.slice none 0 0,.slice none 0 0] (hp []) { v:=.bool true }:=by
 have hm:Try.prog.follows .mixedOrders=true:=by kernel_rfl
 have hd_:∀ x ∈ ([]:List (Nat × Bool × Fam)),∀ k y,x.2.2 k=some y→DetB (lt 0) y:=fun x_ hx=>(by cases hx)
 refine fn_exact (u0:=0) Try.func56 rfl rfl (gets rfl rfl rfl hd_ rfl) ?_
 clear hd_
 refine vc_seq ?_
 refine vc_region hm ?_
 refine gM trivial (.inr rfl) rfl rfl rfl ?_
 refine rg_nil nofun ?_
 refine vc_seq ?_
 refine vc_seq ?_
 refine vc_region hm ?_
 refine gM trivial (.inl rfl) rfl rfl rfl ?_
 refine gKN trivial rfl rfl rfl rfl rfl ?_
 refine gM trivial (.inl rfl) rfl rfl rfl ?_
 refine gKN trivial rfl rfl rfl rfl rfl ?_
 refine gI trivial rfl rfl rfl rfl rfl rfl ?_
 refine rg_nil nofun ?_
 refine cF rfl rfl ?_
 refine vc_skip ?_
 refine vc_seq ?_
 refine vc_seq ?_
 refine vc_region hm ?_
 refine gM trivial (.inl rfl) rfl rfl rfl ?_
 refine gKN trivial rfl rfl rfl rfl rfl ?_
 refine gM trivial (.inl rfl) rfl rfl rfl ?_
 refine rg_nil nofun ?_
 refine vc_block ?_
 refine vc_loop' (fun n_ S_=>∃ (j:Nat),j=0∧n_=0∧S_=⟨0,[(0,.slice none 0 0),(1,.slice none 0 0),(12,.int .i64 (0:Nat)),(13,.int .i64 j)],[]⟩) (m0:=idm) ⟨0,rfl,rfl,rfl⟩ (le_mk rfl ⟨⟨rfl,rfl⟩,⟨rfl,rfl⟩,⟨rfl,rfl⟩,⟨rfl,rfl⟩,trivial⟩ trivial rfl (fun _ _=>rfl)) ?_
 rintro n_ S_ ⟨j,hj,rfl,rfl⟩
 refine vc_seq ?_
 refine vc_region hm ?_
 refine gI trivial rfl rfl rfl rfl rfl rfl ?_
 refine rg_nil nofun ?_
 refine vc_seq ?_
 refine cF rfl (decide_eq_false (by omega)) ?_
 refine vc_exit ?_
 refine vc_seq ?_
 refine vc_region hm ?_
 refine gM trivial (.inr rfl) rfl rfl rfl ?_
 refine rg_nil nofun ?_
 refine vc_ret ?_
 exact ⟨idm,ends0 (.inr rfl) rfl (eqB rfl) rfl rfl rfl⟩
theorem same_nn : FDoes Try.prog 22 [.agg #[.slice none 0 0,.slice none 0 0,.slice none 0 0,.slice none 0 0,.slice none 0 0],.agg #[.slice none 0 0,.slice none 0 0,.slice none 0 0,.slice none 0 0,.slice none 0 0]] (hp []) { v:=.bool true }:=by
 have hm:Try.prog.follows .mixedOrders=true:=by kernel_rfl
 have hd_:∀ x ∈ ([]:List (Nat × Bool × Fam)),∀ k y,x.2.2 k=some y→DetB (lt 0) y:=fun x_ hx=>(by cases hx)
 refine fn_exact (u0:=0) Try.func22 rfl rfl (gets rfl rfl rfl hd_ rfl) ?_
 clear hd_
 refine vc_seq ?_
 refine vc_region hm ?_
 refine gB (u':=1) trivial rfl rfl rfl rfl rfl rfl rfl rfl ?_
 refine gB (u':=2) trivial rfl rfl rfl rfl rfl rfl rfl rfl ?_
 refine gM trivial (.inr rfl) rfl rfl rfl ?_
 refine rg_nil nofun ?_
 refine vc_seq ?_
 refine vc_region hm ?_
 refine gF trivial rfl rfl rfl rfl rfl ?_
 refine gL trivial rfl rfl rfl rfl rfl rfl rfl rfl ?_
 refine gF trivial rfl rfl rfl rfl rfl ?_
 refine gL trivial rfl rfl rfl rfl rfl rfl rfl rfl ?_
 refine gC0 [] (eqnnS_c) trivial rfl rfl rfl rfl (by trivial) rfl rfl rfl rfl rfl ?_
 refine gM trivial (.inl rfl) rfl rfl rfl ?_
 refine gF ⟨_,_,rfl,rfl,rfl⟩ rfl rfl rfl rfl rfl ?_
 refine gL ⟨_,_,rfl,rfl,rfl⟩ rfl rfl rfl rfl rfl rfl rfl rfl ?_
 refine gF ⟨_,_,rfl,rfl,rfl⟩ rfl rfl rfl rfl rfl ?_
 refine gL ⟨_,_,rfl,rfl,rfl⟩ rfl rfl rfl rfl rfl rfl rfl rfl ?_
 refine gC0 [] (eqnnS_c) ⟨_,_,rfl,rfl,rfl⟩ rfl rfl rfl rfl (by trivial) rfl rfl rfl rfl rfl ?_
 refine gPT trivial rfl rfl rfl rfl rfl rfl ?_
 refine gM trivial (.inl rfl) rfl rfl rfl ?_
 refine gF ⟨_,_,rfl,rfl,rfl⟩ rfl rfl rfl rfl rfl ?_
 refine gL ⟨_,_,rfl,rfl,rfl⟩ rfl rfl rfl rfl rfl rfl rfl rfl ?_
 refine gF ⟨_,_,rfl,rfl,rfl⟩ rfl rfl rfl rfl rfl ?_
 refine gL ⟨_,_,rfl,rfl,rfl⟩ rfl rfl rfl rfl rfl rfl rfl rfl ?_
 refine gC0 [] (eqnnI_c) ⟨_,_,rfl,rfl,rfl⟩ rfl rfl rfl rfl (by trivial) rfl rfl rfl rfl rfl ?_
 refine gPT trivial rfl rfl rfl rfl rfl rfl ?_
 refine gM trivial (.inl rfl) rfl rfl rfl ?_
 refine gF ⟨_,_,rfl,rfl,rfl⟩ rfl rfl rfl rfl rfl ?_
 refine gL ⟨_,_,rfl,rfl,rfl⟩ rfl rfl rfl rfl rfl rfl rfl rfl ?_
 refine gF ⟨_,_,rfl,rfl,rfl⟩ rfl rfl rfl rfl rfl ?_
 refine gL ⟨_,_,rfl,rfl,rfl⟩ rfl rfl rfl rfl rfl rfl rfl rfl ?_
 refine gC0 [] (eqnnI_c) ⟨_,_,rfl,rfl,rfl⟩ rfl rfl rfl rfl (by trivial) rfl rfl rfl rfl rfl ?_
 refine gPT trivial rfl rfl rfl rfl rfl rfl ?_
 refine gM trivial (.inl rfl) rfl rfl rfl ?_
 refine gF ⟨_,_,rfl,rfl,rfl⟩ rfl rfl rfl rfl rfl ?_
 refine gL ⟨_,_,rfl,rfl,rfl⟩ rfl rfl rfl rfl rfl rfl rfl rfl ?_
 refine gF ⟨_,_,rfl,rfl,rfl⟩ rfl rfl rfl rfl rfl ?_
 refine gL ⟨_,_,rfl,rfl,rfl⟩ rfl rfl rfl rfl rfl rfl rfl rfl ?_
 refine gC0 [] (eqnnI_c) ⟨_,_,rfl,rfl,rfl⟩ rfl rfl rfl rfl (by trivial) rfl rfl rfl rfl rfl ?_
 refine gPT trivial rfl rfl rfl rfl rfl rfl ?_
 refine gM trivial (.inr rfl) rfl rfl rfl ?_
 refine rg_nil nofun ?_
 refine vc_ret ?_
 exact ⟨idm,ends0 (.inr rfl) rfl (eqB rfl) rfl rfl rfl⟩
end Go.Proofs.Ytmekkapacbdbeaa.A
namespace Go.Proofs.Ytmekkapacbdbeaa.A
open Go Go.RowKit
open Go.Joins Go.ChangeShapes Go.WideShapes Go.Deep
def RawN (w:World) (v:Value) (N:Nam) (k n:Nat) (cs:List Value):Prop :=
 v=(if N.nil=true then zv N.z else .slice (some ⟨N.blk,k,none⟩) n (N.cap - 0))∧(if N.nil=true then hls k cs = [] else ∃ (c:Array Value) (t:TypeId) (z:Nat × Nat),w.heap[N.blk]?=some (.cells c t z)∧∀ (i:Nat) (x:Value),(hls k cs)[i]?=some x→x ≠ hole→c[i]?=some x)
theorem raw_none {w:World}:RawN w (.slice none 0 0) ⟨0,0,true,none⟩ 0 0 []:=⟨rfl,rfl⟩
theorem raw_of' {α:Type} {enc:α→List Value} {m:Nat} (he:∀ x,(enc x).length=m) (hm:0<m) {w:World} {a:Addr} {cap:Nat} {l:List α} (h:∀ i x,(rowL enc l)[i]?=some x→w.cell? (a.add i)=some x):∃ N k,RawN w (.slice (some a) l.length cap) N k l.length (rowL enc l)∧(N.nil=false→N.cap=cap):=by
 rcases l with _|⟨x,xs⟩
 ·exact ⟨⟨0,0,true,some (a,cap)⟩,0,⟨rfl,rfl⟩,fun q=>(by cases q)⟩
 ·have hp0:0<(rowL enc (x :: xs)).length:=by rw [rowL_len he,List.length_cons];exact Nat.mul_pos (Nat.succ_pos _) hm
  have h0:=h 0 _ (List.getElem?_eq_getElem hp0)
  have h1:∃ c t z,w.heap[a.block]?=some (.cells c t z)∧a.spot=none:=by
   have e:a.add 0=a:=by simp [Addr.add]
   unfold World.cell? at h0
   rw [e] at h0
   split at h0
   ·rename_i c t z hh
    refine ⟨c,t,z,hh,?_⟩
    split at h0
    ·cases h0
    ·rename_i hs;simpa using hs
   ·cases h0
  obtain ⟨c,t,z,hh,hs⟩:=h1
  obtain ⟨b,off,sp⟩:=a
  simp only at hs hh
  subst hs
  refine ⟨⟨b,cap,false,none⟩,off,⟨rfl,(if_neg Bool.false_ne_true).mpr ⟨c,t,z,hh,fun i v hv hne=>?_⟩⟩,fun _=>rfl⟩
  unfold hls at hv
  by_cases hi:i<off
  ·rw [List.getElem?_append_left (by simpa using hi)] at hv
   have:=List.mem_of_getElem? hv
   exact absurd (List.eq_of_mem_replicate this) hne
  ·rw [List.getElem?_append_right (by simpa using hi),List.length_replicate] at hv
   have:=h (i - off) v hv
   rw [add_eq,cell_eq hh] at this
   rw [← this]
   congr 1
   omega
def envL (l:List Nam):Env:=fun n=>(l[n % 1000]?).getD ⟨0,0,true,none⟩
theorem raw_atR {w:World} {v:Value} {N:Nam} {k n:Nat} {cs:List Value} {t:TypeId} {l:List Nam} {b:Nat} (h:RawN w v N k n cs) (hf:cs.all flat1=true) (hb:l[b]?=some N) (hb':b<1000) (ht:N.nil=false→t - capT≤N.cap):famAt (envL l) w b (one ⟨hls k cs,t,0⟩):=by
 intro k' x e
 obtain ⟨rfl,rfl⟩:=one_some e
 have e1:envL l (nm b 0)=N:=by unfold envL;rw [nm_mod hb',hb];rfl
 unfold blkAt
 rw [e1]
 have h2:=h.2
 cases hn:N.nil with
 | true=>rw [hn,if_pos rfl] at h2;rw [if_pos rfl];exact ⟨h2,fun q=>absurd rfl q,(by decide:0<100)⟩
 | false =>
  rw [hn,if_neg (by decide)] at h2
  rw [if_neg (by decide),if_pos rfl]
  obtain ⟨c,t',z,h3,h4⟩:=h2
  refine ⟨c,t',z,h3,fun i v hv hne=>?_,ht hn⟩
  rw [r1_flat (List.all_eq_true.1 (hls_flat (k:=k) hf) v (List.mem_of_getElem? hv))]
  exact h4 i v hv hne
theorem raw_r1 {w:World} {v:Value} {N:Nam} {k n:Nat} {cs:List Value} {l:List Nam} {b:Nat} (h:RawN w v N k n cs) (hb:l[b]?=some N) (hb':b<1000):r1 (envL l) (.slice (some ⟨b,k,none⟩) n 0)=v:=by
 show (if (envL l b).nil=true then zv (envL l b).z else .slice (some ⟨(envL l b).blk,k,none⟩) n ((envL l b).cap - 0))=v
 have e1:envL l b=N:=by unfold envL;rw [Nat.mod_eq_of_lt hb',hb];rfl
 rw [e1,h.1]
def AtL (ρ:Env) (w:World):List (Nat × Bool × Fam)→Prop
 | []=>True
 | x :: l=>famAt ρ w x.1 x.2.2∧AtL ρ w l
theorem atL_mem {ρ:Env} {w:World}:∀ {l:List (Nat × Bool × Fam)},AtL ρ w l→∀ b o F,l.lookup b=some (o,F)→famAt ρ w b F
 | x :: l,h,b,o,F,e=>by
  obtain ⟨c,y⟩:=x
  rw [List.lookup_cons] at e
  by_cases hb:b=c
  ·subst hb
   simp at e
   subst e
   exact h.1
  ·have:(b == c)=false:=by simpa using hb
   rw [this] at e
   exact atL_mem h.2 b o F e
theorem law_done {P:Program} {f:FuncId} {args:List Value} {hl:List (Nat × Bool × Fam)} {rd:List Nat} {ρ:Env} {w:World} {vs:Array Value} (h:FDoes P f args (hp hl) { v:=.bool true,rd:=rd }) (ha:(args.map (r3 ρ)).toArray=vs) (hr:AtL ρ w hl) :
  Calls P f vs w fun e w'=>e = .returned (.bool true)∧Below w.heap.size w w':=by
 subst ha
 refine (h.run ρ w ⟨fun b _ o F e=>atL_mem hr b o F e,fun b hb=>(by cases hb)⟩).mono fun e w' ⟨ρ',hB,he⟩=>⟨he,?_⟩
 have hf:=hB.frm
 exact Frm.below ⟨hf.os,hf.tape,hf.output,hf.size,fun k hk hn=>hf.block k hk fun ⟨b,hb,_⟩=>(by cases hb)⟩
section
variable {H:Type} {enc:TypeId × Value→H} {P:Program} {w:World} {base:Nat} {spare:Nat→Bool} {held:Bool}
end
section
variable {H:Type} {enc:TypeId × Value→H} {w:World} {base:Nat} {spare:Nat→Bool} {held:Bool}
end
theorem u8_in {n:Int} (h:(Lit.int .u8 n).wf=true):0≤n∧n≤255:=by
 have e1:IntKind.u8.min=0:=by decide
 have e2:IntKind.u8.max=255:=by decide
 simp only [Lit.wf,e1,e2,Bool.and_eq_true,decide_eq_true_eq] at h
 exact h
def CodeArg (w:World) (v:Value) (l:List Int) (N:Nam) (k:Nat):Prop:=RawN w v N k l.length (rY l)∧(N.nil=false→l.length≤N.cap)∧ByL l∧l.length≤9223372036854775807
theorem code_at {w:World} {v:Value} {l:List Int} {N:Nam} {k:Nat} {ns:List Nam} {b:Nat} (h:CodeArg w v l N k) (hb:ns[b]?=some N) (hb':b<1000):famAt (envL ns) w b (one ⟨hls k (rY l),capT + l.length,0⟩) :=
 raw_atR h.1 (rY_flat l) hb hb' fun hn=>by rw [Nat.add_sub_cancel_left];exact h.2.1 hn
theorem code_r3 {w:World} {v:Value} {l:List Int} {N:Nam} {k:Nat} {ns:List Nam} {b:Nat} (h:CodeArg w v l N k) (hb:ns[b]?=some N) (hb':b<1000):r3 (envL ns) (.slice (some ⟨b,k,none⟩) l.length 0)=v:=raw_r1 h.1 hb hb'
theorem open_bytesA {H:Type} {enc:TypeId × Value→H} {w:World} {base:Nat} {spare:Nat→Bool} {held:Bool} {r:Reach} {b0:Nat} {v:Value} {d:DataW H} {p:List MemPlace} (hv:Value.okWide Try.prog w r b0 22 v) (h:DataW.Trod enc Try.prog w base spare held 22 v d p):∃ l N k,CodeArg w v l N k:=by
 obtain ⟨a1,len,cap,rfl⟩:=okWide_slice Try.underlying22 hv
 obtain ⟨fuel,hf⟩:=h
 rcases open_ints Try.underlying22 Try.underlying5 (by kernel_rfl) hf with ⟨h1,_⟩|⟨a,len',cap',zs,h1,_,hl,hm,hz,_,hcell,hw⟩
 ·simp only [Value.cells,List.cons.injEq,_root_.and_true,Value.slice.injEq] at h1
  obtain ⟨rfl,rfl,rfl⟩:=h1
  exact ⟨[],_,_,raw_none,fun q=>(by cases q),(fun _ hx=>(nomatch hx)),by decide⟩
 ·simp only [Value.cells,List.cons.injEq,_root_.and_true,Value.slice.injEq] at h1
  obtain ⟨rfl,rfl,rfl⟩:=h1
  unfold maxLen at hm
  have hlz:len≤zs.length:=by rw [hz];split <;> omega
  have hn:(zs.take len).length=len:=by rw [List.length_take,Nat.min_eq_left hlz]
  have key:∀ i x,(rY (zs.take len))[i]?=some x→w.cell? (a.add i)=some x:=fun i x hx=>by
   have hi:=(List.getElem?_eq_some_iff.1 hx).1
   rw [rowL_len (n:=1) (fun _=>rfl),hn,Nat.mul_one] at hi
   have e1:x = .int .u8 (zs.getD i 0):=by
    have hg:=rowL_get (enc:=eY) (n:=1) (fun _=>rfl) (zs.take len) i 0 (by rw [hn];exact hi) (by decide)
    rw [Nat.mul_one,Nat.add_zero,hx,List.getElem_take] at hg
    rw [List.getD_eq_getElem?_getD,List.getElem?_eq_getElem (by omega)]
    exact Option.some.inj hg
   rw [e1]
   exact hcell i (by omega)
  obtain ⟨N,k,hr,hc⟩:=raw_of' (enc:=eY) (m:=1) (fun _=>rfl) (by decide) (cap:=cap) key
  refine ⟨zs.take len,N,k,by rw [hn] at hr ⊢;exact hr,fun q=>by rw [hc q,hn];omega,fun x hx=>u8_in (hw x (List.mem_of_mem_take hx)),by rw [hn];omega⟩
end Go.Proofs.Ytmekkapacbdbeaa.A
namespace Go.Proofs.Ytmekkapacbdbeaa.A
open Go Go.RowKit
set_option maxHeartbeats 4000000
theorem FnStoreFall_c {l:List Int} {k:Nat} (hl:ByL l) (hl9:l.length≤9223372036854775807):FDoes Try.prog 7 [.slice (some ⟨0,k,none⟩) l.length 0] (hp [(0,false,one ⟨hls k (rY l),capT + l.length,0⟩)]) { v:=.bool true,rd:=[0] }:=by
 have hm:Try.prog.follows .mixedOrders=true:=by kernel_rfl
 have hd_:∀ x_ ∈ ([(0,false,one ⟨hls k (rY l),capT + l.length,0⟩)]:List (Nat × Bool × Fam)),∀ k_ y_,x_.2.2 k_=some y_→DetB (lt 1) y_:=by
  intro x_ hx k_ y_ e
  simp only [List.mem_cons,List.not_mem_nil,or_false] at hx
  subst hx
  exact det_code e
 refine fn_exact (u0:=1) Try.func7 rfl rfl (gets rfl rfl rfl hd_ rfl) ?_
 clear hd_
 refine vc_seq ?_
 refine vc_region hm ?_
 refine gM trivial (.inr rfl) rfl rfl rfl ?_
 refine rg_nil nofun ?_
 refine vc_seq ?_
 refine vc_seq ?_
 refine vc_region hm ?_
 refine gM trivial (.inl rfl) rfl rfl rfl ?_
 refine gK trivial rfl rfl rfl rfl rfl rfl (hls_nil fun e=>rY_nil e) ?_
 refine gI trivial rfl rfl rfl rfl rfl rfl ?_
 refine rg_nil nofun ?_
 refine cI rfl (fun c8=>?_) (fun c8=>?_)
 ·skip
  have p8:=of_decide_eq_true c8
  refine vc_seq ?_
  refine vc_region hm ?_
  refine gM trivial (.inr rfl) rfl rfl rfl ?_
  refine rg_nil nofun ?_
  refine vc_ret ?_
  exact ⟨idm,ends0 (.inr rfl) rfl (eqB rfl) rfl rfl rfl⟩
 ·skip
  have p8:=of_decide_eq_false c8
  refine vc_skip ?_
  refine vc_seq ?_
  refine vc_region hm ?_
  refine gM trivial (.inl rfl) rfl rfl rfl ?_
  obtain ⟨E2,hE2,s,kk,cc,hb,rfl⟩:=drawFall_c (l:=l) (k:=k) hl
  have z0:=hb.z.a0
  have z1:=hb.z.a1
  have z2:=hb.z.a2
  have z3:=hb.z.a3
  have z4:=hb.z.a4
  refine gCF (ups':=[]) (as':=[(1,one ⟨hls kk (rS s.now),9,0⟩),(2,one ⟨rS s.sure,9,77⟩),(3,one ⟨rI s.last,3,77⟩),(4,one ⟨rI s.slast,3,77⟩),(5,one ⟨rI s.fl,3,77⟩)]) (v':=.agg #[.slice (some ⟨1,kk,none⟩) s.now.length cc,.slice (some ⟨2,0,none⟩) s.sure.length 0,.slice (some ⟨3,0,none⟩) s.last.length 0,.slice (some ⟨4,0,none⟩) s.slast.length 0,.slice (some ⟨5,0,none⟩) s.fl.length 0]) 6 [0,1,2,3,4,5] hE2 trivial rfl rfl rfl rfl ⟨rCode rfl rfl,trivial⟩ trivial ⟨frF (hls_flat (rS_flat s.now)) rfl,frF (rS_flat s.sure) rfl,frF (rI_flat s.last) rfl,frF (rI_flat s.slast) rfl,frF (rI_flat s.fl) rfl,trivial⟩ rfl rfl (fun x hx=>nomatch hx) (fun x hx=>nomatch hx) rfl rfl ?_
  refine gZ (u':=7) trivial rfl rfl rfl rfl rfl rfl rfl rfl ?_
  refine gT trivial rfl rfl rfl rfl rfl rfl rfl rfl rfl rfl (Nat.le_of_ble_eq_true rfl) rfl ?_
  refine rg_nil nofun ?_
  refine vc_seq ?_
  rcases Bool.eq_false_or_eq_true (stOk s) with hk|hk
  ·skip
   refine vc_region hm ?_
   refine gL trivial rfl rfl rfl rfl rfl rfl rfl rfl ?_
   refine gCn 12 [1,2,3,4,5,7,8,9,10,11] (impl_StoreFall_c (s:=s) (kk:=kk) (cc:=cc) hk) trivial rfl rfl rfl rfl ⟨rFlat (hls_flat (rS_flat s.now)) rfl (.inl rfl) rfl,rFlat (rS_flat s.sure) rfl (.inl rfl) rfl,rFlat (rI_flat s.last) rfl (.inl rfl) rfl,rFlat (rI_flat s.slast) rfl (.inl rfl) rfl,rFlat (rI_flat s.fl) rfl (.inl rfl) rfl,trivial⟩ ⟨rS_flat _,rS_flat _,rI_flat _,rI_flat _,rI_flat _,trivial⟩ rfl rfl rfl rfl ?_
   refine gZ (u':=13) trivial rfl rfl rfl rfl rfl rfl rfl rfl ?_
   refine gT trivial rfl rfl rfl rfl rfl rfl rfl rfl rfl rfl (Nat.le_of_ble_eq_true rfl) rfl ?_
   refine rg_nil nofun ?_
   refine vc_seq ?_
   refine vc_region hm ?_
   refine gL trivial rfl rfl rfl rfl rfl rfl rfl rfl ?_
   refine gCn 18 [1,2,3,4,5,13,14,15,16,17] (impl_StoreSync_c (s:=s) (kk:=kk) (cc:=cc) hk) trivial rfl rfl rfl rfl ⟨rFlat (hls_flat (rS_flat s.now)) rfl (.inl rfl) rfl,rFlat (rS_flat s.sure) rfl (.inl rfl) rfl,rFlat (rI_flat s.last) rfl (.inl rfl) rfl,rFlat (rI_flat s.slast) rfl (.inl rfl) rfl,rFlat (rI_flat s.fl) rfl (.inl rfl) rfl,trivial⟩ ⟨rS_flat _,rS_flat _,rI_flat _,rI_flat _,rI_flat _,trivial⟩ rfl rfl rfl rfl ?_
   refine gZ (u':=19) trivial rfl rfl rfl rfl rfl rfl rfl rfl ?_
   refine gT trivial rfl rfl rfl rfl rfl rfl rfl rfl rfl rfl (Nat.le_of_ble_eq_true rfl) rfl ?_
   refine rg_nil nofun ?_
   refine vc_seq ?_
   refine vc_seq ?_
   refine vc_region hm ?_
   refine gL trivial rfl rfl rfl rfl rfl rfl rfl rfl ?_
   refine gL trivial rfl rfl rfl rfl rfl rfl rfl rfl ?_
   refine gCn 24 [1,2,3,4,5,19,20,21,22,23] (spec_StoreFall_c (s:=s) (kk:=kk) (cc:=cc) hk) trivial rfl rfl rfl rfl ⟨rFlat (hls_flat (rS_flat s.now)) rfl (.inl rfl) rfl,rFlat (rS_flat s.sure) rfl (.inl rfl) rfl,rFlat (rI_flat s.last) rfl (.inl rfl) rfl,rFlat (rI_flat s.slast) rfl (.inl rfl) rfl,rFlat (rI_flat s.fl) rfl (.inl rfl) rfl,trivial⟩ ⟨rS_flat _,rS_flat _,rI_flat _,rI_flat _,rI_flat _,trivial⟩ rfl rfl rfl rfl ?_
   refine gC0 [7,8,9,10,11,19,20,21,22,23] (impl_StoreSame_c (a:=(fallSt s)) (b:=(fallSt s)) (ka:=0) (ca:=0) (kb:=0) (cb:=0) (sz_ok (fall_ok hk))) trivial rfl rfl rfl rfl ⟨rFlat (hls_flat (rS_flat (fallSt s).now)) rfl (.inl rfl) rfl,rFlat (rS_flat (fallSt s).sure) rfl (.inl rfl) rfl,rFlat (rI_flat (fallSt s).last) rfl (.inl rfl) rfl,rFlat (rI_flat (fallSt s).slast) rfl (.inl rfl) rfl,rFlat (rI_flat (fallSt s).fl) rfl (.inl rfl) rfl,rFlat (hls_flat (rS_flat (fallSt s).now)) rfl (.inl rfl) rfl,rFlat (rS_flat (fallSt s).sure) rfl (.inl rfl) rfl,rFlat (rI_flat (fallSt s).last) rfl (.inl rfl) rfl,rFlat (rI_flat (fallSt s).slast) rfl (.inl rfl) rfl,rFlat (rI_flat (fallSt s).fl) rfl (.inl rfl) rfl,trivial⟩ rfl rfl rfl rfl rfl ?_
   refine gN trivial rfl rfl rfl rfl ?_
   refine gM trivial (.inl rfl) rfl rfl rfl ?_
   refine gL ⟨_,_,rfl,rfl,(notT (decide_eq_true rfl))⟩ rfl rfl rfl rfl rfl rfl rfl rfl ?_
   refine gL ⟨_,_,rfl,rfl,(notT (decide_eq_true rfl))⟩ rfl rfl rfl rfl rfl rfl rfl rfl ?_
   refine gCn 29 [1,2,3,4,5,24,25,26,27,28] (spec_StoreSync_c (s:=s) (kk:=kk) (cc:=cc) hk) ⟨_,_,rfl,rfl,(notT (decide_eq_true rfl))⟩ rfl rfl rfl rfl ⟨rFlat (hls_flat (rS_flat s.now)) rfl (.inl rfl) rfl,rFlat (rS_flat s.sure) rfl (.inl rfl) rfl,rFlat (rI_flat s.last) rfl (.inl rfl) rfl,rFlat (rI_flat s.slast) rfl (.inl rfl) rfl,rFlat (rI_flat s.fl) rfl (.inl rfl) rfl,trivial⟩ ⟨rS_flat _,rS_flat _,rI_flat _,rI_flat _,rI_flat _,trivial⟩ rfl rfl rfl rfl ?_
   refine gC0 [13,14,15,16,17,24,25,26,27,28] (impl_StoreSame_c (a:=(syncSt s)) (b:=(syncSt s)) (ka:=0) (ca:=0) (kb:=0) (cb:=0) (sz_ok (sync_ok hk))) ⟨_,_,rfl,rfl,(notT (decide_eq_true rfl))⟩ rfl rfl rfl rfl ⟨rFlat (hls_flat (rS_flat (syncSt s).now)) rfl (.inl rfl) rfl,rFlat (rS_flat (syncSt s).sure) rfl (.inl rfl) rfl,rFlat (rI_flat (syncSt s).last) rfl (.inl rfl) rfl,rFlat (rI_flat (syncSt s).slast) rfl (.inl rfl) rfl,rFlat (rI_flat (syncSt s).fl) rfl (.inl rfl) rfl,rFlat (hls_flat (rS_flat (syncSt s).now)) rfl (.inl rfl) rfl,rFlat (rS_flat (syncSt s).sure) rfl (.inl rfl) rfl,rFlat (rI_flat (syncSt s).last) rfl (.inl rfl) rfl,rFlat (rI_flat (syncSt s).slast) rfl (.inl rfl) rfl,rFlat (rI_flat (syncSt s).fl) rfl (.inl rfl) rfl,trivial⟩ rfl rfl rfl rfl rfl ?_
   refine gN ⟨_,_,rfl,rfl,(notT (decide_eq_true rfl))⟩ rfl rfl rfl rfl ?_
   refine gPF trivial rfl rfl (notT (decide_eq_true rfl)) rfl rfl rfl ?_
   refine rg_nil (fun _=>by kernel_rfl) ?_
   refine cF rfl (notT (decide_eq_true rfl)) ?_
   refine vc_skip ?_
   refine vc_seq ?_
   refine vc_seq ?_
   refine vc_region hm ?_
   refine gL trivial rfl rfl rfl rfl rfl rfl rfl rfl ?_
   refine gC0 [1,2,3,4,5] (spec_StoreOk_c (s:=s) (kk:=kk) (cc:=cc) hb.z) trivial rfl rfl rfl rfl ⟨rFlat (hls_flat (rS_flat s.now)) rfl (.inl rfl) rfl,rFlat (rS_flat s.sure) rfl (.inl rfl) rfl,rFlat (rI_flat s.last) rfl (.inl rfl) rfl,rFlat (rI_flat s.slast) rfl (.inl rfl) rfl,rFlat (rI_flat s.fl) rfl (.inl rfl) rfl,trivial⟩ rfl rfl rfl rfl rfl ?_
   refine gN trivial rfl rfl rfl rfl ?_
   refine rg_nil nofun ?_
   refine cF rfl (notT hk) ?_
   refine vc_skip ?_
   refine vc_seq ?_
   refine vc_region hm ?_
   refine gL trivial rfl rfl rfl rfl rfl rfl rfl rfl ?_
   refine gC0 [7,8,9,10,11] (impl_StoreOk_c (s:=(fallSt s)) (kk:=0) (cc:=0) (sz_ok (fall_ok hk))) trivial rfl rfl rfl rfl ⟨rFlat (hls_flat (rS_flat (fallSt s).now)) rfl (.inl rfl) rfl,rFlat (rS_flat (fallSt s).sure) rfl (.inl rfl) rfl,rFlat (rI_flat (fallSt s).last) rfl (.inl rfl) rfl,rFlat (rI_flat (fallSt s).slast) rfl (.inl rfl) rfl,rFlat (rI_flat (fallSt s).fl) rfl (.inl rfl) rfl,trivial⟩ rfl rfl rfl rfl rfl ?_
   refine gM trivial (.inl rfl) rfl rfl rfl ?_
   refine gL ⟨_,_,rfl,rfl,(fall_ok hk)⟩ rfl rfl rfl rfl rfl rfl rfl rfl ?_
   refine gC0 [13,14,15,16,17] (impl_StoreOk_c (s:=(syncSt s)) (kk:=0) (cc:=0) (sz_ok (sync_ok hk))) ⟨_,_,rfl,rfl,(fall_ok hk)⟩ rfl rfl rfl rfl ⟨rFlat (hls_flat (rS_flat (syncSt s).now)) rfl (.inl rfl) rfl,rFlat (rS_flat (syncSt s).sure) rfl (.inl rfl) rfl,rFlat (rI_flat (syncSt s).last) rfl (.inl rfl) rfl,rFlat (rI_flat (syncSt s).slast) rfl (.inl rfl) rfl,rFlat (rI_flat (syncSt s).fl) rfl (.inl rfl) rfl,trivial⟩ rfl rfl rfl rfl rfl ?_
   refine gPT trivial rfl rfl (fall_ok hk) rfl rfl rfl ?_
   refine gM trivial (.inl rfl) rfl rfl rfl ?_
   refine gL ⟨_,_,rfl,rfl,(sync_ok hk)⟩ rfl rfl rfl rfl rfl rfl rfl rfl ?_
   refine gCn 34 [7,8,9,10,11,29,30,31,32,33] (impl_StoreFall_c (s:=(fallSt s)) (kk:=0) (cc:=0) (fall_ok hk)) ⟨_,_,rfl,rfl,(sync_ok hk)⟩ rfl rfl rfl rfl ⟨rFlat (hls_flat (rS_flat (fallSt s).now)) rfl (.inl rfl) rfl,rFlat (rS_flat (fallSt s).sure) rfl (.inl rfl) rfl,rFlat (rI_flat (fallSt s).last) rfl (.inl rfl) rfl,rFlat (rI_flat (fallSt s).slast) rfl (.inl rfl) rfl,rFlat (rI_flat (fallSt s).fl) rfl (.inl rfl) rfl,trivial⟩ ⟨rS_flat _,rS_flat _,rI_flat _,rI_flat _,rI_flat _,trivial⟩ rfl rfl rfl rfl ?_
   refine gL ⟨_,_,rfl,rfl,(sync_ok hk)⟩ rfl rfl rfl rfl rfl rfl rfl rfl ?_
   refine gC0 [29,30,31,32,33,7,8,9,10,11] (impl_StoreSame_c (a:=(fallSt (fallSt s))) (b:=(fallSt s)) (ka:=0) (ca:=0) (kb:=0) (cb:=0) (sz_ok (fall_ok (fall_ok hk)))) ⟨_,_,rfl,rfl,(sync_ok hk)⟩ rfl rfl rfl rfl ⟨rFlat (hls_flat (rS_flat (fallSt (fallSt s)).now)) rfl (.inl rfl) rfl,rFlat (rS_flat (fallSt (fallSt s)).sure) rfl (.inl rfl) rfl,rFlat (rI_flat (fallSt (fallSt s)).last) rfl (.inl rfl) rfl,rFlat (rI_flat (fallSt (fallSt s)).slast) rfl (.inl rfl) rfl,rFlat (rI_flat (fallSt (fallSt s)).fl) rfl (.inl rfl) rfl,rFlat (hls_flat (rS_flat (fallSt s).now)) rfl (.inl rfl) rfl,rFlat (rS_flat (fallSt s).sure) rfl (.inl rfl) rfl,rFlat (rI_flat (fallSt s).last) rfl (.inl rfl) rfl,rFlat (rI_flat (fallSt s).slast) rfl (.inl rfl) rfl,rFlat (rI_flat (fallSt s).fl) rfl (.inl rfl) rfl,trivial⟩ rfl rfl rfl rfl rfl ?_
   refine gPT trivial rfl rfl (sync_ok hk) rfl rfl rfl ?_
   refine gM trivial (.inl rfl) rfl rfl rfl ?_
   refine gL ⟨_,_,rfl,rfl,(decide_eq_true rfl)⟩ rfl rfl rfl rfl rfl rfl rfl rfl ?_
   refine gCn 39 [13,14,15,16,17,34,35,36,37,38] (impl_StoreFall_c (s:=(syncSt s)) (kk:=0) (cc:=0) (sync_ok hk)) ⟨_,_,rfl,rfl,(decide_eq_true rfl)⟩ rfl rfl rfl rfl ⟨rFlat (hls_flat (rS_flat (syncSt s).now)) rfl (.inl rfl) rfl,rFlat (rS_flat (syncSt s).sure) rfl (.inl rfl) rfl,rFlat (rI_flat (syncSt s).last) rfl (.inl rfl) rfl,rFlat (rI_flat (syncSt s).slast) rfl (.inl rfl) rfl,rFlat (rI_flat (syncSt s).fl) rfl (.inl rfl) rfl,trivial⟩ ⟨rS_flat _,rS_flat _,rI_flat _,rI_flat _,rI_flat _,trivial⟩ rfl rfl rfl rfl ?_
   refine gL ⟨_,_,rfl,rfl,(decide_eq_true rfl)⟩ rfl rfl rfl rfl rfl rfl rfl rfl ?_
   refine gC0 [34,35,36,37,38,13,14,15,16,17] (impl_StoreSame_c (a:=(fallSt (syncSt s))) (b:=(syncSt s)) (ka:=0) (ca:=0) (kb:=0) (cb:=0) (sz_ok (fall_ok (sync_ok hk)))) ⟨_,_,rfl,rfl,(decide_eq_true rfl)⟩ rfl rfl rfl rfl ⟨rFlat (hls_flat (rS_flat (fallSt (syncSt s)).now)) rfl (.inl rfl) rfl,rFlat (rS_flat (fallSt (syncSt s)).sure) rfl (.inl rfl) rfl,rFlat (rI_flat (fallSt (syncSt s)).last) rfl (.inl rfl) rfl,rFlat (rI_flat (fallSt (syncSt s)).slast) rfl (.inl rfl) rfl,rFlat (rI_flat (fallSt (syncSt s)).fl) rfl (.inl rfl) rfl,rFlat (hls_flat (rS_flat (syncSt s).now)) rfl (.inl rfl) rfl,rFlat (rS_flat (syncSt s).sure) rfl (.inl rfl) rfl,rFlat (rI_flat (syncSt s).last) rfl (.inl rfl) rfl,rFlat (rI_flat (syncSt s).slast) rfl (.inl rfl) rfl,rFlat (rI_flat (syncSt s).fl) rfl (.inl rfl) rfl,trivial⟩ rfl rfl rfl rfl rfl ?_
   refine gPT trivial rfl rfl (decide_eq_true rfl) rfl rfl rfl ?_
   refine gM trivial (.inl rfl) rfl rfl rfl ?_
   refine gL ⟨_,_,rfl,rfl,(decide_eq_true rfl)⟩ rfl rfl rfl rfl rfl rfl rfl rfl ?_
   refine gCn 44 [7,8,9,10,11,39,40,41,42,43] (impl_StoreSync_c (s:=(fallSt s)) (kk:=0) (cc:=0) (fall_ok hk)) ⟨_,_,rfl,rfl,(decide_eq_true rfl)⟩ rfl rfl rfl rfl ⟨rFlat (hls_flat (rS_flat (fallSt s).now)) rfl (.inl rfl) rfl,rFlat (rS_flat (fallSt s).sure) rfl (.inl rfl) rfl,rFlat (rI_flat (fallSt s).last) rfl (.inl rfl) rfl,rFlat (rI_flat (fallSt s).slast) rfl (.inl rfl) rfl,rFlat (rI_flat (fallSt s).fl) rfl (.inl rfl) rfl,trivial⟩ ⟨rS_flat _,rS_flat _,rI_flat _,rI_flat _,rI_flat _,trivial⟩ rfl rfl rfl rfl ?_
   refine gL ⟨_,_,rfl,rfl,(decide_eq_true rfl)⟩ rfl rfl rfl rfl rfl rfl rfl rfl ?_
   refine gC0 [39,40,41,42,43,7,8,9,10,11] (impl_StoreSame_c (a:=(syncSt (fallSt s))) (b:=(fallSt s)) (ka:=0) (ca:=0) (kb:=0) (cb:=0) (sz_ok (sync_ok (fall_ok hk)))) ⟨_,_,rfl,rfl,(decide_eq_true rfl)⟩ rfl rfl rfl rfl ⟨rFlat (hls_flat (rS_flat (syncSt (fallSt s)).now)) rfl (.inl rfl) rfl,rFlat (rS_flat (syncSt (fallSt s)).sure) rfl (.inl rfl) rfl,rFlat (rI_flat (syncSt (fallSt s)).last) rfl (.inl rfl) rfl,rFlat (rI_flat (syncSt (fallSt s)).slast) rfl (.inl rfl) rfl,rFlat (rI_flat (syncSt (fallSt s)).fl) rfl (.inl rfl) rfl,rFlat (hls_flat (rS_flat (fallSt s).now)) rfl (.inl rfl) rfl,rFlat (rS_flat (fallSt s).sure) rfl (.inl rfl) rfl,rFlat (rI_flat (fallSt s).last) rfl (.inl rfl) rfl,rFlat (rI_flat (fallSt s).slast) rfl (.inl rfl) rfl,rFlat (rI_flat (fallSt s).fl) rfl (.inl rfl) rfl,trivial⟩ rfl rfl rfl rfl rfl ?_
   refine gPT trivial rfl rfl (decide_eq_true rfl) rfl rfl rfl ?_
   refine gM trivial (.inl rfl) rfl rfl rfl ?_
   refine gF ⟨_,_,rfl,rfl,(decide_eq_true rfl)⟩ rfl rfl rfl rfl rfl ?_
   refine gL ⟨_,_,rfl,rfl,(decide_eq_true rfl)⟩ rfl rfl rfl rfl rfl rfl rfl rfl ?_
   refine gF ⟨_,_,rfl,rfl,(decide_eq_true rfl)⟩ rfl rfl rfl rfl rfl ?_
   refine gL ⟨_,_,rfl,rfl,(decide_eq_true rfl)⟩ rfl rfl rfl rfl rfl rfl rfl rfl ?_
   refine gC0 [11,5] (wpNums_c (a:=s.fl) (b:=s.fl) (ka:=0) (ca:=0) (kb:=0) (cb:=0) z4) ⟨_,_,rfl,rfl,(decide_eq_true rfl)⟩ rfl rfl rfl rfl ⟨rFlat (hls_flat (rI_flat _)) rfl (.inl rfl) rfl,rFlat (hls_flat (rI_flat _)) rfl (.inl rfl) rfl,trivial⟩ rfl rfl rfl rfl rfl ?_
   refine gPT trivial rfl rfl (decide_eq_true rfl) rfl rfl rfl ?_
   refine gM trivial (.inr rfl) rfl rfl rfl ?_
   refine rg_nil (fun _=>by kernel_rfl) ?_
   refine vc_ret ?_
   exact ⟨idm,ends0 (.inr rfl) rfl (eqB (decide_eq_true rfl).symm) rfl rfl rfl⟩
  ·skip
   refine vc_region hm ?_
   refine gL trivial rfl rfl rfl rfl rfl rfl rfl rfl ?_
   refine gC0 [1,2,3,4,5] (impl_StoreFall_n (s:=s) (kk:=kk) (cc:=cc) hb.z hk) trivial rfl rfl rfl rfl ⟨rFlat (hls_flat (rS_flat s.now)) rfl (.inl rfl) rfl,rFlat (rS_flat s.sure) rfl (.inl rfl) rfl,rFlat (rI_flat s.last) rfl (.inl rfl) rfl,rFlat (rI_flat s.slast) rfl (.inl rfl) rfl,rFlat (rI_flat s.fl) rfl (.inl rfl) rfl,trivial⟩ rfl rfl rfl rfl rfl ?_
   refine gZ (u':=8) trivial rfl rfl rfl rfl rfl rfl rfl rfl ?_
   refine gT trivial rfl rfl rfl rfl rfl rfl rfl rfl rfl rfl (Nat.le_of_ble_eq_true rfl) rfl ?_
   refine rg_nil nofun ?_
   refine vc_seq ?_
   refine vc_region hm ?_
   refine gL trivial rfl rfl rfl rfl rfl rfl rfl rfl ?_
   refine gC0 [1,2,3,4,5] (impl_StoreSync_n (s:=s) (kk:=kk) (cc:=cc) hb.z hk) trivial rfl rfl rfl rfl ⟨rFlat (hls_flat (rS_flat s.now)) rfl (.inl rfl) rfl,rFlat (rS_flat s.sure) rfl (.inl rfl) rfl,rFlat (rI_flat s.last) rfl (.inl rfl) rfl,rFlat (rI_flat s.slast) rfl (.inl rfl) rfl,rFlat (rI_flat s.fl) rfl (.inl rfl) rfl,trivial⟩ rfl rfl rfl rfl rfl ?_
   refine gZ (u':=9) trivial rfl rfl rfl rfl rfl rfl rfl rfl ?_
   refine gT trivial rfl rfl rfl rfl rfl rfl rfl rfl rfl rfl (Nat.le_of_ble_eq_true rfl) rfl ?_
   refine rg_nil nofun ?_
   refine vc_seq ?_
   refine vc_seq ?_
   refine vc_region hm ?_
   refine gL trivial rfl rfl rfl rfl rfl rfl rfl rfl ?_
   refine gL trivial rfl rfl rfl rfl rfl rfl rfl rfl ?_
   refine gC0 [1,2,3,4,5] (spec_StoreFall_n (s:=s) (kk:=kk) (cc:=cc) hb.z hk) trivial rfl rfl rfl rfl ⟨rFlat (hls_flat (rS_flat s.now)) rfl (.inl rfl) rfl,rFlat (rS_flat s.sure) rfl (.inl rfl) rfl,rFlat (rI_flat s.last) rfl (.inl rfl) rfl,rFlat (rI_flat s.slast) rfl (.inl rfl) rfl,rFlat (rI_flat s.fl) rfl (.inl rfl) rfl,trivial⟩ rfl rfl rfl rfl rfl ?_
   refine gC0 [] (same_nn) trivial rfl rfl rfl rfl (by trivial) rfl rfl rfl rfl rfl ?_
   refine gN trivial rfl rfl rfl rfl ?_
   refine gM trivial (.inl rfl) rfl rfl rfl ?_
   refine gL ⟨_,_,rfl,rfl,(notT rfl)⟩ rfl rfl rfl rfl rfl rfl rfl rfl ?_
   refine gL ⟨_,_,rfl,rfl,(notT rfl)⟩ rfl rfl rfl rfl rfl rfl rfl rfl ?_
   refine gC0 [1,2,3,4,5] (spec_StoreSync_n (s:=s) (kk:=kk) (cc:=cc) hb.z hk) ⟨_,_,rfl,rfl,(notT rfl)⟩ rfl rfl rfl rfl ⟨rFlat (hls_flat (rS_flat s.now)) rfl (.inl rfl) rfl,rFlat (rS_flat s.sure) rfl (.inl rfl) rfl,rFlat (rI_flat s.last) rfl (.inl rfl) rfl,rFlat (rI_flat s.slast) rfl (.inl rfl) rfl,rFlat (rI_flat s.fl) rfl (.inl rfl) rfl,trivial⟩ rfl rfl rfl rfl rfl ?_
   refine gC0 [] (same_nn) ⟨_,_,rfl,rfl,(notT rfl)⟩ rfl rfl rfl rfl (by trivial) rfl rfl rfl rfl rfl ?_
   refine gN ⟨_,_,rfl,rfl,(notT rfl)⟩ rfl rfl rfl rfl ?_
   refine gPF trivial rfl rfl (notT rfl) rfl rfl rfl ?_
   refine rg_nil (fun _=>by kernel_rfl) ?_
   refine cF rfl (notT rfl) ?_
   refine vc_skip ?_
   refine vc_seq ?_
   refine vc_seq ?_
   refine vc_region hm ?_
   refine gL trivial rfl rfl rfl rfl rfl rfl rfl rfl ?_
   refine gC0 [1,2,3,4,5] (spec_StoreOk_c (s:=s) (kk:=kk) (cc:=cc) hb.z) trivial rfl rfl rfl rfl ⟨rFlat (hls_flat (rS_flat s.now)) rfl (.inl rfl) rfl,rFlat (rS_flat s.sure) rfl (.inl rfl) rfl,rFlat (rI_flat s.last) rfl (.inl rfl) rfl,rFlat (rI_flat s.slast) rfl (.inl rfl) rfl,rFlat (rI_flat s.fl) rfl (.inl rfl) rfl,trivial⟩ rfl rfl rfl rfl rfl ?_
   refine gN trivial rfl rfl rfl rfl ?_
   refine rg_nil nofun ?_
   refine cT rfl (notF hk) ?_
   refine vc_seq ?_
   refine vc_region hm ?_
   refine gL trivial rfl rfl rfl rfl rfl rfl rfl rfl ?_
   refine gU trivial rfl rfl rfl rfl rfl rfl rfl rfl ?_
   refine gC0 [] (same_nn) trivial rfl rfl rfl rfl (by trivial) rfl rfl rfl rfl rfl ?_
   refine gM trivial (.inl rfl) rfl rfl rfl ?_
   refine gL ⟨_,_,rfl,rfl,rfl⟩ rfl rfl rfl rfl rfl rfl rfl rfl ?_
   refine gU ⟨_,_,rfl,rfl,rfl⟩ rfl rfl rfl rfl rfl rfl rfl rfl ?_
   refine gC0 [] (same_nn) ⟨_,_,rfl,rfl,rfl⟩ rfl rfl rfl rfl (by trivial) rfl rfl rfl rfl rfl ?_
   refine gPT trivial rfl rfl rfl rfl rfl rfl ?_
   refine gM trivial (.inr rfl) rfl rfl rfl ?_
   refine rg_nil nofun ?_
   refine vc_ret ?_
   exact ⟨idm,ends0 (.inr rfl) rfl (eqB rfl) rfl rfl rfl⟩
theorem FnStoreFall_walk {w:World} {v0:Value} {l0:List Int} {N0:Nam} {k0:Nat} (h0:CodeArg w v0 l0 N0 k0):Calls Try.prog 7 #[v0] w fun e w'=>e = .returned (.bool true)∧Below w.heap.size w w' :=
 law_done (FnStoreFall_c h0.2.2.1 h0.2.2.2) (ρ:=envL [N0]) (by simp only [List.map_cons,List.map_nil,code_r3 (ns:=[N0]) (b:=0) h0 rfl (of_blt rfl)]) ⟨code_at h0 rfl (of_blt rfl),trivial⟩
end Go.Proofs.Ytmekkapacbdbeaa.A

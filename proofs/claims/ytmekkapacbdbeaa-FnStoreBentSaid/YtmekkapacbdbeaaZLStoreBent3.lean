/- Part 3 of the proof of FnStoreBent: words, contracts of callees, plain lemmas. -/
import Derived.Test.YtmekkapacbdbeaaZLStoreBent2
set_option maxHeartbeats 8000000
set_option maxRecDepth 100000
set_option linter.unusedVariables false
set_option linter.unusedSimpArgs false
namespace Go.Proofs.Ytmekkapacbdbeaa.A
open Go Go.RowKit
set_option maxHeartbeats 4000000
theorem set_I {l:List Int} {a b x:Int} {i:Nat} (h:∀ y ∈ l,a≤y∧y≤b) (hx:a≤x∧x≤b):∀ y ∈ l.set i x,a≤y∧y≤b:=fun y hy=>by
 rcases List.mem_or_eq_of_mem_set hy with h1|h1
 ·exact h y h1
 ·rw [h1];exact hx
theorem bn_0 {s:Stv} (h:DrB s):DrB ⟨s.now.drop 1,s.sure,s.last,s.slast,s.fl⟩:=⟨⟨by have:=h.z.a0;show (s.now.drop 1).length≤_;rw [List.length_drop];omega,h.z.a1,h.z.a2,h.z.a3,h.z.a4,fun x hx=>h.z.b0 x (List.mem_of_mem_drop hx),h.z.b1⟩,h.l,h.f⟩
theorem bn_1 {s:Stv} {i:Nat} (h:DrB s):DrB ⟨s.now,s.sure.set i ⟨#[65]⟩,s.last,s.slast,s.fl⟩:=⟨⟨h.z.a0,by have:=h.z.a1;show (s.sure.set _ _).length≤_;rw [List.length_set];omega,h.z.a2,h.z.a3,h.z.a4,h.z.b0,fun y hy=>by
 rcases List.mem_or_eq_of_mem_set hy with h1|h1
 ·exact h.z.b1 y h1
 ·rw [h1];decide⟩,h.l,h.f⟩
theorem bn_2 {s:Stv} {i:Nat} {x:Int} (h:DrB s) (hx:-1≤x∧x≤1001):DrB ⟨s.now,s.sure,s.last.set i x,s.slast,s.fl⟩:=⟨⟨h.z.a0,h.z.a1,by have:=h.z.a2;show (s.last.set _ _).length≤_;rw [List.length_set];omega,h.z.a3,h.z.a4,h.z.b0,h.z.b1⟩,set_I h.l hx,h.f⟩
theorem bn_3 {s:Stv} {i:Nat} {x:Int} (h:DrB s):DrB ⟨s.now,s.sure,s.last,s.slast.set i x,s.fl⟩:=⟨⟨h.z.a0,h.z.a1,h.z.a2,by have:=h.z.a3;show (s.slast.set _ _).length≤_;rw [List.length_set];omega,h.z.a4,h.z.b0,h.z.b1⟩,h.l,h.f⟩
theorem bn_4 {s:Stv} {i:Nat} {x:Int} (h:DrB s) (hx:-1≤x∧x≤101):DrB ⟨s.now,s.sure,s.last,s.slast,s.fl.set i x⟩:=⟨⟨h.z.a0,h.z.a1,h.z.a2,h.z.a3,by have:=h.z.a4;show (s.fl.set _ _).length≤_;rw [List.length_set];omega,h.z.b0,h.z.b1⟩,h.l,set_I h.f hx⟩
theorem bn_5 {s:Stv} (h:DrB s):DrB ⟨s.now,s.sure,s.last,s.slast,[]⟩:=⟨⟨h.z.a0,h.z.a1,h.z.a2,h.z.a3,Nat.zero_le _,h.z.b0,h.z.b1⟩,h.l,fun y hy=>nomatch hy⟩
theorem bn_6 {s:Stv} (h:DrB s):DrB ⟨[],s.sure,s.last,s.slast,s.fl⟩:=⟨⟨Nat.zero_le _,h.z.a1,h.z.a2,h.z.a3,h.z.a4,fun y hy=>(nomatch hy),h.z.b1⟩,h.l,h.f⟩
theorem rS_drop {l:List ByteArray}:(rS l).drop 1=rS (l.drop 1):=by
 cases l with
 | nil=>rfl
 | cons x l=>rfl
theorem bent5_c {l:List Int} {k n t0:Nat} {p:Int} (hl:ByL l) (hn:n≤l.length) (hp0:0≤p) (hp1:p≤985000) {s:Stv} {kk cc:Nat} (hb:DrB s):∃ E,FDoes Try.prog 46 [.pointer (some ⟨1,0,none⟩),.agg #[.slice (some ⟨2,kk,none⟩) s.now.length cc,.slice (some ⟨3,0,none⟩) s.sure.length 0,.slice (some ⟨4,0,none⟩) s.last.length 0,.slice (some ⟨5,0,none⟩) s.slast.length 0,.slice (some ⟨6,0,none⟩) s.fl.length 0]] (hp [(0,false,one ⟨hls k (rY l),t0,0⟩),(1,true,one ⟨[.slice (some ⟨0,k,none⟩) n 0,.int .i64 (p)],83,2⟩),(2,false,one ⟨hls kk (rS s.now),9,0⟩),(3,false,one ⟨rS s.sure,9,0⟩),(4,false,one ⟨rI s.last,3,0⟩),(5,false,one ⟨rI s.slast,3,0⟩),(6,false,one ⟨rI s.fl,3,0⟩)]) E∧∃ (x:Stv) (k2 c2:Nat) (p2:Int),DrB x∧p≤p2∧p2≤p + 10∧E=mkF (.agg #[.slice (some ⟨7,k2,none⟩) x.now.length c2,.slice (some ⟨8,0,none⟩) x.sure.length 0,.slice (some ⟨9,0,none⟩) x.last.length 0,.slice (some ⟨10,0,none⟩) x.slast.length 0,.slice (some ⟨11,0,none⟩) x.fl.length 0]) [0,2,3,4,5,6] [(1,one ⟨[.slice (some ⟨0,k,none⟩) n 0,.int .i64 (p2)],83,2⟩)] [(7,one ⟨hls k2 (rS x.now),9,0⟩),(8,one ⟨rS x.sure,9,77⟩),(9,one ⟨rI x.last,3,77⟩),(10,one ⟨rI x.slast,3,77⟩),(11,one ⟨rI x.fl,3,77⟩)]:=by
 have hm:Try.prog.follows .mixedOrders=true:=by kernel_rfl
 have hd_:∀ x_ ∈ ([(0,false,one ⟨hls k (rY l),t0,0⟩),(1,true,one ⟨[.slice (some ⟨0,k,none⟩) n 0,.int .i64 (p)],83,2⟩),(2,false,one ⟨hls kk (rS s.now),9,0⟩),(3,false,one ⟨rS s.sure,9,0⟩),(4,false,one ⟨rI s.last,3,0⟩),(5,false,one ⟨rI s.slast,3,0⟩),(6,false,one ⟨rI s.fl,3,0⟩)]:List (Nat × Bool × Fam)),∀ k_ y_,x_.2.2 k_=some y_→DetB (lt 7) y_:=by
  intro x_ hx k_ y_ e
  simp only [List.mem_cons,List.not_mem_nil,or_false] at hx
  rcases hx with rfl|rfl|rfl|rfl|rfl|rfl|rfl
  ·exact det_code e
  ·exact det_ok rfl e
  ·exact det_row (hls_flat (rS_flat s.now)) e
  ·exact det_row (rS_flat s.sure) e
  ·exact det_row (rI_flat s.last) e
  ·exact det_row (rI_flat s.slast) e
  ·exact det_row (rI_flat s.fl) e
 refine fn_some (u0:=7) Try.func46 rfl rfl (gets rfl rfl rfl hd_ rfl) ?_
 clear hd_
 refine vc_seq ?_
 refine vc_region hm ?_
 refine gB (u':=8) trivial rfl rfl rfl rfl rfl rfl rfl rfl ?_
 refine gZ (u':=9) trivial rfl rfl rfl rfl rfl rfl rfl rfl ?_
 refine rg_nil nofun ?_
 refine vc_seq ?_
 refine vc_region hm ?_
 refine gL trivial rfl rfl rfl rfl rfl rfl rfl rfl ?_
 refine gCn 14 [2,3,4,5,6,9,10,11,12,13] (l5Copy_c (s:=s) (kk:=kk) (cc:=cc) hb.z) trivial rfl rfl rfl rfl ⟨rFlat (hls_flat (rS_flat s.now)) rfl (.inl rfl) rfl,rFlat (rS_flat s.sure) rfl (.inl rfl) rfl,rFlat (rI_flat s.last) rfl (.inl rfl) rfl,rFlat (rI_flat s.slast) rfl (.inl rfl) rfl,rFlat (rI_flat s.fl) rfl (.inl rfl) rfl,trivial⟩ ⟨rS_flat s.now,rS_flat s.sure,rI_flat s.last,rI_flat s.slast,rI_flat s.fl,trivial⟩ rfl rfl rfl rfl ?_
 refine gZ (u':=15) trivial rfl rfl rfl rfl rfl rfl rfl rfl ?_
 refine gT trivial rfl rfl rfl rfl rfl rfl rfl rfl rfl rfl (Nat.le_of_ble_eq_true rfl) rfl ?_
 refine rg_nil nofun ?_
 refine vc_seq ?_
 refine vc_seq ?_
 refine vc_region hm ?_
 refine gM trivial (.inl rfl) rfl rfl rfl ?_
 obtain ⟨E1,hE1,x1,x1a,x1b,rfl⟩:=pick_c (k:=k) (t0:=t0) (p:=p) hl hn (by omega) (by omega) (m:=72) (by omega) (by omega)
 refine gCF (ups':=[(1,one ⟨[.slice (some ⟨0,k,none⟩) n 0,.int .i64 (p + 1)],83,2⟩)]) (as':=[]) (v':=.int .i64 x1) 15 [0,1] hE1 trivial rfl rfl rfl rfl ⟨rCode rfl rfl,rCells rfl ⟨rfl,rfl,.inr rfl⟩ rfl,trivial⟩ ⟨frOne rfl rfl,trivial⟩ trivial rfl rfl (ho1 ⟨_,rfl⟩) (hu1 rfl) rfl rfl ?_
 refine rg_nil nofun ?_
 refine vc_block ?_
 refine vc_seq ?_
 refine vc_region hm ?_
 refine gI trivial rfl rfl rfl rfl rfl rfl ?_
 refine gM trivial (.inr rfl) rfl rfl rfl ?_
 refine rg_nil nofun ?_
 refine cI rfl (fun c10=>?_) (fun c10=>?_)
 ·skip
  have p10:=eq_of_beq c10
  refine vc_seq ?_
  refine vc_region hm ?_
  refine gF trivial rfl rfl rfl rfl rfl ?_
  refine gL trivial rfl rfl rfl rfl rfl rfl rfl rfl ?_
  refine gK trivial rfl rfl rfl rfl rfl rfl rS_nil ?_
  refine gI trivial rfl rfl rfl rfl rfl rfl ?_
  refine rg_nil nofun ?_
  refine cI rfl (fun c15=>?_) (fun c15=>?_)
  ·skip
   have p15:=of_decide_eq_true c15
   rcases Nat.lt_or_ge 1 s.now.length with g1|g1
   ·skip
    refine vc_region hm ?_
    refine gF trivial rfl rfl rfl rfl rfl ?_
    refine gL trivial rfl rfl rfl rfl rfl rfl rfl rfl ?_
    refine gTailO trivial rfl rfl rfl rfl rfl rfl rfl rfl rfl (by rw [rowL_len (n:=1) (fun _=>rfl)];rfl) (by decide) (by omega) ?_
    refine gF trivial rfl rfl rfl rfl rfl ?_
    refine gT trivial rfl rfl rfl rfl rfl rfl rfl rfl rfl rfl (Nat.le_of_ble_eq_true rfl) rfl ?_
    refine rg_nil nofun ?_
    refine vc_seq ?_
    refine vc_region hm ?_
    refine gL trivial rfl rfl rfl rfl rfl rfl rfl rfl ?_
    refine gT trivial rfl rfl rfl rfl rfl rfl rfl rfl rfl rfl (Nat.le_of_ble_eq_true rfl) rfl ?_
    refine rg_nil nofun ?_
    refine vc_re (S2:=⟨15,[(4,.pointer (some ⟨8,0,none⟩))],[(1,true,one ⟨[.slice (some ⟨0,k,none⟩) n 0,.int .i64 (p + 1)],83,2⟩),(8,true,one ⟨[.slice (some ⟨9,(Int.toNat 1 * 1),none⟩) (s.now.length - Int.toNat 1) (Int.toNat 1),.slice (some ⟨10,0,none⟩) s.sure.length 0,.slice (some ⟨11,0,none⟩) s.last.length 0,.slice (some ⟨12,0,none⟩) s.slast.length 0,.slice (some ⟨13,0,none⟩) s.fl.length 0],26,5⟩),(9,true,one ⟨hls 1 (rS (⟨s.now.drop 1,s.sure,s.last,s.slast,s.fl⟩:Stv).now),9,0⟩),(10,true,one ⟨rS (⟨s.now.drop 1,s.sure,s.last,s.slast,s.fl⟩:Stv).sure,9,77⟩),(11,true,one ⟨rI (⟨s.now.drop 1,s.sure,s.last,s.slast,s.fl⟩:Stv).last,3,77⟩),(12,true,one ⟨rI (⟨s.now.drop 1,s.sure,s.last,s.slast,s.fl⟩:Stv).slast,3,77⟩),(13,true,one ⟨rI (⟨s.now.drop 1,s.sure,s.last,s.slast,s.fl⟩:Stv).fl,3,77⟩)]⟩) (re_nil (ms:=[0,1,2,3,4,5,6,7,8,9,10,11,12,13,14]) (C:=999) rfl ⟨⟨⟨rfl,rfl⟩,rfl⟩,trivial⟩ ⟨ktRow rfl rfl rfl (BlkW.refl _) id rfl,ktRow rfl rfl rfl ⟨.inl rfl,fun _=>rfl,.inr (.inl rfl),fun q=>(by cases q)⟩ id rfl,ktHol (rS_flat _) rfl rS_drop (rS_ne (by omega)) id rfl rfl,ktFlat (rS_flat _) rfl (.inr (.inr ⟨Nat.le_of_ble_eq_true rfl,Nat.le_of_ble_eq_true rfl,fun q=>absurd q (Nat.succ_ne_zero _)⟩)) id rfl,ktFlat (rI_flat _) rfl (.inr (.inr ⟨Nat.le_of_ble_eq_true rfl,Nat.le_of_ble_eq_true rfl,fun q=>absurd q (Nat.succ_ne_zero _)⟩)) id rfl,ktFlat (rI_flat _) rfl (.inr (.inr ⟨Nat.le_of_ble_eq_true rfl,Nat.le_of_ble_eq_true rfl,fun q=>absurd q (Nat.succ_ne_zero _)⟩)) id rfl,ktFlat (rI_flat _) rfl (.inr (.inr ⟨Nat.le_of_ble_eq_true rfl,Nat.le_of_ble_eq_true rfl,fun q=>absurd q (Nat.succ_ne_zero _)⟩)) id rfl,trivial⟩ rfl rfl (rig_of rfl) rfl) ?_
    refine vc_ret ?_
    exact ⟨mkF (.agg #[.slice (some ⟨7,1,none⟩) (⟨s.now.drop 1,s.sure,s.last,s.slast,s.fl⟩:Stv).now.length 1,.slice (some ⟨8,0,none⟩) (⟨s.now.drop 1,s.sure,s.last,s.slast,s.fl⟩:Stv).sure.length 0,.slice (some ⟨9,0,none⟩) (⟨s.now.drop 1,s.sure,s.last,s.slast,s.fl⟩:Stv).last.length 0,.slice (some ⟨10,0,none⟩) (⟨s.now.drop 1,s.sure,s.last,s.slast,s.fl⟩:Stv).slast.length 0,.slice (some ⟨11,0,none⟩) (⟨s.now.drop 1,s.sure,s.last,s.slast,s.fl⟩:Stv).fl.length 0]) [0,2,3,4,5,6] [(1,one ⟨[.slice (some ⟨0,k,none⟩) n 0,.int .i64 (p + 1)],83,2⟩)] [(7,one ⟨hls 1 (rS (⟨s.now.drop 1,s.sure,s.last,s.slast,s.fl⟩:Stv).now),9,0⟩),(8,one ⟨rS (⟨s.now.drop 1,s.sure,s.last,s.slast,s.fl⟩:Stv).sure,9,77⟩),(9,one ⟨rI (⟨s.now.drop 1,s.sure,s.last,s.slast,s.fl⟩:Stv).last,3,77⟩),(10,one ⟨rI (⟨s.now.drop 1,s.sure,s.last,s.slast,s.fl⟩:Stv).slast,3,77⟩),(11,one ⟨rI (⟨s.now.drop 1,s.sure,s.last,s.slast,s.fl⟩:Stv).fl,3,77⟩)],_,endsT [(7,9,one ⟨hls 1 (rS (⟨s.now.drop 1,s.sure,s.last,s.slast,s.fl⟩:Stv).now),9,0⟩),(8,10,one ⟨rS (⟨s.now.drop 1,s.sure,s.last,s.slast,s.fl⟩:Stv).sure,9,77⟩),(9,11,one ⟨rI (⟨s.now.drop 1,s.sure,s.last,s.slast,s.fl⟩:Stv).last,3,77⟩),(10,12,one ⟨rI (⟨s.now.drop 1,s.sure,s.last,s.slast,s.fl⟩:Stv).slast,3,77⟩),(11,13,one ⟨rI (⟨s.now.drop 1,s.sure,s.last,s.slast,s.fl⟩:Stv).fl,3,77⟩)] (.inr rfl) ((.cell rfl rfl rfl rfl rfl .nil)) (by rw [List.length_drop];rfl) rfl ⟨upOne rfl rfl rfl,trivial⟩ ⟨asFlat rfl (hls_flat (rS_flat (⟨s.now.drop 1,s.sure,s.last,s.slast,s.fl⟩:Stv).now)),asFlat rfl (rS_flat (⟨s.now.drop 1,s.sure,s.last,s.slast,s.fl⟩:Stv).sure),asFlat rfl (rI_flat (⟨s.now.drop 1,s.sure,s.last,s.slast,s.fl⟩:Stv).last),asFlat rfl (rI_flat (⟨s.now.drop 1,s.sure,s.last,s.slast,s.fl⟩:Stv).slast),asFlat rfl (rI_flat (⟨s.now.drop 1,s.sure,s.last,s.slast,s.fl⟩:Stv).fl),trivial⟩ rfl,(⟨s.now.drop 1,s.sure,s.last,s.slast,s.fl⟩:Stv),1,1,_,(bn_0 hb),(by omega),(by omega),rfl⟩
   ·skip
    refine vc_region hm ?_
    refine gF trivial rfl rfl rfl rfl rfl ?_
    refine gL trivial rfl rfl rfl rfl rfl rfl rfl rfl ?_
    refine gTailE (u':=16) trivial rfl rfl rfl rfl rfl rfl rfl rfl rfl rfl rfl (by rw [rowL_len (n:=1) (fun _=>rfl)];rfl) (by omega) ?_
    refine gF trivial rfl rfl rfl rfl rfl ?_
    refine gT trivial rfl rfl rfl rfl rfl rfl rfl rfl rfl rfl (Nat.le_of_ble_eq_true rfl) rfl ?_
    refine rg_nil nofun ?_
    refine vc_seq ?_
    refine vc_region hm ?_
    refine gL trivial rfl rfl rfl rfl rfl rfl rfl rfl ?_
    refine gT trivial rfl rfl rfl rfl rfl rfl rfl rfl rfl rfl (Nat.le_of_ble_eq_true rfl) rfl ?_
    refine rg_nil nofun ?_
    refine vc_re (S2:=⟨16,[(4,.pointer (some ⟨8,0,none⟩))],[(1,true,one ⟨[.slice (some ⟨0,k,none⟩) n 0,.int .i64 (p + 1)],83,2⟩),(8,true,one ⟨[.slice (some ⟨15,0,none⟩) 0 0,.slice (some ⟨10,0,none⟩) s.sure.length 0,.slice (some ⟨11,0,none⟩) s.last.length 0,.slice (some ⟨12,0,none⟩) s.slast.length 0,.slice (some ⟨13,0,none⟩) s.fl.length 0],26,5⟩),(15,true,one ⟨hls 0 (rS (⟨[],s.sure,s.last,s.slast,s.fl⟩:Stv).now),9,0⟩),(10,true,one ⟨rS (⟨[],s.sure,s.last,s.slast,s.fl⟩:Stv).sure,9,77⟩),(11,true,one ⟨rI (⟨[],s.sure,s.last,s.slast,s.fl⟩:Stv).last,3,77⟩),(12,true,one ⟨rI (⟨[],s.sure,s.last,s.slast,s.fl⟩:Stv).slast,3,77⟩),(13,true,one ⟨rI (⟨[],s.sure,s.last,s.slast,s.fl⟩:Stv).fl,3,77⟩)]⟩) (re_nil (ms:=[0,1,2,3,4,5,6,7,8,9,10,11,12,13,14,15]) (C:=999) rfl ⟨⟨⟨rfl,rfl⟩,rfl⟩,trivial⟩ ⟨ktRow rfl rfl rfl (BlkW.refl _) id rfl,ktRow rfl rfl rfl ⟨.inl rfl,fun _=>rfl,.inr (.inl rfl),fun q=>(by cases q)⟩ id rfl,ktFlat (hls_flat (rS_flat _)) rfl (.inl rfl) id rfl,ktFlat (rS_flat _) rfl (.inr (.inr ⟨Nat.le_of_ble_eq_true rfl,Nat.le_of_ble_eq_true rfl,fun q=>absurd q (Nat.succ_ne_zero _)⟩)) id rfl,ktFlat (rI_flat _) rfl (.inr (.inr ⟨Nat.le_of_ble_eq_true rfl,Nat.le_of_ble_eq_true rfl,fun q=>absurd q (Nat.succ_ne_zero _)⟩)) id rfl,ktFlat (rI_flat _) rfl (.inr (.inr ⟨Nat.le_of_ble_eq_true rfl,Nat.le_of_ble_eq_true rfl,fun q=>absurd q (Nat.succ_ne_zero _)⟩)) id rfl,ktFlat (rI_flat _) rfl (.inr (.inr ⟨Nat.le_of_ble_eq_true rfl,Nat.le_of_ble_eq_true rfl,fun q=>absurd q (Nat.succ_ne_zero _)⟩)) id rfl,trivial⟩ rfl rfl (rig_of rfl) rfl) ?_
    refine vc_ret ?_
    exact ⟨mkF (.agg #[.slice (some ⟨7,0,none⟩) (⟨[],s.sure,s.last,s.slast,s.fl⟩:Stv).now.length 0,.slice (some ⟨8,0,none⟩) (⟨[],s.sure,s.last,s.slast,s.fl⟩:Stv).sure.length 0,.slice (some ⟨9,0,none⟩) (⟨[],s.sure,s.last,s.slast,s.fl⟩:Stv).last.length 0,.slice (some ⟨10,0,none⟩) (⟨[],s.sure,s.last,s.slast,s.fl⟩:Stv).slast.length 0,.slice (some ⟨11,0,none⟩) (⟨[],s.sure,s.last,s.slast,s.fl⟩:Stv).fl.length 0]) [0,2,3,4,5,6] [(1,one ⟨[.slice (some ⟨0,k,none⟩) n 0,.int .i64 (p + 1)],83,2⟩)] [(7,one ⟨hls 0 (rS (⟨[],s.sure,s.last,s.slast,s.fl⟩:Stv).now),9,0⟩),(8,one ⟨rS (⟨[],s.sure,s.last,s.slast,s.fl⟩:Stv).sure,9,77⟩),(9,one ⟨rI (⟨[],s.sure,s.last,s.slast,s.fl⟩:Stv).last,3,77⟩),(10,one ⟨rI (⟨[],s.sure,s.last,s.slast,s.fl⟩:Stv).slast,3,77⟩),(11,one ⟨rI (⟨[],s.sure,s.last,s.slast,s.fl⟩:Stv).fl,3,77⟩)],_,endsT [(7,15,one ⟨hls 0 (rS (⟨[],s.sure,s.last,s.slast,s.fl⟩:Stv).now),9,0⟩),(8,10,one ⟨rS (⟨[],s.sure,s.last,s.slast,s.fl⟩:Stv).sure,9,77⟩),(9,11,one ⟨rI (⟨[],s.sure,s.last,s.slast,s.fl⟩:Stv).last,3,77⟩),(10,12,one ⟨rI (⟨[],s.sure,s.last,s.slast,s.fl⟩:Stv).slast,3,77⟩),(11,13,one ⟨rI (⟨[],s.sure,s.last,s.slast,s.fl⟩:Stv).fl,3,77⟩)] (.inr rfl) ((.cell rfl rfl rfl rfl rfl .nil)) rfl rfl ⟨upOne rfl rfl rfl,trivial⟩ ⟨asFlat rfl (hls_flat (rS_flat (⟨[],s.sure,s.last,s.slast,s.fl⟩:Stv).now)),asFlat rfl (rS_flat (⟨[],s.sure,s.last,s.slast,s.fl⟩:Stv).sure),asFlat rfl (rI_flat (⟨[],s.sure,s.last,s.slast,s.fl⟩:Stv).last),asFlat rfl (rI_flat (⟨[],s.sure,s.last,s.slast,s.fl⟩:Stv).slast),asFlat rfl (rI_flat (⟨[],s.sure,s.last,s.slast,s.fl⟩:Stv).fl),trivial⟩ rfl,(⟨[],s.sure,s.last,s.slast,s.fl⟩:Stv),0,0,_,(bn_6 hb),(by omega),(by omega),rfl⟩
  ·skip
   have p15:=of_decide_eq_false c15
   refine vc_skip ?_
   refine vc_seq ?_
   refine vc_region hm ?_
   refine gL trivial rfl rfl rfl rfl rfl rfl rfl rfl ?_
   refine gT trivial rfl rfl rfl rfl rfl rfl rfl rfl rfl rfl (Nat.le_of_ble_eq_true rfl) rfl ?_
   refine rg_nil nofun ?_
   refine vc_re (S2:=⟨15,[(4,.pointer (some ⟨8,0,none⟩))],[(1,true,one ⟨[.slice (some ⟨0,k,none⟩) n 0,.int .i64 (p + 1)],83,2⟩),(8,true,one ⟨[.slice (some ⟨9,0,none⟩) s.now.length 0,.slice (some ⟨10,0,none⟩) s.sure.length 0,.slice (some ⟨11,0,none⟩) s.last.length 0,.slice (some ⟨12,0,none⟩) s.slast.length 0,.slice (some ⟨13,0,none⟩) s.fl.length 0],26,5⟩),(9,true,one ⟨hls 0 (rS s.now),9,0⟩),(10,true,one ⟨rS s.sure,9,77⟩),(11,true,one ⟨rI s.last,3,77⟩),(12,true,one ⟨rI s.slast,3,77⟩),(13,true,one ⟨rI s.fl,3,77⟩)]⟩) (re_nil (ms:=[0,1,2,3,4,5,6,7,8,9,10,11,12,13,14]) (C:=999) rfl ⟨⟨⟨rfl,rfl⟩,rfl⟩,trivial⟩ ⟨ktRow rfl rfl rfl (BlkW.refl _) id rfl,ktRow rfl rfl rfl ⟨.inl rfl,fun _=>rfl,.inr (.inl rfl),fun q=>(by cases q)⟩ id rfl,ktFlat (hls_flat (rS_flat _)) rfl (.inl rfl) id rfl,ktFlat (rS_flat _) rfl (.inr (.inr ⟨Nat.le_of_ble_eq_true rfl,Nat.le_of_ble_eq_true rfl,fun q=>absurd q (Nat.succ_ne_zero _)⟩)) id rfl,ktFlat (rI_flat _) rfl (.inr (.inr ⟨Nat.le_of_ble_eq_true rfl,Nat.le_of_ble_eq_true rfl,fun q=>absurd q (Nat.succ_ne_zero _)⟩)) id rfl,ktFlat (rI_flat _) rfl (.inr (.inr ⟨Nat.le_of_ble_eq_true rfl,Nat.le_of_ble_eq_true rfl,fun q=>absurd q (Nat.succ_ne_zero _)⟩)) id rfl,ktFlat (rI_flat _) rfl (.inr (.inr ⟨Nat.le_of_ble_eq_true rfl,Nat.le_of_ble_eq_true rfl,fun q=>absurd q (Nat.succ_ne_zero _)⟩)) id rfl,trivial⟩ rfl rfl (rig_of rfl) rfl) ?_
   refine vc_ret ?_
   exact ⟨mkF (.agg #[.slice (some ⟨7,0,none⟩) s.now.length 0,.slice (some ⟨8,0,none⟩) s.sure.length 0,.slice (some ⟨9,0,none⟩) s.last.length 0,.slice (some ⟨10,0,none⟩) s.slast.length 0,.slice (some ⟨11,0,none⟩) s.fl.length 0]) [0,2,3,4,5,6] [(1,one ⟨[.slice (some ⟨0,k,none⟩) n 0,.int .i64 (p + 1)],83,2⟩)] [(7,one ⟨hls 0 (rS s.now),9,0⟩),(8,one ⟨rS s.sure,9,77⟩),(9,one ⟨rI s.last,3,77⟩),(10,one ⟨rI s.slast,3,77⟩),(11,one ⟨rI s.fl,3,77⟩)],_,endsT [(7,9,one ⟨hls 0 (rS s.now),9,0⟩),(8,10,one ⟨rS s.sure,9,77⟩),(9,11,one ⟨rI s.last,3,77⟩),(10,12,one ⟨rI s.slast,3,77⟩),(11,13,one ⟨rI s.fl,3,77⟩)] (.inr rfl) ((.cell rfl rfl rfl rfl rfl .nil)) rfl rfl ⟨upOne rfl rfl rfl,trivial⟩ ⟨asFlat rfl (hls_flat (rS_flat s.now)),asFlat rfl (rS_flat s.sure),asFlat rfl (rI_flat s.last),asFlat rfl (rI_flat s.slast),asFlat rfl (rI_flat s.fl),trivial⟩ rfl,s,0,0,_,hb,(by omega),(by omega),rfl⟩
 ·skip
  have p10:=ne_of_beq_false c10
  refine vc_seq ?_
  refine vc_region hm ?_
  refine gI trivial rfl rfl rfl rfl rfl rfl ?_
  refine gM trivial (.inr rfl) rfl rfl rfl ?_
  refine rg_nil nofun ?_
  refine cI rfl (fun c20=>?_) (fun c20=>?_)
  ·skip
   have p20:=eq_of_beq c20
   refine vc_seq ?_
   refine vc_region hm ?_
   refine gF trivial rfl rfl rfl rfl rfl ?_
   refine gL trivial rfl rfl rfl rfl rfl rfl rfl rfl ?_
   refine gK trivial rfl rfl rfl rfl rfl rfl rS_nil ?_
   refine gI trivial rfl rfl rfl rfl rfl rfl ?_
   refine rg_nil nofun ?_
   refine cI rfl (fun c25=>?_) (fun c25=>?_)
   ·skip
    have p25:=of_decide_eq_true c25
    refine vc_region hm ?_
    refine gF trivial rfl rfl rfl rfl rfl ?_
    refine gL trivial rfl rfl rfl rfl rfl rfl rfl rfl ?_
    refine gX trivial rfl rfl rfl rfl rfl rfl rfl rfl (by omega) (by omega) rS_ne ?_
    refine gT trivial rfl rfl rfl rfl rfl rfl rfl rfl rfl rfl (kS (by omega) (by omega)) (sS (by omega) (by omega)) ?_
    refine rg_nil nofun ?_
    refine vc_seq ?_
    refine vc_region hm ?_
    refine gL trivial rfl rfl rfl rfl rfl rfl rfl rfl ?_
    refine gT trivial rfl rfl rfl rfl rfl rfl rfl rfl rfl rfl (Nat.le_of_ble_eq_true rfl) rfl ?_
    refine rg_nil nofun ?_
    refine vc_re (S2:=⟨15,[(4,.pointer (some ⟨8,0,none⟩))],[(1,true,one ⟨[.slice (some ⟨0,k,none⟩) n 0,.int .i64 (p + 1)],83,2⟩),(8,true,one ⟨[.slice (some ⟨9,0,none⟩) s.now.length 0,.slice (some ⟨10,0,none⟩) s.sure.length 0,.slice (some ⟨11,0,none⟩) s.last.length 0,.slice (some ⟨12,0,none⟩) s.slast.length 0,.slice (some ⟨13,0,none⟩) s.fl.length 0],26,5⟩),(9,true,one ⟨hls 0 (rS (⟨s.now,s.sure.set (Int.toNat 0) ⟨#[65]⟩,s.last,s.slast,s.fl⟩:Stv).now),9,0⟩),(10,true,one ⟨rS (⟨s.now,s.sure.set (Int.toNat 0) ⟨#[65]⟩,s.last,s.slast,s.fl⟩:Stv).sure,9,77⟩),(11,true,one ⟨rI (⟨s.now,s.sure.set (Int.toNat 0) ⟨#[65]⟩,s.last,s.slast,s.fl⟩:Stv).last,3,77⟩),(12,true,one ⟨rI (⟨s.now,s.sure.set (Int.toNat 0) ⟨#[65]⟩,s.last,s.slast,s.fl⟩:Stv).slast,3,77⟩),(13,true,one ⟨rI (⟨s.now,s.sure.set (Int.toNat 0) ⟨#[65]⟩,s.last,s.slast,s.fl⟩:Stv).fl,3,77⟩)]⟩) (re_nil (ms:=[0,1,2,3,4,5,6,7,8,9,10,11,12,13,14]) (C:=999) rfl ⟨⟨⟨rfl,rfl⟩,rfl⟩,trivial⟩ ⟨ktRow rfl rfl rfl (BlkW.refl _) id rfl,ktRow rfl rfl rfl ⟨.inl rfl,fun _=>rfl,.inr (.inl rfl),fun q=>(by cases q)⟩ id rfl,ktFlat (hls_flat (rS_flat _)) rfl (.inl rfl) id rfl,ktFlat (rS_flat _) rfl (.inr (.inr ⟨Nat.le_of_ble_eq_true rfl,Nat.le_of_ble_eq_true rfl,fun q=>absurd q (Nat.succ_ne_zero _)⟩)) id rfl,ktFlat (rI_flat _) rfl (.inr (.inr ⟨Nat.le_of_ble_eq_true rfl,Nat.le_of_ble_eq_true rfl,fun q=>absurd q (Nat.succ_ne_zero _)⟩)) id rfl,ktFlat (rI_flat _) rfl (.inr (.inr ⟨Nat.le_of_ble_eq_true rfl,Nat.le_of_ble_eq_true rfl,fun q=>absurd q (Nat.succ_ne_zero _)⟩)) id rfl,ktFlat (rI_flat _) rfl (.inr (.inr ⟨Nat.le_of_ble_eq_true rfl,Nat.le_of_ble_eq_true rfl,fun q=>absurd q (Nat.succ_ne_zero _)⟩)) id rfl,trivial⟩ rfl rfl (rig_of rfl) rfl) ?_
    refine vc_ret ?_
    exact ⟨mkF (.agg #[.slice (some ⟨7,0,none⟩) (⟨s.now,s.sure.set (Int.toNat 0) ⟨#[65]⟩,s.last,s.slast,s.fl⟩:Stv).now.length 0,.slice (some ⟨8,0,none⟩) (⟨s.now,s.sure.set (Int.toNat 0) ⟨#[65]⟩,s.last,s.slast,s.fl⟩:Stv).sure.length 0,.slice (some ⟨9,0,none⟩) (⟨s.now,s.sure.set (Int.toNat 0) ⟨#[65]⟩,s.last,s.slast,s.fl⟩:Stv).last.length 0,.slice (some ⟨10,0,none⟩) (⟨s.now,s.sure.set (Int.toNat 0) ⟨#[65]⟩,s.last,s.slast,s.fl⟩:Stv).slast.length 0,.slice (some ⟨11,0,none⟩) (⟨s.now,s.sure.set (Int.toNat 0) ⟨#[65]⟩,s.last,s.slast,s.fl⟩:Stv).fl.length 0]) [0,2,3,4,5,6] [(1,one ⟨[.slice (some ⟨0,k,none⟩) n 0,.int .i64 (p + 1)],83,2⟩)] [(7,one ⟨hls 0 (rS (⟨s.now,s.sure.set (Int.toNat 0) ⟨#[65]⟩,s.last,s.slast,s.fl⟩:Stv).now),9,0⟩),(8,one ⟨rS (⟨s.now,s.sure.set (Int.toNat 0) ⟨#[65]⟩,s.last,s.slast,s.fl⟩:Stv).sure,9,77⟩),(9,one ⟨rI (⟨s.now,s.sure.set (Int.toNat 0) ⟨#[65]⟩,s.last,s.slast,s.fl⟩:Stv).last,3,77⟩),(10,one ⟨rI (⟨s.now,s.sure.set (Int.toNat 0) ⟨#[65]⟩,s.last,s.slast,s.fl⟩:Stv).slast,3,77⟩),(11,one ⟨rI (⟨s.now,s.sure.set (Int.toNat 0) ⟨#[65]⟩,s.last,s.slast,s.fl⟩:Stv).fl,3,77⟩)],_,endsT [(7,9,one ⟨hls 0 (rS (⟨s.now,s.sure.set (Int.toNat 0) ⟨#[65]⟩,s.last,s.slast,s.fl⟩:Stv).now),9,0⟩),(8,10,one ⟨rS (⟨s.now,s.sure.set (Int.toNat 0) ⟨#[65]⟩,s.last,s.slast,s.fl⟩:Stv).sure,9,77⟩),(9,11,one ⟨rI (⟨s.now,s.sure.set (Int.toNat 0) ⟨#[65]⟩,s.last,s.slast,s.fl⟩:Stv).last,3,77⟩),(10,12,one ⟨rI (⟨s.now,s.sure.set (Int.toNat 0) ⟨#[65]⟩,s.last,s.slast,s.fl⟩:Stv).slast,3,77⟩),(11,13,one ⟨rI (⟨s.now,s.sure.set (Int.toNat 0) ⟨#[65]⟩,s.last,s.slast,s.fl⟩:Stv).fl,3,77⟩)] (.inr rfl) ((.cell rfl rfl rfl rfl rfl .nil)) (by rw [List.length_set];rfl) rfl ⟨upOne rfl rfl rfl,trivial⟩ ⟨asFlat rfl (hls_flat (rS_flat (⟨s.now,s.sure.set (Int.toNat 0) ⟨#[65]⟩,s.last,s.slast,s.fl⟩:Stv).now)),asFlat rfl (rS_flat (⟨s.now,s.sure.set (Int.toNat 0) ⟨#[65]⟩,s.last,s.slast,s.fl⟩:Stv).sure),asFlat rfl (rI_flat (⟨s.now,s.sure.set (Int.toNat 0) ⟨#[65]⟩,s.last,s.slast,s.fl⟩:Stv).last),asFlat rfl (rI_flat (⟨s.now,s.sure.set (Int.toNat 0) ⟨#[65]⟩,s.last,s.slast,s.fl⟩:Stv).slast),asFlat rfl (rI_flat (⟨s.now,s.sure.set (Int.toNat 0) ⟨#[65]⟩,s.last,s.slast,s.fl⟩:Stv).fl),trivial⟩ rfl,(⟨s.now,s.sure.set (Int.toNat 0) ⟨#[65]⟩,s.last,s.slast,s.fl⟩:Stv),0,0,_,(bn_1 hb),(by omega),(by omega),rfl⟩
   ·skip
    have p25:=of_decide_eq_false c25
    refine vc_skip ?_
    refine vc_seq ?_
    refine vc_region hm ?_
    refine gL trivial rfl rfl rfl rfl rfl rfl rfl rfl ?_
    refine gT trivial rfl rfl rfl rfl rfl rfl rfl rfl rfl rfl (Nat.le_of_ble_eq_true rfl) rfl ?_
    refine rg_nil nofun ?_
    refine vc_re (S2:=⟨15,[(4,.pointer (some ⟨8,0,none⟩))],[(1,true,one ⟨[.slice (some ⟨0,k,none⟩) n 0,.int .i64 (p + 1)],83,2⟩),(8,true,one ⟨[.slice (some ⟨9,0,none⟩) s.now.length 0,.slice (some ⟨10,0,none⟩) s.sure.length 0,.slice (some ⟨11,0,none⟩) s.last.length 0,.slice (some ⟨12,0,none⟩) s.slast.length 0,.slice (some ⟨13,0,none⟩) s.fl.length 0],26,5⟩),(9,true,one ⟨hls 0 (rS s.now),9,0⟩),(10,true,one ⟨rS s.sure,9,77⟩),(11,true,one ⟨rI s.last,3,77⟩),(12,true,one ⟨rI s.slast,3,77⟩),(13,true,one ⟨rI s.fl,3,77⟩)]⟩) (re_nil (ms:=[0,1,2,3,4,5,6,7,8,9,10,11,12,13,14]) (C:=999) rfl ⟨⟨⟨rfl,rfl⟩,rfl⟩,trivial⟩ ⟨ktRow rfl rfl rfl (BlkW.refl _) id rfl,ktRow rfl rfl rfl ⟨.inl rfl,fun _=>rfl,.inr (.inl rfl),fun q=>(by cases q)⟩ id rfl,ktFlat (hls_flat (rS_flat _)) rfl (.inl rfl) id rfl,ktFlat (rS_flat _) rfl (.inr (.inr ⟨Nat.le_of_ble_eq_true rfl,Nat.le_of_ble_eq_true rfl,fun q=>absurd q (Nat.succ_ne_zero _)⟩)) id rfl,ktFlat (rI_flat _) rfl (.inr (.inr ⟨Nat.le_of_ble_eq_true rfl,Nat.le_of_ble_eq_true rfl,fun q=>absurd q (Nat.succ_ne_zero _)⟩)) id rfl,ktFlat (rI_flat _) rfl (.inr (.inr ⟨Nat.le_of_ble_eq_true rfl,Nat.le_of_ble_eq_true rfl,fun q=>absurd q (Nat.succ_ne_zero _)⟩)) id rfl,ktFlat (rI_flat _) rfl (.inr (.inr ⟨Nat.le_of_ble_eq_true rfl,Nat.le_of_ble_eq_true rfl,fun q=>absurd q (Nat.succ_ne_zero _)⟩)) id rfl,trivial⟩ rfl rfl (rig_of rfl) rfl) ?_
    refine vc_ret ?_
    exact ⟨mkF (.agg #[.slice (some ⟨7,0,none⟩) s.now.length 0,.slice (some ⟨8,0,none⟩) s.sure.length 0,.slice (some ⟨9,0,none⟩) s.last.length 0,.slice (some ⟨10,0,none⟩) s.slast.length 0,.slice (some ⟨11,0,none⟩) s.fl.length 0]) [0,2,3,4,5,6] [(1,one ⟨[.slice (some ⟨0,k,none⟩) n 0,.int .i64 (p + 1)],83,2⟩)] [(7,one ⟨hls 0 (rS s.now),9,0⟩),(8,one ⟨rS s.sure,9,77⟩),(9,one ⟨rI s.last,3,77⟩),(10,one ⟨rI s.slast,3,77⟩),(11,one ⟨rI s.fl,3,77⟩)],_,endsT [(7,9,one ⟨hls 0 (rS s.now),9,0⟩),(8,10,one ⟨rS s.sure,9,77⟩),(9,11,one ⟨rI s.last,3,77⟩),(10,12,one ⟨rI s.slast,3,77⟩),(11,13,one ⟨rI s.fl,3,77⟩)] (.inr rfl) ((.cell rfl rfl rfl rfl rfl .nil)) rfl rfl ⟨upOne rfl rfl rfl,trivial⟩ ⟨asFlat rfl (hls_flat (rS_flat s.now)),asFlat rfl (rS_flat s.sure),asFlat rfl (rI_flat s.last),asFlat rfl (rI_flat s.slast),asFlat rfl (rI_flat s.fl),trivial⟩ rfl,s,0,0,_,hb,(by omega),(by omega),rfl⟩
  ·skip
   have p20:=ne_of_beq_false c20
   refine vc_seq ?_
   refine vc_region hm ?_
   refine gI trivial rfl rfl rfl rfl rfl rfl ?_
   refine gM trivial (.inr rfl) rfl rfl rfl ?_
   refine rg_nil nofun ?_
   refine cI rfl (fun c29=>?_) (fun c29=>?_)
   ·skip
    have p29:=eq_of_beq c29
    refine vc_seq ?_
    refine vc_region hm ?_
    refine gF trivial rfl rfl rfl rfl rfl ?_
    refine gL trivial rfl rfl rfl rfl rfl rfl rfl rfl ?_
    refine gK trivial rfl rfl rfl rfl rfl rfl rI_nil ?_
    refine gI trivial rfl rfl rfl rfl rfl rfl ?_
    refine rg_nil nofun ?_
    refine cI rfl (fun c34=>?_) (fun c34=>?_)
    ·skip
     have p34:=of_decide_eq_true c34
     refine vc_region hm ?_
     refine gF trivial rfl rfl rfl rfl rfl ?_
     refine gL trivial rfl rfl rfl rfl rfl rfl rfl rfl ?_
     refine gM trivial (.inl rfl) rfl rfl rfl ?_
     refine gR (u':=16) (out:=rI [-1,1000,1001]) trivial rfl rfl rfl rfl rfl rfl rfl rfl rfl rfl rfl rfl rfl rfl ?_
     obtain ⟨E8,hE8,x8,x8a,x8b,rfl⟩:=num_c (k:=k) (t0:=t0) (p:=p + 1) hl hn (by omega) (by omega) (L:=[-1,1000,1001]) (a:=-1) (b:=1001) (by decide) (by decide)
     refine gCF (ups':=[(1,one ⟨[.slice (some ⟨0,k,none⟩) n 0,.int .i64 (p + 1 + 1)],83,2⟩)]) (as':=[]) (v':=.int .i64 x8) 16 [0,1,15] hE8 trivial rfl rfl rfl rfl ⟨rCode rfl rfl,rCells rfl ⟨rfl,rfl,.inr rfl⟩ rfl,rFlat (rI_flat _) rfl (.inl rfl) rfl,trivial⟩ ⟨frOne rfl rfl,trivial⟩ trivial rfl rfl (ho1 ⟨_,rfl⟩) (hu1 rfl) rfl rfl ?_
     refine gX trivial rfl rfl rfl rfl rfl rfl rfl rfl (by omega) (by omega) rI_ne ?_
     refine gT trivial rfl rfl rfl rfl rfl rfl rfl rfl rfl rfl (kI (by omega) (by omega)) (sI (by omega) (by omega)) ?_
     refine rg_nil (fun _=>by kernel_rfl) ?_
     refine vc_seq ?_
     refine vc_region hm ?_
     refine gL trivial rfl rfl rfl rfl rfl rfl rfl rfl ?_
     refine gT trivial rfl rfl rfl rfl rfl rfl rfl rfl rfl rfl (Nat.le_of_ble_eq_true rfl) rfl ?_
     refine rg_nil nofun ?_
     refine vc_re (S2:=⟨16,[(4,.pointer (some ⟨8,0,none⟩))],[(1,true,one ⟨[.slice (some ⟨0,k,none⟩) n 0,.int .i64 (p + 1 + 1)],83,2⟩),(8,true,one ⟨[.slice (some ⟨9,0,none⟩) s.now.length 0,.slice (some ⟨10,0,none⟩) s.sure.length 0,.slice (some ⟨11,0,none⟩) s.last.length 0,.slice (some ⟨12,0,none⟩) s.slast.length 0,.slice (some ⟨13,0,none⟩) s.fl.length 0],26,5⟩),(9,true,one ⟨hls 0 (rS (⟨s.now,s.sure,s.last.set (Int.toNat 0) x8,s.slast,s.fl⟩:Stv).now),9,0⟩),(10,true,one ⟨rS (⟨s.now,s.sure,s.last.set (Int.toNat 0) x8,s.slast,s.fl⟩:Stv).sure,9,77⟩),(11,true,one ⟨rI (⟨s.now,s.sure,s.last.set (Int.toNat 0) x8,s.slast,s.fl⟩:Stv).last,3,77⟩),(12,true,one ⟨rI (⟨s.now,s.sure,s.last.set (Int.toNat 0) x8,s.slast,s.fl⟩:Stv).slast,3,77⟩),(13,true,one ⟨rI (⟨s.now,s.sure,s.last.set (Int.toNat 0) x8,s.slast,s.fl⟩:Stv).fl,3,77⟩)]⟩) (re_nil (ms:=[0,1,2,3,4,5,6,7,8,9,10,11,12,13,14,15]) (C:=999) rfl ⟨⟨⟨rfl,rfl⟩,rfl⟩,trivial⟩ ⟨ktRow rfl rfl rfl (BlkW.refl _) id rfl,ktRow rfl rfl rfl ⟨.inl rfl,fun _=>rfl,.inr (.inl rfl),fun q=>(by cases q)⟩ id rfl,ktFlat (hls_flat (rS_flat _)) rfl (.inl rfl) id rfl,ktFlat (rS_flat _) rfl (.inr (.inr ⟨Nat.le_of_ble_eq_true rfl,Nat.le_of_ble_eq_true rfl,fun q=>absurd q (Nat.succ_ne_zero _)⟩)) id rfl,ktFlat (rI_flat _) rfl (.inr (.inr ⟨Nat.le_of_ble_eq_true rfl,Nat.le_of_ble_eq_true rfl,fun q=>absurd q (Nat.succ_ne_zero _)⟩)) id rfl,ktFlat (rI_flat _) rfl (.inr (.inr ⟨Nat.le_of_ble_eq_true rfl,Nat.le_of_ble_eq_true rfl,fun q=>absurd q (Nat.succ_ne_zero _)⟩)) id rfl,ktFlat (rI_flat _) rfl (.inr (.inr ⟨Nat.le_of_ble_eq_true rfl,Nat.le_of_ble_eq_true rfl,fun q=>absurd q (Nat.succ_ne_zero _)⟩)) id rfl,trivial⟩ rfl rfl (rig_of rfl) rfl) ?_
     refine vc_ret ?_
     exact ⟨mkF (.agg #[.slice (some ⟨7,0,none⟩) (⟨s.now,s.sure,s.last.set (Int.toNat 0) x8,s.slast,s.fl⟩:Stv).now.length 0,.slice (some ⟨8,0,none⟩) (⟨s.now,s.sure,s.last.set (Int.toNat 0) x8,s.slast,s.fl⟩:Stv).sure.length 0,.slice (some ⟨9,0,none⟩) (⟨s.now,s.sure,s.last.set (Int.toNat 0) x8,s.slast,s.fl⟩:Stv).last.length 0,.slice (some ⟨10,0,none⟩) (⟨s.now,s.sure,s.last.set (Int.toNat 0) x8,s.slast,s.fl⟩:Stv).slast.length 0,.slice (some ⟨11,0,none⟩) (⟨s.now,s.sure,s.last.set (Int.toNat 0) x8,s.slast,s.fl⟩:Stv).fl.length 0]) [0,2,3,4,5,6] [(1,one ⟨[.slice (some ⟨0,k,none⟩) n 0,.int .i64 (p + 1 + 1)],83,2⟩)] [(7,one ⟨hls 0 (rS (⟨s.now,s.sure,s.last.set (Int.toNat 0) x8,s.slast,s.fl⟩:Stv).now),9,0⟩),(8,one ⟨rS (⟨s.now,s.sure,s.last.set (Int.toNat 0) x8,s.slast,s.fl⟩:Stv).sure,9,77⟩),(9,one ⟨rI (⟨s.now,s.sure,s.last.set (Int.toNat 0) x8,s.slast,s.fl⟩:Stv).last,3,77⟩),(10,one ⟨rI (⟨s.now,s.sure,s.last.set (Int.toNat 0) x8,s.slast,s.fl⟩:Stv).slast,3,77⟩),(11,one ⟨rI (⟨s.now,s.sure,s.last.set (Int.toNat 0) x8,s.slast,s.fl⟩:Stv).fl,3,77⟩)],_,endsT [(7,9,one ⟨hls 0 (rS (⟨s.now,s.sure,s.last.set (Int.toNat 0) x8,s.slast,s.fl⟩:Stv).now),9,0⟩),(8,10,one ⟨rS (⟨s.now,s.sure,s.last.set (Int.toNat 0) x8,s.slast,s.fl⟩:Stv).sure,9,77⟩),(9,11,one ⟨rI (⟨s.now,s.sure,s.last.set (Int.toNat 0) x8,s.slast,s.fl⟩:Stv).last,3,77⟩),(10,12,one ⟨rI (⟨s.now,s.sure,s.last.set (Int.toNat 0) x8,s.slast,s.fl⟩:Stv).slast,3,77⟩),(11,13,one ⟨rI (⟨s.now,s.sure,s.last.set (Int.toNat 0) x8,s.slast,s.fl⟩:Stv).fl,3,77⟩)] (.inr rfl) ((.cell rfl rfl rfl rfl rfl .nil)) (by rw [List.length_set];rfl) rfl ⟨upOne rfl rfl rfl,trivial⟩ ⟨asFlat rfl (hls_flat (rS_flat (⟨s.now,s.sure,s.last.set (Int.toNat 0) x8,s.slast,s.fl⟩:Stv).now)),asFlat rfl (rS_flat (⟨s.now,s.sure,s.last.set (Int.toNat 0) x8,s.slast,s.fl⟩:Stv).sure),asFlat rfl (rI_flat (⟨s.now,s.sure,s.last.set (Int.toNat 0) x8,s.slast,s.fl⟩:Stv).last),asFlat rfl (rI_flat (⟨s.now,s.sure,s.last.set (Int.toNat 0) x8,s.slast,s.fl⟩:Stv).slast),asFlat rfl (rI_flat (⟨s.now,s.sure,s.last.set (Int.toNat 0) x8,s.slast,s.fl⟩:Stv).fl),trivial⟩ rfl,(⟨s.now,s.sure,s.last.set (Int.toNat 0) x8,s.slast,s.fl⟩:Stv),0,0,_,(bn_2 hb (by omega)),(by omega),(by omega),rfl⟩
    ·skip
     have p34:=of_decide_eq_false c34
     refine vc_skip ?_
     refine vc_seq ?_
     refine vc_region hm ?_
     refine gL trivial rfl rfl rfl rfl rfl rfl rfl rfl ?_
     refine gT trivial rfl rfl rfl rfl rfl rfl rfl rfl rfl rfl (Nat.le_of_ble_eq_true rfl) rfl ?_
     refine rg_nil nofun ?_
     refine vc_re (S2:=⟨15,[(4,.pointer (some ⟨8,0,none⟩))],[(1,true,one ⟨[.slice (some ⟨0,k,none⟩) n 0,.int .i64 (p + 1)],83,2⟩),(8,true,one ⟨[.slice (some ⟨9,0,none⟩) s.now.length 0,.slice (some ⟨10,0,none⟩) s.sure.length 0,.slice (some ⟨11,0,none⟩) s.last.length 0,.slice (some ⟨12,0,none⟩) s.slast.length 0,.slice (some ⟨13,0,none⟩) s.fl.length 0],26,5⟩),(9,true,one ⟨hls 0 (rS s.now),9,0⟩),(10,true,one ⟨rS s.sure,9,77⟩),(11,true,one ⟨rI s.last,3,77⟩),(12,true,one ⟨rI s.slast,3,77⟩),(13,true,one ⟨rI s.fl,3,77⟩)]⟩) (re_nil (ms:=[0,1,2,3,4,5,6,7,8,9,10,11,12,13,14]) (C:=999) rfl ⟨⟨⟨rfl,rfl⟩,rfl⟩,trivial⟩ ⟨ktRow rfl rfl rfl (BlkW.refl _) id rfl,ktRow rfl rfl rfl ⟨.inl rfl,fun _=>rfl,.inr (.inl rfl),fun q=>(by cases q)⟩ id rfl,ktFlat (hls_flat (rS_flat _)) rfl (.inl rfl) id rfl,ktFlat (rS_flat _) rfl (.inr (.inr ⟨Nat.le_of_ble_eq_true rfl,Nat.le_of_ble_eq_true rfl,fun q=>absurd q (Nat.succ_ne_zero _)⟩)) id rfl,ktFlat (rI_flat _) rfl (.inr (.inr ⟨Nat.le_of_ble_eq_true rfl,Nat.le_of_ble_eq_true rfl,fun q=>absurd q (Nat.succ_ne_zero _)⟩)) id rfl,ktFlat (rI_flat _) rfl (.inr (.inr ⟨Nat.le_of_ble_eq_true rfl,Nat.le_of_ble_eq_true rfl,fun q=>absurd q (Nat.succ_ne_zero _)⟩)) id rfl,ktFlat (rI_flat _) rfl (.inr (.inr ⟨Nat.le_of_ble_eq_true rfl,Nat.le_of_ble_eq_true rfl,fun q=>absurd q (Nat.succ_ne_zero _)⟩)) id rfl,trivial⟩ rfl rfl (rig_of rfl) rfl) ?_
     refine vc_ret ?_
     exact ⟨mkF (.agg #[.slice (some ⟨7,0,none⟩) s.now.length 0,.slice (some ⟨8,0,none⟩) s.sure.length 0,.slice (some ⟨9,0,none⟩) s.last.length 0,.slice (some ⟨10,0,none⟩) s.slast.length 0,.slice (some ⟨11,0,none⟩) s.fl.length 0]) [0,2,3,4,5,6] [(1,one ⟨[.slice (some ⟨0,k,none⟩) n 0,.int .i64 (p + 1)],83,2⟩)] [(7,one ⟨hls 0 (rS s.now),9,0⟩),(8,one ⟨rS s.sure,9,77⟩),(9,one ⟨rI s.last,3,77⟩),(10,one ⟨rI s.slast,3,77⟩),(11,one ⟨rI s.fl,3,77⟩)],_,endsT [(7,9,one ⟨hls 0 (rS s.now),9,0⟩),(8,10,one ⟨rS s.sure,9,77⟩),(9,11,one ⟨rI s.last,3,77⟩),(10,12,one ⟨rI s.slast,3,77⟩),(11,13,one ⟨rI s.fl,3,77⟩)] (.inr rfl) ((.cell rfl rfl rfl rfl rfl .nil)) rfl rfl ⟨upOne rfl rfl rfl,trivial⟩ ⟨asFlat rfl (hls_flat (rS_flat s.now)),asFlat rfl (rS_flat s.sure),asFlat rfl (rI_flat s.last),asFlat rfl (rI_flat s.slast),asFlat rfl (rI_flat s.fl),trivial⟩ rfl,s,0,0,_,hb,(by omega),(by omega),rfl⟩
   ·skip
    have p29:=ne_of_beq_false c29
    refine vc_seq ?_
    refine vc_region hm ?_
    refine gI trivial rfl rfl rfl rfl rfl rfl ?_
    refine gM trivial (.inr rfl) rfl rfl rfl ?_
    refine rg_nil nofun ?_
    refine cI rfl (fun c41=>?_) (fun c41=>?_)
    ·skip
     have p41:=eq_of_beq c41
     refine vc_seq ?_
     refine vc_region hm ?_
     refine gF trivial rfl rfl rfl rfl rfl ?_
     refine gL trivial rfl rfl rfl rfl rfl rfl rfl rfl ?_
     refine gK trivial rfl rfl rfl rfl rfl rfl rI_nil ?_
     refine gI trivial rfl rfl rfl rfl rfl rfl ?_
     refine gM trivial (.inl rfl) rfl rfl rfl ?_
     refine gI2 (d:=47) rfl (fun c47=>?_) (fun c47=>?_)
     ·skip
      have p47:=of_decide_eq_true c47
      refine gF ⟨_,_,rfl,rfl,c47⟩ rfl rfl rfl rfl rfl ?_
      refine gL ⟨_,_,rfl,rfl,c47⟩ rfl rfl rfl rfl rfl rfl rfl rfl ?_
      refine gK ⟨_,_,rfl,rfl,c47⟩ rfl rfl rfl rfl rfl rfl rI_nil ?_
      refine gI ⟨_,_,rfl,rfl,c47⟩ rfl rfl rfl rfl rfl rfl ?_
      refine gPT trivial rfl rfl c47 rfl rfl rfl ?_
      refine rg_nil nofun ?_
      refine cI rfl (fun c52=>?_) (fun c52=>?_)
      ·skip
       have p52:=of_decide_eq_true c52
       refine vc_region hm ?_
       refine gF trivial rfl rfl rfl rfl rfl ?_
       refine gL trivial rfl rfl rfl rfl rfl rfl rfl rfl ?_
       refine gF trivial rfl rfl rfl rfl rfl ?_
       refine gL trivial rfl rfl rfl rfl rfl rfl rfl rfl ?_
       refine gX trivial rfl rfl rfl rfl rfl rfl rfl rfl (by omega) (by omega) rI_ne ?_
       refine gL trivial rfl rfl rfl rfl rfl rfl rfl (lI (by omega) (by omega)) ?_
       refine gM trivial (.inl rfl) rfl rfl rfl ?_
       refine gR (u':=16) (out:=rI [1,-1]) trivial rfl rfl rfl rfl rfl rfl rfl rfl rfl rfl rfl rfl rfl rfl ?_
       obtain ⟨E12,hE12,x12,x12a,x12b,rfl⟩:=num_c (k:=k) (t0:=t0) (p:=p + 1) hl hn (by omega) (by omega) (L:=[1,-1]) (a:=-1) (b:=1) (by decide) (by decide)
       refine gCF (ups':=[(1,one ⟨[.slice (some ⟨0,k,none⟩) n 0,.int .i64 (p + 1 + 1)],83,2⟩)]) (as':=[]) (v':=.int .i64 x12) 16 [0,1,15] hE12 trivial rfl rfl rfl rfl ⟨rCode rfl rfl,rCells rfl ⟨rfl,rfl,.inr rfl⟩ rfl,rFlat (rI_flat _) rfl (.inl rfl) rfl,trivial⟩ ⟨frOne rfl rfl,trivial⟩ trivial rfl rfl (ho1 ⟨_,rfl⟩) (hu1 rfl) rfl rfl ?_
       refine gA trivial rfl rfl rfl rfl rfl rfl (by have:=at_I hb.l (i:=1) (by omega) (by omega);omega) ?_
       refine gX trivial rfl rfl rfl rfl rfl rfl rfl rfl (by omega) (by omega) rI_ne ?_
       refine gT trivial rfl rfl rfl rfl rfl rfl rfl rfl rfl rfl (kI (by omega) (by omega)) (sI (by omega) (by omega)) ?_
       refine rg_nil (fun _=>by kernel_rfl) ?_
       refine vc_seq ?_
       refine vc_region hm ?_
       refine gL trivial rfl rfl rfl rfl rfl rfl rfl rfl ?_
       refine gT trivial rfl rfl rfl rfl rfl rfl rfl rfl rfl rfl (Nat.le_of_ble_eq_true rfl) rfl ?_
       refine rg_nil nofun ?_
       refine vc_re (S2:=⟨16,[(4,.pointer (some ⟨8,0,none⟩))],[(1,true,one ⟨[.slice (some ⟨0,k,none⟩) n 0,.int .i64 (p + 1 + 1)],83,2⟩),(8,true,one ⟨[.slice (some ⟨9,0,none⟩) s.now.length 0,.slice (some ⟨10,0,none⟩) s.sure.length 0,.slice (some ⟨11,0,none⟩) s.last.length 0,.slice (some ⟨12,0,none⟩) s.slast.length 0,.slice (some ⟨13,0,none⟩) s.fl.length 0],26,5⟩),(9,true,one ⟨hls 0 (rS (⟨s.now,s.sure,s.last,s.slast.set (Int.toNat 1) (at_ s.last 1 + x12),s.fl⟩:Stv).now),9,0⟩),(10,true,one ⟨rS (⟨s.now,s.sure,s.last,s.slast.set (Int.toNat 1) (at_ s.last 1 + x12),s.fl⟩:Stv).sure,9,77⟩),(11,true,one ⟨rI (⟨s.now,s.sure,s.last,s.slast.set (Int.toNat 1) (at_ s.last 1 + x12),s.fl⟩:Stv).last,3,77⟩),(12,true,one ⟨rI (⟨s.now,s.sure,s.last,s.slast.set (Int.toNat 1) (at_ s.last 1 + x12),s.fl⟩:Stv).slast,3,77⟩),(13,true,one ⟨rI (⟨s.now,s.sure,s.last,s.slast.set (Int.toNat 1) (at_ s.last 1 + x12),s.fl⟩:Stv).fl,3,77⟩)]⟩) (re_nil (ms:=[0,1,2,3,4,5,6,7,8,9,10,11,12,13,14,15]) (C:=999) rfl ⟨⟨⟨rfl,rfl⟩,rfl⟩,trivial⟩ ⟨ktRow rfl rfl rfl (BlkW.refl _) id rfl,ktRow rfl rfl rfl ⟨.inl rfl,fun _=>rfl,.inr (.inl rfl),fun q=>(by cases q)⟩ id rfl,ktFlat (hls_flat (rS_flat _)) rfl (.inl rfl) id rfl,ktFlat (rS_flat _) rfl (.inr (.inr ⟨Nat.le_of_ble_eq_true rfl,Nat.le_of_ble_eq_true rfl,fun q=>absurd q (Nat.succ_ne_zero _)⟩)) id rfl,ktFlat (rI_flat _) rfl (.inr (.inr ⟨Nat.le_of_ble_eq_true rfl,Nat.le_of_ble_eq_true rfl,fun q=>absurd q (Nat.succ_ne_zero _)⟩)) id rfl,ktFlat (rI_flat _) rfl (.inr (.inr ⟨Nat.le_of_ble_eq_true rfl,Nat.le_of_ble_eq_true rfl,fun q=>absurd q (Nat.succ_ne_zero _)⟩)) id rfl,ktFlat (rI_flat _) rfl (.inr (.inr ⟨Nat.le_of_ble_eq_true rfl,Nat.le_of_ble_eq_true rfl,fun q=>absurd q (Nat.succ_ne_zero _)⟩)) id rfl,trivial⟩ rfl rfl (rig_of rfl) rfl) ?_
       refine vc_ret ?_
       exact ⟨mkF (.agg #[.slice (some ⟨7,0,none⟩) (⟨s.now,s.sure,s.last,s.slast.set (Int.toNat 1) (at_ s.last 1 + x12),s.fl⟩:Stv).now.length 0,.slice (some ⟨8,0,none⟩) (⟨s.now,s.sure,s.last,s.slast.set (Int.toNat 1) (at_ s.last 1 + x12),s.fl⟩:Stv).sure.length 0,.slice (some ⟨9,0,none⟩) (⟨s.now,s.sure,s.last,s.slast.set (Int.toNat 1) (at_ s.last 1 + x12),s.fl⟩:Stv).last.length 0,.slice (some ⟨10,0,none⟩) (⟨s.now,s.sure,s.last,s.slast.set (Int.toNat 1) (at_ s.last 1 + x12),s.fl⟩:Stv).slast.length 0,.slice (some ⟨11,0,none⟩) (⟨s.now,s.sure,s.last,s.slast.set (Int.toNat 1) (at_ s.last 1 + x12),s.fl⟩:Stv).fl.length 0]) [0,2,3,4,5,6] [(1,one ⟨[.slice (some ⟨0,k,none⟩) n 0,.int .i64 (p + 1 + 1)],83,2⟩)] [(7,one ⟨hls 0 (rS (⟨s.now,s.sure,s.last,s.slast.set (Int.toNat 1) (at_ s.last 1 + x12),s.fl⟩:Stv).now),9,0⟩),(8,one ⟨rS (⟨s.now,s.sure,s.last,s.slast.set (Int.toNat 1) (at_ s.last 1 + x12),s.fl⟩:Stv).sure,9,77⟩),(9,one ⟨rI (⟨s.now,s.sure,s.last,s.slast.set (Int.toNat 1) (at_ s.last 1 + x12),s.fl⟩:Stv).last,3,77⟩),(10,one ⟨rI (⟨s.now,s.sure,s.last,s.slast.set (Int.toNat 1) (at_ s.last 1 + x12),s.fl⟩:Stv).slast,3,77⟩),(11,one ⟨rI (⟨s.now,s.sure,s.last,s.slast.set (Int.toNat 1) (at_ s.last 1 + x12),s.fl⟩:Stv).fl,3,77⟩)],_,endsT [(7,9,one ⟨hls 0 (rS (⟨s.now,s.sure,s.last,s.slast.set (Int.toNat 1) (at_ s.last 1 + x12),s.fl⟩:Stv).now),9,0⟩),(8,10,one ⟨rS (⟨s.now,s.sure,s.last,s.slast.set (Int.toNat 1) (at_ s.last 1 + x12),s.fl⟩:Stv).sure,9,77⟩),(9,11,one ⟨rI (⟨s.now,s.sure,s.last,s.slast.set (Int.toNat 1) (at_ s.last 1 + x12),s.fl⟩:Stv).last,3,77⟩),(10,12,one ⟨rI (⟨s.now,s.sure,s.last,s.slast.set (Int.toNat 1) (at_ s.last 1 + x12),s.fl⟩:Stv).slast,3,77⟩),(11,13,one ⟨rI (⟨s.now,s.sure,s.last,s.slast.set (Int.toNat 1) (at_ s.last 1 + x12),s.fl⟩:Stv).fl,3,77⟩)] (.inr rfl) ((.cell rfl rfl rfl rfl rfl .nil)) (by rw [List.length_set];rfl) rfl ⟨upOne rfl rfl rfl,trivial⟩ ⟨asFlat rfl (hls_flat (rS_flat (⟨s.now,s.sure,s.last,s.slast.set (Int.toNat 1) (at_ s.last 1 + x12),s.fl⟩:Stv).now)),asFlat rfl (rS_flat (⟨s.now,s.sure,s.last,s.slast.set (Int.toNat 1) (at_ s.last 1 + x12),s.fl⟩:Stv).sure),asFlat rfl (rI_flat (⟨s.now,s.sure,s.last,s.slast.set (Int.toNat 1) (at_ s.last 1 + x12),s.fl⟩:Stv).last),asFlat rfl (rI_flat (⟨s.now,s.sure,s.last,s.slast.set (Int.toNat 1) (at_ s.last 1 + x12),s.fl⟩:Stv).slast),asFlat rfl (rI_flat (⟨s.now,s.sure,s.last,s.slast.set (Int.toNat 1) (at_ s.last 1 + x12),s.fl⟩:Stv).fl),trivial⟩ rfl,(⟨s.now,s.sure,s.last,s.slast.set (Int.toNat 1) (at_ s.last 1 + x12),s.fl⟩:Stv),0,0,_,(bn_3 hb),(by omega),(by omega),rfl⟩
      ·skip
       have p52:=of_decide_eq_false c52
       refine vc_skip ?_
       refine vc_seq ?_
       refine vc_region hm ?_
       refine gL trivial rfl rfl rfl rfl rfl rfl rfl rfl ?_
       refine gT trivial rfl rfl rfl rfl rfl rfl rfl rfl rfl rfl (Nat.le_of_ble_eq_true rfl) rfl ?_
       refine rg_nil nofun ?_
       refine vc_re (S2:=⟨15,[(4,.pointer (some ⟨8,0,none⟩))],[(1,true,one ⟨[.slice (some ⟨0,k,none⟩) n 0,.int .i64 (p + 1)],83,2⟩),(8,true,one ⟨[.slice (some ⟨9,0,none⟩) s.now.length 0,.slice (some ⟨10,0,none⟩) s.sure.length 0,.slice (some ⟨11,0,none⟩) s.last.length 0,.slice (some ⟨12,0,none⟩) s.slast.length 0,.slice (some ⟨13,0,none⟩) s.fl.length 0],26,5⟩),(9,true,one ⟨hls 0 (rS s.now),9,0⟩),(10,true,one ⟨rS s.sure,9,77⟩),(11,true,one ⟨rI s.last,3,77⟩),(12,true,one ⟨rI s.slast,3,77⟩),(13,true,one ⟨rI s.fl,3,77⟩)]⟩) (re_nil (ms:=[0,1,2,3,4,5,6,7,8,9,10,11,12,13,14]) (C:=999) rfl ⟨⟨⟨rfl,rfl⟩,rfl⟩,trivial⟩ ⟨ktRow rfl rfl rfl (BlkW.refl _) id rfl,ktRow rfl rfl rfl ⟨.inl rfl,fun _=>rfl,.inr (.inl rfl),fun q=>(by cases q)⟩ id rfl,ktFlat (hls_flat (rS_flat _)) rfl (.inl rfl) id rfl,ktFlat (rS_flat _) rfl (.inr (.inr ⟨Nat.le_of_ble_eq_true rfl,Nat.le_of_ble_eq_true rfl,fun q=>absurd q (Nat.succ_ne_zero _)⟩)) id rfl,ktFlat (rI_flat _) rfl (.inr (.inr ⟨Nat.le_of_ble_eq_true rfl,Nat.le_of_ble_eq_true rfl,fun q=>absurd q (Nat.succ_ne_zero _)⟩)) id rfl,ktFlat (rI_flat _) rfl (.inr (.inr ⟨Nat.le_of_ble_eq_true rfl,Nat.le_of_ble_eq_true rfl,fun q=>absurd q (Nat.succ_ne_zero _)⟩)) id rfl,ktFlat (rI_flat _) rfl (.inr (.inr ⟨Nat.le_of_ble_eq_true rfl,Nat.le_of_ble_eq_true rfl,fun q=>absurd q (Nat.succ_ne_zero _)⟩)) id rfl,trivial⟩ rfl rfl (rig_of rfl) rfl) ?_
       refine vc_ret ?_
       exact ⟨mkF (.agg #[.slice (some ⟨7,0,none⟩) s.now.length 0,.slice (some ⟨8,0,none⟩) s.sure.length 0,.slice (some ⟨9,0,none⟩) s.last.length 0,.slice (some ⟨10,0,none⟩) s.slast.length 0,.slice (some ⟨11,0,none⟩) s.fl.length 0]) [0,2,3,4,5,6] [(1,one ⟨[.slice (some ⟨0,k,none⟩) n 0,.int .i64 (p + 1)],83,2⟩)] [(7,one ⟨hls 0 (rS s.now),9,0⟩),(8,one ⟨rS s.sure,9,77⟩),(9,one ⟨rI s.last,3,77⟩),(10,one ⟨rI s.slast,3,77⟩),(11,one ⟨rI s.fl,3,77⟩)],_,endsT [(7,9,one ⟨hls 0 (rS s.now),9,0⟩),(8,10,one ⟨rS s.sure,9,77⟩),(9,11,one ⟨rI s.last,3,77⟩),(10,12,one ⟨rI s.slast,3,77⟩),(11,13,one ⟨rI s.fl,3,77⟩)] (.inr rfl) ((.cell rfl rfl rfl rfl rfl .nil)) rfl rfl ⟨upOne rfl rfl rfl,trivial⟩ ⟨asFlat rfl (hls_flat (rS_flat s.now)),asFlat rfl (rS_flat s.sure),asFlat rfl (rI_flat s.last),asFlat rfl (rI_flat s.slast),asFlat rfl (rI_flat s.fl),trivial⟩ rfl,s,0,0,_,hb,(by omega),(by omega),rfl⟩
     ·skip
      have p47:=of_decide_eq_false c47
      refine gO ⟨_,_,rfl,rfl,c47⟩ rfl rfl ?_
      refine gO ⟨_,_,rfl,rfl,c47⟩ rfl rfl ?_
      refine gO ⟨_,_,rfl,rfl,c47⟩ rfl rfl ?_
      refine gO ⟨_,_,rfl,rfl,c47⟩ rfl rfl ?_
      refine gPF trivial rfl rfl c47 rfl rfl rfl ?_
      refine rg_nil nofun ?_
      refine cF rfl rfl ?_
      refine vc_skip ?_
      refine vc_seq ?_
      refine vc_region hm ?_
      refine gL trivial rfl rfl rfl rfl rfl rfl rfl rfl ?_
      refine gT trivial rfl rfl rfl rfl rfl rfl rfl rfl rfl rfl (Nat.le_of_ble_eq_true rfl) rfl ?_
      refine rg_nil nofun ?_
      refine vc_re (S2:=⟨15,[(4,.pointer (some ⟨8,0,none⟩))],[(1,true,one ⟨[.slice (some ⟨0,k,none⟩) n 0,.int .i64 (p + 1)],83,2⟩),(8,true,one ⟨[.slice (some ⟨9,0,none⟩) s.now.length 0,.slice (some ⟨10,0,none⟩) s.sure.length 0,.slice (some ⟨11,0,none⟩) s.last.length 0,.slice (some ⟨12,0,none⟩) s.slast.length 0,.slice (some ⟨13,0,none⟩) s.fl.length 0],26,5⟩),(9,true,one ⟨hls 0 (rS s.now),9,0⟩),(10,true,one ⟨rS s.sure,9,77⟩),(11,true,one ⟨rI s.last,3,77⟩),(12,true,one ⟨rI s.slast,3,77⟩),(13,true,one ⟨rI s.fl,3,77⟩)]⟩) (re_nil (ms:=[0,1,2,3,4,5,6,7,8,9,10,11,12,13,14]) (C:=999) rfl ⟨⟨⟨rfl,rfl⟩,rfl⟩,trivial⟩ ⟨ktRow rfl rfl rfl (BlkW.refl _) id rfl,ktRow rfl rfl rfl ⟨.inl rfl,fun _=>rfl,.inr (.inl rfl),fun q=>(by cases q)⟩ id rfl,ktFlat (hls_flat (rS_flat _)) rfl (.inl rfl) id rfl,ktFlat (rS_flat _) rfl (.inr (.inr ⟨Nat.le_of_ble_eq_true rfl,Nat.le_of_ble_eq_true rfl,fun q=>absurd q (Nat.succ_ne_zero _)⟩)) id rfl,ktFlat (rI_flat _) rfl (.inr (.inr ⟨Nat.le_of_ble_eq_true rfl,Nat.le_of_ble_eq_true rfl,fun q=>absurd q (Nat.succ_ne_zero _)⟩)) id rfl,ktFlat (rI_flat _) rfl (.inr (.inr ⟨Nat.le_of_ble_eq_true rfl,Nat.le_of_ble_eq_true rfl,fun q=>absurd q (Nat.succ_ne_zero _)⟩)) id rfl,ktFlat (rI_flat _) rfl (.inr (.inr ⟨Nat.le_of_ble_eq_true rfl,Nat.le_of_ble_eq_true rfl,fun q=>absurd q (Nat.succ_ne_zero _)⟩)) id rfl,trivial⟩ rfl rfl (rig_of rfl) rfl) ?_
      refine vc_ret ?_
      exact ⟨mkF (.agg #[.slice (some ⟨7,0,none⟩) s.now.length 0,.slice (some ⟨8,0,none⟩) s.sure.length 0,.slice (some ⟨9,0,none⟩) s.last.length 0,.slice (some ⟨10,0,none⟩) s.slast.length 0,.slice (some ⟨11,0,none⟩) s.fl.length 0]) [0,2,3,4,5,6] [(1,one ⟨[.slice (some ⟨0,k,none⟩) n 0,.int .i64 (p + 1)],83,2⟩)] [(7,one ⟨hls 0 (rS s.now),9,0⟩),(8,one ⟨rS s.sure,9,77⟩),(9,one ⟨rI s.last,3,77⟩),(10,one ⟨rI s.slast,3,77⟩),(11,one ⟨rI s.fl,3,77⟩)],_,endsT [(7,9,one ⟨hls 0 (rS s.now),9,0⟩),(8,10,one ⟨rS s.sure,9,77⟩),(9,11,one ⟨rI s.last,3,77⟩),(10,12,one ⟨rI s.slast,3,77⟩),(11,13,one ⟨rI s.fl,3,77⟩)] (.inr rfl) ((.cell rfl rfl rfl rfl rfl .nil)) rfl rfl ⟨upOne rfl rfl rfl,trivial⟩ ⟨asFlat rfl (hls_flat (rS_flat s.now)),asFlat rfl (rS_flat s.sure),asFlat rfl (rI_flat s.last),asFlat rfl (rI_flat s.slast),asFlat rfl (rI_flat s.fl),trivial⟩ rfl,s,0,0,_,hb,(by omega),(by omega),rfl⟩
    ·skip
     have p41:=ne_of_beq_false c41
     refine vc_seq ?_
     refine vc_region hm ?_
     refine gI trivial rfl rfl rfl rfl rfl rfl ?_
     refine gM trivial (.inr rfl) rfl rfl rfl ?_
     refine rg_nil nofun ?_
     refine cI rfl (fun c64=>?_) (fun c64=>?_)
     ·skip
      have p64:=eq_of_beq c64
      refine vc_seq ?_
      refine vc_region hm ?_
      refine gF trivial rfl rfl rfl rfl rfl ?_
      refine gL trivial rfl rfl rfl rfl rfl rfl rfl rfl ?_
      refine gK trivial rfl rfl rfl rfl rfl rfl rI_nil ?_
      refine gI trivial rfl rfl rfl rfl rfl rfl ?_
      refine rg_nil nofun ?_
      refine cI rfl (fun c69=>?_) (fun c69=>?_)
      ·skip
       have p69:=of_decide_eq_true c69
       refine vc_region hm ?_
       refine gF trivial rfl rfl rfl rfl rfl ?_
       refine gL trivial rfl rfl rfl rfl rfl rfl rfl rfl ?_
       refine gM trivial (.inl rfl) rfl rfl rfl ?_
       refine gR (u':=16) (out:=rI [-1,100,101]) trivial rfl rfl rfl rfl rfl rfl rfl rfl rfl rfl rfl rfl rfl rfl ?_
       obtain ⟨E15,hE15,x15,x15a,x15b,rfl⟩:=num_c (k:=k) (t0:=t0) (p:=p + 1) hl hn (by omega) (by omega) (L:=[-1,100,101]) (a:=-1) (b:=101) (by decide) (by decide)
       refine gCF (ups':=[(1,one ⟨[.slice (some ⟨0,k,none⟩) n 0,.int .i64 (p + 1 + 1)],83,2⟩)]) (as':=[]) (v':=.int .i64 x15) 16 [0,1,15] hE15 trivial rfl rfl rfl rfl ⟨rCode rfl rfl,rCells rfl ⟨rfl,rfl,.inr rfl⟩ rfl,rFlat (rI_flat _) rfl (.inl rfl) rfl,trivial⟩ ⟨frOne rfl rfl,trivial⟩ trivial rfl rfl (ho1 ⟨_,rfl⟩) (hu1 rfl) rfl rfl ?_
       refine gX trivial rfl rfl rfl rfl rfl rfl rfl rfl (by omega) (by omega) rI_ne ?_
       refine gT trivial rfl rfl rfl rfl rfl rfl rfl rfl rfl rfl (kI (by omega) (by omega)) (sI (by omega) (by omega)) ?_
       refine rg_nil (fun _=>by kernel_rfl) ?_
       refine vc_seq ?_
       refine vc_region hm ?_
       refine gL trivial rfl rfl rfl rfl rfl rfl rfl rfl ?_
       refine gT trivial rfl rfl rfl rfl rfl rfl rfl rfl rfl rfl (Nat.le_of_ble_eq_true rfl) rfl ?_
       refine rg_nil nofun ?_
       refine vc_re (S2:=⟨16,[(4,.pointer (some ⟨8,0,none⟩))],[(1,true,one ⟨[.slice (some ⟨0,k,none⟩) n 0,.int .i64 (p + 1 + 1)],83,2⟩),(8,true,one ⟨[.slice (some ⟨9,0,none⟩) s.now.length 0,.slice (some ⟨10,0,none⟩) s.sure.length 0,.slice (some ⟨11,0,none⟩) s.last.length 0,.slice (some ⟨12,0,none⟩) s.slast.length 0,.slice (some ⟨13,0,none⟩) s.fl.length 0],26,5⟩),(9,true,one ⟨hls 0 (rS (⟨s.now,s.sure,s.last,s.slast,s.fl.set (Int.toNat 0) x15⟩:Stv).now),9,0⟩),(10,true,one ⟨rS (⟨s.now,s.sure,s.last,s.slast,s.fl.set (Int.toNat 0) x15⟩:Stv).sure,9,77⟩),(11,true,one ⟨rI (⟨s.now,s.sure,s.last,s.slast,s.fl.set (Int.toNat 0) x15⟩:Stv).last,3,77⟩),(12,true,one ⟨rI (⟨s.now,s.sure,s.last,s.slast,s.fl.set (Int.toNat 0) x15⟩:Stv).slast,3,77⟩),(13,true,one ⟨rI (⟨s.now,s.sure,s.last,s.slast,s.fl.set (Int.toNat 0) x15⟩:Stv).fl,3,77⟩)]⟩) (re_nil (ms:=[0,1,2,3,4,5,6,7,8,9,10,11,12,13,14,15]) (C:=999) rfl ⟨⟨⟨rfl,rfl⟩,rfl⟩,trivial⟩ ⟨ktRow rfl rfl rfl (BlkW.refl _) id rfl,ktRow rfl rfl rfl ⟨.inl rfl,fun _=>rfl,.inr (.inl rfl),fun q=>(by cases q)⟩ id rfl,ktFlat (hls_flat (rS_flat _)) rfl (.inl rfl) id rfl,ktFlat (rS_flat _) rfl (.inr (.inr ⟨Nat.le_of_ble_eq_true rfl,Nat.le_of_ble_eq_true rfl,fun q=>absurd q (Nat.succ_ne_zero _)⟩)) id rfl,ktFlat (rI_flat _) rfl (.inr (.inr ⟨Nat.le_of_ble_eq_true rfl,Nat.le_of_ble_eq_true rfl,fun q=>absurd q (Nat.succ_ne_zero _)⟩)) id rfl,ktFlat (rI_flat _) rfl (.inr (.inr ⟨Nat.le_of_ble_eq_true rfl,Nat.le_of_ble_eq_true rfl,fun q=>absurd q (Nat.succ_ne_zero _)⟩)) id rfl,ktFlat (rI_flat _) rfl (.inr (.inr ⟨Nat.le_of_ble_eq_true rfl,Nat.le_of_ble_eq_true rfl,fun q=>absurd q (Nat.succ_ne_zero _)⟩)) id rfl,trivial⟩ rfl rfl (rig_of rfl) rfl) ?_
       refine vc_ret ?_
       exact ⟨mkF (.agg #[.slice (some ⟨7,0,none⟩) (⟨s.now,s.sure,s.last,s.slast,s.fl.set (Int.toNat 0) x15⟩:Stv).now.length 0,.slice (some ⟨8,0,none⟩) (⟨s.now,s.sure,s.last,s.slast,s.fl.set (Int.toNat 0) x15⟩:Stv).sure.length 0,.slice (some ⟨9,0,none⟩) (⟨s.now,s.sure,s.last,s.slast,s.fl.set (Int.toNat 0) x15⟩:Stv).last.length 0,.slice (some ⟨10,0,none⟩) (⟨s.now,s.sure,s.last,s.slast,s.fl.set (Int.toNat 0) x15⟩:Stv).slast.length 0,.slice (some ⟨11,0,none⟩) (⟨s.now,s.sure,s.last,s.slast,s.fl.set (Int.toNat 0) x15⟩:Stv).fl.length 0]) [0,2,3,4,5,6] [(1,one ⟨[.slice (some ⟨0,k,none⟩) n 0,.int .i64 (p + 1 + 1)],83,2⟩)] [(7,one ⟨hls 0 (rS (⟨s.now,s.sure,s.last,s.slast,s.fl.set (Int.toNat 0) x15⟩:Stv).now),9,0⟩),(8,one ⟨rS (⟨s.now,s.sure,s.last,s.slast,s.fl.set (Int.toNat 0) x15⟩:Stv).sure,9,77⟩),(9,one ⟨rI (⟨s.now,s.sure,s.last,s.slast,s.fl.set (Int.toNat 0) x15⟩:Stv).last,3,77⟩),(10,one ⟨rI (⟨s.now,s.sure,s.last,s.slast,s.fl.set (Int.toNat 0) x15⟩:Stv).slast,3,77⟩),(11,one ⟨rI (⟨s.now,s.sure,s.last,s.slast,s.fl.set (Int.toNat 0) x15⟩:Stv).fl,3,77⟩)],_,endsT [(7,9,one ⟨hls 0 (rS (⟨s.now,s.sure,s.last,s.slast,s.fl.set (Int.toNat 0) x15⟩:Stv).now),9,0⟩),(8,10,one ⟨rS (⟨s.now,s.sure,s.last,s.slast,s.fl.set (Int.toNat 0) x15⟩:Stv).sure,9,77⟩),(9,11,one ⟨rI (⟨s.now,s.sure,s.last,s.slast,s.fl.set (Int.toNat 0) x15⟩:Stv).last,3,77⟩),(10,12,one ⟨rI (⟨s.now,s.sure,s.last,s.slast,s.fl.set (Int.toNat 0) x15⟩:Stv).slast,3,77⟩),(11,13,one ⟨rI (⟨s.now,s.sure,s.last,s.slast,s.fl.set (Int.toNat 0) x15⟩:Stv).fl,3,77⟩)] (.inr rfl) ((.cell rfl rfl rfl rfl rfl .nil)) (by rw [List.length_set];rfl) rfl ⟨upOne rfl rfl rfl,trivial⟩ ⟨asFlat rfl (hls_flat (rS_flat (⟨s.now,s.sure,s.last,s.slast,s.fl.set (Int.toNat 0) x15⟩:Stv).now)),asFlat rfl (rS_flat (⟨s.now,s.sure,s.last,s.slast,s.fl.set (Int.toNat 0) x15⟩:Stv).sure),asFlat rfl (rI_flat (⟨s.now,s.sure,s.last,s.slast,s.fl.set (Int.toNat 0) x15⟩:Stv).last),asFlat rfl (rI_flat (⟨s.now,s.sure,s.last,s.slast,s.fl.set (Int.toNat 0) x15⟩:Stv).slast),asFlat rfl (rI_flat (⟨s.now,s.sure,s.last,s.slast,s.fl.set (Int.toNat 0) x15⟩:Stv).fl),trivial⟩ rfl,(⟨s.now,s.sure,s.last,s.slast,s.fl.set (Int.toNat 0) x15⟩:Stv),0,0,_,(bn_4 hb (by omega)),(by omega),(by omega),rfl⟩
      ·skip
       have p69:=of_decide_eq_false c69
       refine vc_skip ?_
       refine vc_seq ?_
       refine vc_region hm ?_
       refine gL trivial rfl rfl rfl rfl rfl rfl rfl rfl ?_
       refine gT trivial rfl rfl rfl rfl rfl rfl rfl rfl rfl rfl (Nat.le_of_ble_eq_true rfl) rfl ?_
       refine rg_nil nofun ?_
       refine vc_re (S2:=⟨15,[(4,.pointer (some ⟨8,0,none⟩))],[(1,true,one ⟨[.slice (some ⟨0,k,none⟩) n 0,.int .i64 (p + 1)],83,2⟩),(8,true,one ⟨[.slice (some ⟨9,0,none⟩) s.now.length 0,.slice (some ⟨10,0,none⟩) s.sure.length 0,.slice (some ⟨11,0,none⟩) s.last.length 0,.slice (some ⟨12,0,none⟩) s.slast.length 0,.slice (some ⟨13,0,none⟩) s.fl.length 0],26,5⟩),(9,true,one ⟨hls 0 (rS s.now),9,0⟩),(10,true,one ⟨rS s.sure,9,77⟩),(11,true,one ⟨rI s.last,3,77⟩),(12,true,one ⟨rI s.slast,3,77⟩),(13,true,one ⟨rI s.fl,3,77⟩)]⟩) (re_nil (ms:=[0,1,2,3,4,5,6,7,8,9,10,11,12,13,14]) (C:=999) rfl ⟨⟨⟨rfl,rfl⟩,rfl⟩,trivial⟩ ⟨ktRow rfl rfl rfl (BlkW.refl _) id rfl,ktRow rfl rfl rfl ⟨.inl rfl,fun _=>rfl,.inr (.inl rfl),fun q=>(by cases q)⟩ id rfl,ktFlat (hls_flat (rS_flat _)) rfl (.inl rfl) id rfl,ktFlat (rS_flat _) rfl (.inr (.inr ⟨Nat.le_of_ble_eq_true rfl,Nat.le_of_ble_eq_true rfl,fun q=>absurd q (Nat.succ_ne_zero _)⟩)) id rfl,ktFlat (rI_flat _) rfl (.inr (.inr ⟨Nat.le_of_ble_eq_true rfl,Nat.le_of_ble_eq_true rfl,fun q=>absurd q (Nat.succ_ne_zero _)⟩)) id rfl,ktFlat (rI_flat _) rfl (.inr (.inr ⟨Nat.le_of_ble_eq_true rfl,Nat.le_of_ble_eq_true rfl,fun q=>absurd q (Nat.succ_ne_zero _)⟩)) id rfl,ktFlat (rI_flat _) rfl (.inr (.inr ⟨Nat.le_of_ble_eq_true rfl,Nat.le_of_ble_eq_true rfl,fun q=>absurd q (Nat.succ_ne_zero _)⟩)) id rfl,trivial⟩ rfl rfl (rig_of rfl) rfl) ?_
       refine vc_ret ?_
       exact ⟨mkF (.agg #[.slice (some ⟨7,0,none⟩) s.now.length 0,.slice (some ⟨8,0,none⟩) s.sure.length 0,.slice (some ⟨9,0,none⟩) s.last.length 0,.slice (some ⟨10,0,none⟩) s.slast.length 0,.slice (some ⟨11,0,none⟩) s.fl.length 0]) [0,2,3,4,5,6] [(1,one ⟨[.slice (some ⟨0,k,none⟩) n 0,.int .i64 (p + 1)],83,2⟩)] [(7,one ⟨hls 0 (rS s.now),9,0⟩),(8,one ⟨rS s.sure,9,77⟩),(9,one ⟨rI s.last,3,77⟩),(10,one ⟨rI s.slast,3,77⟩),(11,one ⟨rI s.fl,3,77⟩)],_,endsT [(7,9,one ⟨hls 0 (rS s.now),9,0⟩),(8,10,one ⟨rS s.sure,9,77⟩),(9,11,one ⟨rI s.last,3,77⟩),(10,12,one ⟨rI s.slast,3,77⟩),(11,13,one ⟨rI s.fl,3,77⟩)] (.inr rfl) ((.cell rfl rfl rfl rfl rfl .nil)) rfl rfl ⟨upOne rfl rfl rfl,trivial⟩ ⟨asFlat rfl (hls_flat (rS_flat s.now)),asFlat rfl (rS_flat s.sure),asFlat rfl (rI_flat s.last),asFlat rfl (rI_flat s.slast),asFlat rfl (rI_flat s.fl),trivial⟩ rfl,s,0,0,_,hb,(by omega),(by omega),rfl⟩
     ·skip
      have p64:=ne_of_beq_false c64
      refine vc_seq ?_
      refine vc_region hm ?_
      refine gI trivial rfl rfl rfl rfl rfl rfl ?_
      refine gM trivial (.inr rfl) rfl rfl rfl ?_
      refine rg_nil nofun ?_
      refine cI rfl (fun c76=>?_) (fun c76=>?_)
      ·skip
       have p76:=eq_of_beq c76
       refine vc_region hm ?_
       refine gF trivial rfl rfl rfl rfl rfl ?_
       refine gT trivial rfl rfl rfl rfl rfl rfl rfl rfl rfl rfl (Nat.le_of_ble_eq_true rfl) rfl ?_
       refine rg_nil nofun ?_
       refine vc_seq ?_
       refine vc_region hm ?_
       refine gL trivial rfl rfl rfl rfl rfl rfl rfl rfl ?_
       refine gT trivial rfl rfl rfl rfl rfl rfl rfl rfl rfl rfl (Nat.le_of_ble_eq_true rfl) rfl ?_
       refine rg_nil nofun ?_
       refine vc_re (S2:=⟨16,[(4,.pointer (some ⟨8,0,none⟩))],[(1,true,one ⟨[.slice (some ⟨0,k,none⟩) n 0,.int .i64 (p + 1)],83,2⟩),(8,true,one ⟨[.slice (some ⟨9,0,none⟩) s.now.length 0,.slice (some ⟨10,0,none⟩) s.sure.length 0,.slice (some ⟨11,0,none⟩) s.last.length 0,.slice (some ⟨12,0,none⟩) s.slast.length 0,.slice (some ⟨15,0,none⟩) 0 0],26,5⟩),(9,true,one ⟨hls 0 (rS (⟨s.now,s.sure,s.last,s.slast,[]⟩:Stv).now),9,0⟩),(10,true,one ⟨rS (⟨s.now,s.sure,s.last,s.slast,[]⟩:Stv).sure,9,77⟩),(11,true,one ⟨rI (⟨s.now,s.sure,s.last,s.slast,[]⟩:Stv).last,3,77⟩),(12,true,one ⟨rI (⟨s.now,s.sure,s.last,s.slast,[]⟩:Stv).slast,3,77⟩),(15,true,one ⟨rI (⟨s.now,s.sure,s.last,s.slast,[]⟩:Stv).fl,3,77⟩)]⟩) (re_nil (ms:=[0,1,2,3,4,5,6,7,8,9,10,11,12,13,14]) (C:=15) rfl ⟨⟨⟨rfl,rfl⟩,rfl⟩,trivial⟩ ⟨ktRow rfl rfl rfl (BlkW.refl _) id rfl,ktRow rfl rfl rfl ⟨.inl rfl,fun _=>rfl,.inr (.inl rfl),fun q=>(by cases q)⟩ id rfl,ktFlat (hls_flat (rS_flat _)) rfl (.inl rfl) id rfl,ktFlat (rS_flat _) rfl (.inr (.inr ⟨Nat.le_of_ble_eq_true rfl,Nat.le_of_ble_eq_true rfl,fun q=>absurd q (Nat.succ_ne_zero _)⟩)) id rfl,ktFlat (rI_flat _) rfl (.inr (.inr ⟨Nat.le_of_ble_eq_true rfl,Nat.le_of_ble_eq_true rfl,fun q=>absurd q (Nat.succ_ne_zero _)⟩)) id rfl,ktFlat (rI_flat _) rfl (.inr (.inr ⟨Nat.le_of_ble_eq_true rfl,Nat.le_of_ble_eq_true rfl,fun q=>absurd q (Nat.succ_ne_zero _)⟩)) id rfl,ktC1 rfl (by decide) rfl,trivial⟩ rfl rfl (rig_of rfl) rfl) ?_
       refine vc_ret ?_
       exact ⟨mkF (.agg #[.slice (some ⟨7,0,none⟩) (⟨s.now,s.sure,s.last,s.slast,[]⟩:Stv).now.length 0,.slice (some ⟨8,0,none⟩) (⟨s.now,s.sure,s.last,s.slast,[]⟩:Stv).sure.length 0,.slice (some ⟨9,0,none⟩) (⟨s.now,s.sure,s.last,s.slast,[]⟩:Stv).last.length 0,.slice (some ⟨10,0,none⟩) (⟨s.now,s.sure,s.last,s.slast,[]⟩:Stv).slast.length 0,.slice (some ⟨11,0,none⟩) (⟨s.now,s.sure,s.last,s.slast,[]⟩:Stv).fl.length 0]) [0,2,3,4,5,6] [(1,one ⟨[.slice (some ⟨0,k,none⟩) n 0,.int .i64 (p + 1)],83,2⟩)] [(7,one ⟨hls 0 (rS (⟨s.now,s.sure,s.last,s.slast,[]⟩:Stv).now),9,0⟩),(8,one ⟨rS (⟨s.now,s.sure,s.last,s.slast,[]⟩:Stv).sure,9,77⟩),(9,one ⟨rI (⟨s.now,s.sure,s.last,s.slast,[]⟩:Stv).last,3,77⟩),(10,one ⟨rI (⟨s.now,s.sure,s.last,s.slast,[]⟩:Stv).slast,3,77⟩),(11,one ⟨rI (⟨s.now,s.sure,s.last,s.slast,[]⟩:Stv).fl,3,77⟩)],_,endsT [(7,9,one ⟨hls 0 (rS (⟨s.now,s.sure,s.last,s.slast,[]⟩:Stv).now),9,0⟩),(8,10,one ⟨rS (⟨s.now,s.sure,s.last,s.slast,[]⟩:Stv).sure,9,77⟩),(9,11,one ⟨rI (⟨s.now,s.sure,s.last,s.slast,[]⟩:Stv).last,3,77⟩),(10,12,one ⟨rI (⟨s.now,s.sure,s.last,s.slast,[]⟩:Stv).slast,3,77⟩),(11,15,one ⟨rI (⟨s.now,s.sure,s.last,s.slast,[]⟩:Stv).fl,3,77⟩)] (.inr rfl) ((.cell rfl rfl rfl rfl rfl .nil)) rfl rfl ⟨upOne rfl rfl rfl,trivial⟩ ⟨asFlat rfl (hls_flat (rS_flat (⟨s.now,s.sure,s.last,s.slast,[]⟩:Stv).now)),asFlat rfl (rS_flat (⟨s.now,s.sure,s.last,s.slast,[]⟩:Stv).sure),asFlat rfl (rI_flat (⟨s.now,s.sure,s.last,s.slast,[]⟩:Stv).last),asFlat rfl (rI_flat (⟨s.now,s.sure,s.last,s.slast,[]⟩:Stv).slast),asFlat rfl (rI_flat (⟨s.now,s.sure,s.last,s.slast,[]⟩:Stv).fl),trivial⟩ rfl,(⟨s.now,s.sure,s.last,s.slast,[]⟩:Stv),0,0,_,(bn_5 hb),(by omega),(by omega),rfl⟩
      ·skip
       have p76:=ne_of_beq_false c76
       refine vc_skip ?_
       refine vc_seq ?_
       refine vc_region hm ?_
       refine gL trivial rfl rfl rfl rfl rfl rfl rfl rfl ?_
       refine gT trivial rfl rfl rfl rfl rfl rfl rfl rfl rfl rfl (Nat.le_of_ble_eq_true rfl) rfl ?_
       refine rg_nil nofun ?_
       refine vc_re (S2:=⟨15,[(4,.pointer (some ⟨8,0,none⟩))],[(1,true,one ⟨[.slice (some ⟨0,k,none⟩) n 0,.int .i64 (p + 1)],83,2⟩),(8,true,one ⟨[.slice (some ⟨9,0,none⟩) s.now.length 0,.slice (some ⟨10,0,none⟩) s.sure.length 0,.slice (some ⟨11,0,none⟩) s.last.length 0,.slice (some ⟨12,0,none⟩) s.slast.length 0,.slice (some ⟨13,0,none⟩) s.fl.length 0],26,5⟩),(9,true,one ⟨hls 0 (rS s.now),9,0⟩),(10,true,one ⟨rS s.sure,9,77⟩),(11,true,one ⟨rI s.last,3,77⟩),(12,true,one ⟨rI s.slast,3,77⟩),(13,true,one ⟨rI s.fl,3,77⟩)]⟩) (re_nil (ms:=[0,1,2,3,4,5,6,7,8,9,10,11,12,13,14]) (C:=999) rfl ⟨⟨⟨rfl,rfl⟩,rfl⟩,trivial⟩ ⟨ktRow rfl rfl rfl (BlkW.refl _) id rfl,ktRow rfl rfl rfl ⟨.inl rfl,fun _=>rfl,.inr (.inl rfl),fun q=>(by cases q)⟩ id rfl,ktFlat (hls_flat (rS_flat _)) rfl (.inl rfl) id rfl,ktFlat (rS_flat _) rfl (.inr (.inr ⟨Nat.le_of_ble_eq_true rfl,Nat.le_of_ble_eq_true rfl,fun q=>absurd q (Nat.succ_ne_zero _)⟩)) id rfl,ktFlat (rI_flat _) rfl (.inr (.inr ⟨Nat.le_of_ble_eq_true rfl,Nat.le_of_ble_eq_true rfl,fun q=>absurd q (Nat.succ_ne_zero _)⟩)) id rfl,ktFlat (rI_flat _) rfl (.inr (.inr ⟨Nat.le_of_ble_eq_true rfl,Nat.le_of_ble_eq_true rfl,fun q=>absurd q (Nat.succ_ne_zero _)⟩)) id rfl,ktFlat (rI_flat _) rfl (.inr (.inr ⟨Nat.le_of_ble_eq_true rfl,Nat.le_of_ble_eq_true rfl,fun q=>absurd q (Nat.succ_ne_zero _)⟩)) id rfl,trivial⟩ rfl rfl (rig_of rfl) rfl) ?_
       refine vc_ret ?_
       exact ⟨mkF (.agg #[.slice (some ⟨7,0,none⟩) s.now.length 0,.slice (some ⟨8,0,none⟩) s.sure.length 0,.slice (some ⟨9,0,none⟩) s.last.length 0,.slice (some ⟨10,0,none⟩) s.slast.length 0,.slice (some ⟨11,0,none⟩) s.fl.length 0]) [0,2,3,4,5,6] [(1,one ⟨[.slice (some ⟨0,k,none⟩) n 0,.int .i64 (p + 1)],83,2⟩)] [(7,one ⟨hls 0 (rS s.now),9,0⟩),(8,one ⟨rS s.sure,9,77⟩),(9,one ⟨rI s.last,3,77⟩),(10,one ⟨rI s.slast,3,77⟩),(11,one ⟨rI s.fl,3,77⟩)],_,endsT [(7,9,one ⟨hls 0 (rS s.now),9,0⟩),(8,10,one ⟨rS s.sure,9,77⟩),(9,11,one ⟨rI s.last,3,77⟩),(10,12,one ⟨rI s.slast,3,77⟩),(11,13,one ⟨rI s.fl,3,77⟩)] (.inr rfl) ((.cell rfl rfl rfl rfl rfl .nil)) rfl rfl ⟨upOne rfl rfl rfl,trivial⟩ ⟨asFlat rfl (hls_flat (rS_flat s.now)),asFlat rfl (rS_flat s.sure),asFlat rfl (rI_flat s.last),asFlat rfl (rI_flat s.slast),asFlat rfl (rI_flat s.fl),trivial⟩ rfl,s,0,0,_,hb,(by omega),(by omega),rfl⟩
theorem rRq_snoc {l:List Rq} {q:Rq}:rRq l ++ eRq q=rRq (l ++ [q]):=row_snoc (enc:=eRq) (x:=q)
theorem rq_snoc {l:List Rq} {q:Rq} (h:∀ x ∈ l,x.d.size≤16) (hq:q.d.size≤16):∀ x ∈ l ++ [q],x.d.size≤16:=fun x hx=>by
 rcases List.mem_append.1 hx with h1|h1
 ·exact h x h1
 ·rw [List.mem_singleton.1 h1];exact hq
theorem list5_c {l:List Int} {k n t0:Nat} {p:Int} (hl:ByL l) (hn:n≤l.length) (hp0:0≤p) (hp1:p≤980000) {s:Stv} {kk cc:Nat} (hb:DrB s):∃ E,FDoes Try.prog 48 [.pointer (some ⟨1,0,none⟩),.agg #[.slice (some ⟨2,kk,none⟩) s.now.length cc,.slice (some ⟨3,0,none⟩) s.sure.length 0,.slice (some ⟨4,0,none⟩) s.last.length 0,.slice (some ⟨5,0,none⟩) s.slast.length 0,.slice (some ⟨6,0,none⟩) s.fl.length 0]] (hp [(0,false,one ⟨hls k (rY l),t0,0⟩),(1,true,one ⟨[.slice (some ⟨0,k,none⟩) n 0,.int .i64 (p)],83,2⟩),(2,false,one ⟨hls kk (rS s.now),9,0⟩),(3,false,one ⟨rS s.sure,9,0⟩),(4,false,one ⟨rI s.last,3,0⟩),(5,false,one ⟨rI s.slast,3,0⟩),(6,false,one ⟨rI s.fl,3,0⟩)]) E∧∃ (out:List Rq) (p2:Int),out.length≤8∧(∀ x ∈ out,x.d.size≤16)∧p≤p2∧p2≤p + 300∧E=mkF (.slice (some ⟨7,0,none⟩) out.length 0) [0,2,3,4,5,6] [(1,one ⟨[.slice (some ⟨0,k,none⟩) n 0,.int .i64 (p2)],83,2⟩)] [(7,one ⟨rRq out,52,6⟩)]:=by
 have hm:Try.prog.follows .mixedOrders=true:=by kernel_rfl
 have hd_:∀ x_ ∈ ([(0,false,one ⟨hls k (rY l),t0,0⟩),(1,true,one ⟨[.slice (some ⟨0,k,none⟩) n 0,.int .i64 (p)],83,2⟩),(2,false,one ⟨hls kk (rS s.now),9,0⟩),(3,false,one ⟨rS s.sure,9,0⟩),(4,false,one ⟨rI s.last,3,0⟩),(5,false,one ⟨rI s.slast,3,0⟩),(6,false,one ⟨rI s.fl,3,0⟩)]:List (Nat × Bool × Fam)),∀ k_ y_,x_.2.2 k_=some y_→DetB (lt 7) y_:=by
  intro x_ hx k_ y_ e
  simp only [List.mem_cons,List.not_mem_nil,or_false] at hx
  rcases hx with rfl|rfl|rfl|rfl|rfl|rfl|rfl
  ·exact det_code e
  ·exact det_ok rfl e
  ·exact det_row (hls_flat (rS_flat s.now)) e
  ·exact det_row (rS_flat s.sure) e
  ·exact det_row (rI_flat s.last) e
  ·exact det_row (rI_flat s.slast) e
  ·exact det_row (rI_flat s.fl) e
 refine fn_some (u0:=7) Try.func48 rfl rfl (gets rfl rfl rfl hd_ rfl) ?_
 clear hd_
 refine vc_seq ?_
 refine vc_region hm ?_
 refine gB (u':=8) trivial rfl rfl rfl rfl rfl rfl rfl rfl ?_
 refine gM trivial (.inr rfl) rfl rfl rfl ?_
 refine rg_nil nofun ?_
 refine vc_seq ?_
 refine vc_region hm ?_
 refine gR (u':=9) (out:=rRq []) trivial rfl rfl rfl rfl rfl rfl rfl rfl rfl rfl rfl rfl rfl rfl ?_
 refine gM trivial (.inr rfl) rfl rfl rfl ?_
 refine rg_nil nofun ?_
 refine vc_seq ?_
 refine vc_seq ?_
 refine vc_region hm ?_
 refine gM trivial (.inl rfl) rfl rfl rfl ?_
 refine gR (u':=10) (out:=rI [3,5,8,1,0]) trivial rfl rfl rfl rfl rfl rfl rfl rfl rfl rfl rfl rfl rfl rfl ?_
 obtain ⟨E1,hE1,x1,x1a,x1b,rfl⟩:=num_c (k:=k) (t0:=t0) (p:=p) hl hn (by omega) (by omega) (L:=[3,5,8,1,0]) (a:=0) (b:=8) (by decide) (by decide)
 refine gCF (ups':=[(1,one ⟨[.slice (some ⟨0,k,none⟩) n 0,.int .i64 (p + 1)],83,2⟩)]) (as':=[]) (v':=.int .i64 x1) 10 [0,1,9] hE1 trivial rfl rfl rfl rfl ⟨rCode rfl rfl,rCells rfl ⟨rfl,rfl,.inr rfl⟩ rfl,rFlat (rI_flat _) rfl (.inl rfl) rfl,trivial⟩ ⟨frOne rfl rfl,trivial⟩ trivial rfl rfl (ho1 ⟨_,rfl⟩) (hu1 rfl) rfl rfl ?_
 refine gM trivial (.inr rfl) rfl rfl rfl ?_
 refine rg_nil nofun ?_
 refine vc_block ?_
 refine vc_loopT (fun n_ S_=>∃ (s2:Stv) (k2 c2:Nat) (out:List Rq) (i q:Int),DrB s2∧(∀ x ∈ out,x.d.size≤16)∧0≤i∧(out.length:Int) + i≤8∧p≤q∧q≤p + 1 + 25 * (8 - i)∧n_=i.toNat∧S_=⟨14,[(0,.pointer (some ⟨1,0,none⟩)),(3,.pointer (some ⟨7,0,none⟩)),(5,.slice (some ⟨8,0,none⟩) out.length 0),(6,.int .i64 i)],[(0,false,one ⟨hls k (rY l),t0,0⟩),(1,true,one ⟨[.slice (some ⟨0,k,none⟩) n 0,.int .i64 (q)],83,2⟩),(7,true,one ⟨[.slice (some ⟨9,k2,none⟩) s2.now.length c2,.slice (some ⟨10,0,none⟩) s2.sure.length 0,.slice (some ⟨11,0,none⟩) s2.last.length 0,.slice (some ⟨12,0,none⟩) s2.slast.length 0,.slice (some ⟨13,0,none⟩) s2.fl.length 0],26,5⟩),(8,true,one ⟨rRq out,52,6⟩),(9,false,one ⟨hls k2 (rS s2.now),9,0⟩),(10,false,one ⟨rS s2.sure,9,0⟩),(11,false,one ⟨rI s2.last,3,0⟩),(12,false,one ⟨rI s2.slast,3,0⟩),(13,false,one ⟨rI s2.fl,3,0⟩)]⟩) ⟨s,kk,cc,[],x1,p + 1,hb,(fun x hx=>nomatch hx),(by omega),(by show ((0:Nat):Int) + _≤8;omega),(by omega),(by omega),rfl,rfl⟩ (re_nil (ms:=[0,1,2,3,4,5,6,7,8,2,3,4,5,6]) (C:=999) rfl ⟨⟨⟨rfl,rfl⟩,rfl⟩,⟨⟨rfl,rfl⟩,rfl⟩,⟨⟨rfl,rfl⟩,rfl⟩,⟨⟨rfl,rfl⟩,rfl⟩,trivial⟩ ⟨ktCode rfl rfl,ktRow rfl rfl rfl (BlkW.refl _) id rfl,ktRow rfl rfl rfl ⟨.inl rfl,fun _=>rfl,.inr (.inl rfl),fun q=>(by cases q)⟩ id rfl,ktFlat (rRq_flat _) rfl (.inr (.inl rfl)) id rfl,ktFlat (hls_flat (rS_flat _)) rfl (.inl rfl) (fun h=>nomatch h) rfl,ktFlat (rS_flat _) rfl (.inl rfl) (fun h=>nomatch h) rfl,ktFlat (rI_flat _) rfl (.inl rfl) (fun h=>nomatch h) rfl,ktFlat (rI_flat _) rfl (.inl rfl) (fun h=>nomatch h) rfl,ktFlat (rI_flat _) rfl (.inl rfl) (fun h=>nomatch h) rfl,trivial⟩ rfl rfl (rig_of rfl) rfl) ?_
 rintro n_ S_ ⟨s2,k2,c2,out,i,q,hb2,ho,i0,i1,q0,q1,rfl,rfl⟩
 refine vc_seq ?_
 refine vc_seq ?_
 refine vc_region hm ?_
 refine gM trivial (.inl rfl) rfl rfl rfl ?_
 refine gI trivial rfl rfl rfl rfl rfl rfl ?_
 refine rg_nil nofun ?_
 refine cI rfl (fun c13=>?_) (fun c13=>?_)
 ·skip
  have p13:=of_decide_eq_true c13
  refine vc_skip ?_
  refine vc_seq ?_
  refine vc_block ?_
  refine vc_seq ?_
  refine vc_region hm ?_
  refine gM trivial (.inl rfl) rfl rfl rfl ?_
  refine gL trivial rfl rfl rfl rfl rfl rfl rfl rfl ?_
  obtain ⟨E3,hE3,rq3,p3,d3,r3a,r3b,rfl⟩:=ask_c (k:=k) (t0:=t0) (p:=q) hl hn (by omega) (by omega) (s:=s2) (kk:=k2) (cc:=c2) hb2
  refine gCF (ups':=[(1,one ⟨[.slice (some ⟨0,k,none⟩) n 0,.int .i64 (p3)],83,2⟩)]) (as':=[]) (v':=vRq rq3) 14 [0,1,9,10,11,12,13] hE3 trivial rfl rfl rfl rfl ⟨rCode rfl rfl,rCells rfl ⟨rfl,rfl,.inr rfl⟩ rfl,rFlat (hls_flat (rS_flat s2.now)) rfl (.inl rfl) rfl,rFlat (rS_flat s2.sure) rfl (.inl rfl) rfl,rFlat (rI_flat s2.last) rfl (.inl rfl) rfl,rFlat (rI_flat s2.slast) rfl (.inl rfl) rfl,rFlat (rI_flat s2.fl) rfl (.inl rfl) rfl,trivial⟩ ⟨frOne rfl rfl,trivial⟩ trivial rfl rfl (ho1 ⟨_,rfl⟩) (hu1 rfl) rfl rfl ?_
  refine gZ (u':=15) trivial rfl rfl rfl rfl rfl rfl rfl rfl ?_
  refine gT trivial rfl rfl rfl rfl rfl rfl rfl rfl rfl rfl (Nat.le_of_ble_eq_true rfl) rfl ?_
  refine rg_nil nofun ?_
  refine vc_joinT (fun S_=>∃ (rq:Rq) (q2:Int),rq.d.size≤16∧q≤q2∧q2≤q + 22∧S_=⟨15,[(0,.pointer (some ⟨1,0,none⟩)),(3,.pointer (some ⟨7,0,none⟩)),(5,.slice (some ⟨8,0,none⟩) out.length 0),(6,.int .i64 i),(7,.pointer (some ⟨14,0,none⟩))],[(0,false,one ⟨hls k (rY l),t0,0⟩),(1,true,one ⟨[.slice (some ⟨0,k,none⟩) n 0,.int .i64 (q2)],83,2⟩),(7,true,one ⟨[.slice (some ⟨9,k2,none⟩) s2.now.length c2,.slice (some ⟨10,0,none⟩) s2.sure.length 0,.slice (some ⟨11,0,none⟩) s2.last.length 0,.slice (some ⟨12,0,none⟩) s2.slast.length 0,.slice (some ⟨13,0,none⟩) s2.fl.length 0],26,5⟩),(8,true,one ⟨rRq out,52,6⟩),(9,false,one ⟨hls k2 (rS s2.now),9,0⟩),(10,false,one ⟨rS s2.sure,9,0⟩),(11,false,one ⟨rI s2.last,3,0⟩),(12,false,one ⟨rI s2.slast,3,0⟩),(13,false,one ⟨rI s2.fl,3,0⟩),(14,true,one ⟨[.int .i64 rq.who,.int .i64 rq.ep,.int .i64 rq.num,.int .i64 rq.obj,.int .i64 rq.a,.string rq.d],52,6⟩)]⟩) ?_ ?_
  ·skip
   refine vc_seq ?_
   refine vc_region hm ?_
   refine gM trivial (.inl rfl) rfl rfl rfl ?_
   refine gK trivial rfl rfl rfl rfl rfl rfl rRq_nil ?_
   refine gI trivial rfl rfl rfl rfl rfl rfl ?_
   refine gM trivial (.inl rfl) rfl rfl rfl ?_
   refine gI2 (d:=22) rfl (fun c22=>?_) (fun c22=>?_)
   ·skip
    have p22:=of_decide_eq_true c22
    refine gM ⟨_,_,rfl,rfl,c22⟩ (.inl rfl) rfl rfl rfl ?_
    obtain ⟨E5,hE5,x5,x5a,x5b,rfl⟩:=pick_c (k:=k) (t0:=t0) (p:=p3) hl hn (by omega) (by omega) (m:=5) (by omega) (by omega)
    refine gCF (ups':=[(1,one ⟨[.slice (some ⟨0,k,none⟩) n 0,.int .i64 (p3 + 1)],83,2⟩)]) (as':=[]) (v':=.int .i64 x5) 15 [0,1] hE5 ⟨_,_,rfl,rfl,c22⟩ rfl rfl rfl rfl ⟨rCode rfl rfl,rCells rfl ⟨rfl,rfl,.inr rfl⟩ rfl,trivial⟩ ⟨frOne rfl rfl,trivial⟩ trivial rfl rfl (ho1 ⟨_,rfl⟩) (hu1 rfl) rfl rfl ?_
    refine gI ⟨_,_,rfl,rfl,c22⟩ rfl rfl rfl rfl rfl rfl ?_
    refine gPT trivial rfl rfl c22 rfl rfl rfl ?_
    refine rg_nil nofun ?_
    refine cI rfl (fun c26=>?_) (fun c26=>?_)
    ·skip
     have p26:=eq_of_beq c26
     refine vc_region hm ?_
     refine gM trivial (.inl rfl) rfl rfl rfl ?_
     refine gM trivial (.inl rfl) rfl rfl rfl ?_
     refine gM trivial (.inl rfl) rfl rfl rfl ?_
     refine gK trivial rfl rfl rfl rfl rfl rfl rRq_nil ?_
     obtain ⟨E7,hE7,x7,x7a,x7b,rfl⟩:=pick_c (k:=k) (t0:=t0) (p:=p3 + 1) hl hn (by omega) (by omega) (m:=(out.length:Int)) (by omega) (by omega)
     refine gCF (ups':=[(1,one ⟨[.slice (some ⟨0,k,none⟩) n 0,.int .i64 (p3 + 1 + 1)],83,2⟩)]) (as':=[]) (v':=.int .i64 x7) 15 [0,1] hE7 trivial rfl rfl rfl rfl ⟨rCode rfl rfl,rCells rfl ⟨rfl,rfl,.inr rfl⟩ rfl,trivial⟩ ⟨frOne rfl rfl,trivial⟩ trivial rfl rfl (ho1 ⟨_,rfl⟩) (hu1 rfl) rfl rfl ?_
     refine gX trivial rfl rfl rfl rfl rfl rfl rfl rfl (by omega) (by omega) rRq_ne ?_
     refine gL trivial rfl rfl rfl rfl rfl rfl rfl (aRq (by omega) (by omega)) ?_
     refine gT trivial rfl rfl rfl rfl rfl rfl rfl rfl rfl rfl (Nat.le_of_ble_eq_true rfl) rfl ?_
     refine rg_nil nofun ?_
     exact jn_hereT ⟨(at_ out x7),p3 + 1 + 1,(ho _ (at_mem (by omega) (by omega))),(by omega),(by omega),rfl⟩ (re_nil (ms:=[0,1,2,3,4,5,6,7,8,9,10,11,12,13,14]) (C:=999) rfl ⟨⟨⟨rfl,rfl⟩,rfl⟩,⟨⟨rfl,rfl⟩,rfl⟩,⟨⟨rfl,rfl⟩,rfl⟩,⟨⟨rfl,rfl⟩,rfl⟩,⟨⟨rfl,rfl⟩,rfl⟩,trivial⟩ ⟨ktCode rfl rfl,ktRow rfl rfl rfl (BlkW.refl _) id rfl,ktRow rfl rfl rfl ⟨.inl rfl,fun _=>rfl,.inr (.inl rfl),fun q=>(by cases q)⟩ id rfl,ktFlat (rRq_flat _) rfl (.inr (.inl rfl)) id rfl,ktFlat (hls_flat (rS_flat _)) rfl (.inl rfl) (fun h=>nomatch h) rfl,ktFlat (rS_flat _) rfl (.inl rfl) (fun h=>nomatch h) rfl,ktFlat (rI_flat _) rfl (.inl rfl) (fun h=>nomatch h) rfl,ktFlat (rI_flat _) rfl (.inl rfl) (fun h=>nomatch h) rfl,ktFlat (rI_flat _) rfl (.inl rfl) (fun h=>nomatch h) rfl,ktRow rfl rfl rfl (BlkW.refl _) id rfl,trivial⟩ rfl rfl (rig_of rfl) rfl)
    ·skip
     have p26:=ne_of_beq_false c26
     refine vc_skip ?_
     exact jn_hereT ⟨rq3,p3 + 1,d3,(by omega),(by omega),rfl⟩ (re_nil (ms:=[0,1,2,3,4,5,6,7,8,9,10,11,12,13,14]) (C:=999) rfl ⟨⟨⟨rfl,rfl⟩,rfl⟩,⟨⟨rfl,rfl⟩,rfl⟩,⟨⟨rfl,rfl⟩,rfl⟩,⟨⟨rfl,rfl⟩,rfl⟩,⟨⟨rfl,rfl⟩,rfl⟩,trivial⟩ ⟨ktCode rfl rfl,ktRow rfl rfl rfl (BlkW.refl _) id rfl,ktRow rfl rfl rfl ⟨.inl rfl,fun _=>rfl,.inr (.inl rfl),fun q=>(by cases q)⟩ id rfl,ktFlat (rRq_flat _) rfl (.inr (.inl rfl)) id rfl,ktFlat (hls_flat (rS_flat _)) rfl (.inl rfl) (fun h=>nomatch h) rfl,ktFlat (rS_flat _) rfl (.inl rfl) (fun h=>nomatch h) rfl,ktFlat (rI_flat _) rfl (.inl rfl) (fun h=>nomatch h) rfl,ktFlat (rI_flat _) rfl (.inl rfl) (fun h=>nomatch h) rfl,ktFlat (rI_flat _) rfl (.inl rfl) (fun h=>nomatch h) rfl,ktRow rfl rfl rfl (BlkW.refl _) id rfl,trivial⟩ rfl rfl (rig_of rfl) rfl)
   ·skip
    have p22:=of_decide_eq_false c22
    refine gO ⟨_,_,rfl,rfl,c22⟩ rfl rfl ?_
    refine gO ⟨_,_,rfl,rfl,c22⟩ rfl rfl ?_
    refine gO ⟨_,_,rfl,rfl,c22⟩ rfl rfl ?_
    refine gPF trivial rfl rfl c22 rfl rfl rfl ?_
    refine rg_nil nofun ?_
    refine cF rfl rfl ?_
    refine vc_skip ?_
    exact jn_hereT ⟨rq3,p3,d3,(by omega),(by omega),rfl⟩ (re_nil (ms:=[0,1,2,3,4,5,6,7,8,9,10,11,12,13,14]) (C:=999) rfl ⟨⟨⟨rfl,rfl⟩,rfl⟩,⟨⟨rfl,rfl⟩,rfl⟩,⟨⟨rfl,rfl⟩,rfl⟩,⟨⟨rfl,rfl⟩,rfl⟩,⟨⟨rfl,rfl⟩,rfl⟩,trivial⟩ ⟨ktCode rfl rfl,ktRow rfl rfl rfl (BlkW.refl _) id rfl,ktRow rfl rfl rfl ⟨.inl rfl,fun _=>rfl,.inr (.inl rfl),fun q=>(by cases q)⟩ id rfl,ktFlat (rRq_flat _) rfl (.inr (.inl rfl)) id rfl,ktFlat (hls_flat (rS_flat _)) rfl (.inl rfl) (fun h=>nomatch h) rfl,ktFlat (rS_flat _) rfl (.inl rfl) (fun h=>nomatch h) rfl,ktFlat (rI_flat _) rfl (.inl rfl) (fun h=>nomatch h) rfl,ktFlat (rI_flat _) rfl (.inl rfl) (fun h=>nomatch h) rfl,ktFlat (rI_flat _) rfl (.inl rfl) (fun h=>nomatch h) rfl,ktRow rfl rfl rfl (BlkW.refl _) id rfl,trivial⟩ rfl rfl (rig_of rfl) rfl)
  ·rintro S_ ⟨rq,q2,hrq,r1,r2,rfl⟩
   refine vc_seq ?_
   refine vc_region hm ?_
   refine gM trivial (.inl rfl) rfl rfl rfl ?_
   refine gL trivial rfl rfl rfl rfl rfl rfl rfl rfl ?_
   refine gR (u':=16) (out:=rRq [rq]) trivial rfl rfl rfl rfl rfl rfl rfl rfl rfl rfl rfl rfl rfl rfl ?_
   refine gAp (u':=17) trivial rfl rfl rfl rfl rfl rfl rfl rfl rfl rfl rfl rfl (by rw [rowL_len (n:=6) (fun _=>rfl)]) (Nat.le_refl _) rfl (show (out.length + 1) * (56 + 1)≤140737488355328 by omega) rRq_snoc rfl ?_
   refine gM trivial (.inr rfl) rfl rfl rfl ?_
   refine rg_nil nofun ?_
   refine vc_seq ?_
   refine vc_region hm ?_
   refine gL trivial rfl rfl rfl rfl rfl rfl rfl rfl ?_
   refine gC0 [9,10,11,12,13] (spec_StoreOk_c (s:=s2) (kk:=k2) (cc:=c2) hb2.z) trivial rfl rfl rfl rfl ⟨rFlat (hls_flat (rS_flat s2.now)) rfl (.inl rfl) rfl,rFlat (rS_flat s2.sure) rfl (.inl rfl) rfl,rFlat (rI_flat s2.last) rfl (.inl rfl) rfl,rFlat (rI_flat s2.slast) rfl (.inl rfl) rfl,rFlat (rI_flat s2.fl) rfl (.inl rfl) rfl,trivial⟩ rfl rfl rfl rfl rfl ?_
   refine rg_nil nofun ?_
   refine cI rfl (fun c39=>?_) (fun c39=>?_)
   ·skip
    refine vc_region hm ?_
    refine gL trivial rfl rfl rfl rfl rfl rfl rfl rfl ?_
    refine gL trivial rfl rfl rfl rfl rfl rfl rfl rfl ?_
    obtain ⟨E9,hE9,x9,c9,d9,rfl⟩:=spec_StoreDo_c (s:=s2) (q:=rq) (kk:=k2) (cc:=c2) c39 (by omega)
    refine gCF (ups':=[]) (as':=[(17,one ⟨rS x9.now,9,1⟩),(18,one ⟨rS x9.sure,9,1⟩),(19,one ⟨rI x9.last,3,1⟩),(20,one ⟨rI x9.slast,3,1⟩),(21,one ⟨rI x9.fl,3,1⟩)]) (v':=.tuple #[.agg #[.slice (some ⟨17,0,none⟩) x9.now.length 0,.slice (some ⟨18,0,none⟩) x9.sure.length 0,.slice (some ⟨19,0,none⟩) x9.last.length 0,.slice (some ⟨20,0,none⟩) x9.slast.length 0,.slice (some ⟨21,0,none⟩) x9.fl.length 0],.int .i64 c9]) 22 [9,10,11,12,13,17,18,19,20,21] hE9 trivial rfl rfl rfl rfl ⟨rFlat (hls_flat (rS_flat s2.now)) rfl (.inl rfl) rfl,rFlat (rS_flat s2.sure) rfl (.inl rfl) rfl,rFlat (rI_flat s2.last) rfl (.inl rfl) rfl,rFlat (rI_flat s2.slast) rfl (.inl rfl) rfl,rFlat (rI_flat s2.fl) rfl (.inl rfl) rfl,trivial⟩ trivial ⟨frF (rS_flat x9.now) rfl,frF (rS_flat x9.sure) rfl,frF (rI_flat x9.last) rfl,frF (rI_flat x9.slast) rfl,frF (rI_flat x9.fl) rfl,trivial⟩ rfl rfl (fun x hx=>nomatch hx) (fun x hx=>nomatch hx) rfl rfl ?_
    refine gM trivial (.inl rfl) rfl rfl rfl ?_
    refine gE trivial rfl rfl rfl rfl rfl rfl ?_
    refine gE trivial rfl rfl rfl rfl rfl rfl ?_
    refine gT trivial rfl rfl rfl rfl rfl rfl rfl rfl rfl rfl (Nat.le_of_ble_eq_true rfl) rfl ?_
    refine rg_nil nofun ?_
    refine vc_region hm ?_
    refine gM trivial (.inl rfl) rfl rfl rfl ?_
    refine gA trivial rfl rfl rfl rfl rfl rfl (by omega) ?_
    refine gM trivial (.inr rfl) rfl rfl rfl ?_
    refine rg_nil nofun ?_
    exact lp_nextT ⟨x9,0,0,(out ++ [rq]),i - 1,q2,(dr_ok (do_k d9 c39)),(rq_snoc ho hrq),(by omega),(by rw [List.length_append];show ((out.length + 1:Nat):Int) + (i - 1)≤8;omega),(by omega),(by omega),rfl,rfl⟩ (by omega) (re_nil (ms:=[0,1,2,3,4,5,6,7,16,17,18,19,20,21]) (C:=999) rfl ⟨⟨⟨rfl,rfl⟩,rfl⟩,⟨⟨rfl,rfl⟩,rfl⟩,⟨⟨rfl,by rw [List.length_append];rfl⟩,rfl⟩,⟨⟨rfl,rfl⟩,rfl⟩,trivial⟩ ⟨ktCode rfl rfl,ktRow rfl rfl rfl (BlkW.refl _) id rfl,ktRow rfl rfl rfl ⟨.inl rfl,fun _=>rfl,.inr (.inl rfl),fun q=>(by cases q)⟩ id rfl,ktFlat (rRq_flat _) rfl (.inr (.inl rfl)) id rfl,ktFlat (hls_flat (rS_flat _)) rfl (.inl rfl) (fun h=>nomatch h) rfl,ktFlat (rS_flat _) rfl (.inl rfl) (fun h=>nomatch h) rfl,ktFlat (rI_flat _) rfl (.inl rfl) (fun h=>nomatch h) rfl,ktFlat (rI_flat _) rfl (.inl rfl) (fun h=>nomatch h) rfl,ktFlat (rI_flat _) rfl (.inl rfl) (fun h=>nomatch h) rfl,trivial⟩ rfl rfl (rig_of rfl) rfl)
   ·skip
    refine vc_skip ?_
    refine vc_region hm ?_
    refine gM trivial (.inl rfl) rfl rfl rfl ?_
    refine gA trivial rfl rfl rfl rfl rfl rfl (by omega) ?_
    refine gM trivial (.inr rfl) rfl rfl rfl ?_
    refine rg_nil nofun ?_
    exact lp_nextT ⟨s2,k2,c2,(out ++ [rq]),i - 1,q2,hb2,(rq_snoc ho hrq),(by omega),(by rw [List.length_append];show ((out.length + 1:Nat):Int) + (i - 1)≤8;omega),(by omega),(by omega),rfl,rfl⟩ (by omega) (re_nil (ms:=[0,1,2,3,4,5,6,7,16,9,10,11,12,13]) (C:=999) rfl ⟨⟨⟨rfl,rfl⟩,rfl⟩,⟨⟨rfl,rfl⟩,rfl⟩,⟨⟨rfl,by rw [List.length_append];rfl⟩,rfl⟩,⟨⟨rfl,rfl⟩,rfl⟩,trivial⟩ ⟨ktCode rfl rfl,ktRow rfl rfl rfl (BlkW.refl _) id rfl,ktRow rfl rfl rfl ⟨.inl rfl,fun _=>rfl,.inr (.inl rfl),fun q=>(by cases q)⟩ id rfl,ktFlat (rRq_flat _) rfl (.inr (.inl rfl)) id rfl,ktFlat (hls_flat (rS_flat _)) rfl (.inl rfl) (fun h=>nomatch h) rfl,ktFlat (rS_flat _) rfl (.inl rfl) (fun h=>nomatch h) rfl,ktFlat (rI_flat _) rfl (.inl rfl) (fun h=>nomatch h) rfl,ktFlat (rI_flat _) rfl (.inl rfl) (fun h=>nomatch h) rfl,ktFlat (rI_flat _) rfl (.inl rfl) (fun h=>nomatch h) rfl,trivial⟩ rfl rfl (rig_of rfl) rfl)
 ·skip
  have p13:=of_decide_eq_false c13
  refine vc_exit ?_
  refine vc_seq ?_
  refine vc_region hm ?_
  refine gM trivial (.inl rfl) rfl rfl rfl ?_
  refine gM trivial (.inr rfl) rfl rfl rfl ?_
  refine rg_nil nofun ?_
  refine vc_ret ?_
  exact ⟨mkF (.slice (some ⟨7,0,none⟩) out.length 0) [0,2,3,4,5,6] [(1,one ⟨[.slice (some ⟨0,k,none⟩) n 0,.int .i64 (q)],83,2⟩)] [(7,one ⟨rRq out,52,6⟩)],_,endsT [(7,8,one ⟨rRq out,52,6⟩)] (.inr rfl) (.tmp rfl rfl .nil) rfl rfl ⟨upOne rfl rfl rfl,trivial⟩ ⟨asFlat rfl (rRq_flat _),trivial⟩ rfl,out,_,(by omega),ho,(by omega),(by omega),rfl⟩
theorem drawAll_c {l:List Int} {k:Nat} (hl:ByL l):∃ E,FDoes Try.prog 15 [.slice (some ⟨0,k,none⟩) l.length 0] (hp [(0,false,one ⟨hls k (rY l),capT + l.length,0⟩)]) E∧∃ (s:Stv) (kk cc:Nat) (L:List Rq),DrB s∧L.length≤8∧(∀ x ∈ L,x.d.size≤16)∧E=mkF (.tuple #[.agg #[.slice (some ⟨1,kk,none⟩) s.now.length cc,.slice (some ⟨2,0,none⟩) s.sure.length 0,.slice (some ⟨3,0,none⟩) s.last.length 0,.slice (some ⟨4,0,none⟩) s.slast.length 0,.slice (some ⟨5,0,none⟩) s.fl.length 0],.slice (some ⟨6,0,none⟩) L.length 0]) [0] [] [(1,one ⟨hls kk (rS s.now),9,0⟩),(2,one ⟨rS s.sure,9,77⟩),(3,one ⟨rI s.last,3,77⟩),(4,one ⟨rI s.slast,3,77⟩),(5,one ⟨rI s.fl,3,77⟩),(6,one ⟨rRq L,52,6⟩)]:=by
 have hm:Try.prog.follows .mixedOrders=true:=by kernel_rfl
 have hd_:∀ x_ ∈ ([(0,false,one ⟨hls k (rY l),capT + l.length,0⟩)]:List (Nat × Bool × Fam)),∀ k_ y_,x_.2.2 k_=some y_→DetB (lt 1) y_:=by
  intro x_ hx k_ y_ e
  simp only [List.mem_cons,List.not_mem_nil,or_false] at hx
  subst hx
  exact det_code e
 refine fn_some (u0:=1) Try.func15 rfl rfl (gets rfl rfl rfl hd_ rfl) ?_
 clear hd_
 refine vc_seq ?_
 refine vc_region hm ?_
 refine gZ (u':=2) trivial rfl rfl rfl rfl rfl rfl rfl rfl ?_
 refine gM trivial (.inr rfl) rfl rfl rfl ?_
 refine rg_nil nofun ?_
 refine vc_seq ?_
 refine vc_region hm ?_
 refine gM trivial (.inl rfl) rfl rfl rfl ?_
 obtain ⟨En1,hEn1,n,hn,rfl⟩:=open_c (l:=l) (k:=k) hl
 have hp0:(0:Int)≤0:=Int.le_refl _
 refine gCF (ups':=[]) (as':=[(2,one ⟨[.slice (some ⟨0,k,none⟩) n 0,.int .i64 (0)],83,2⟩)]) (v':=.pointer (some ⟨2,0,none⟩)) 3 [0,2] hEn1 trivial rfl rfl rfl rfl ⟨rCode rfl rfl,trivial⟩ trivial ⟨frOne rfl rfl,trivial⟩ rfl rfl (fun x hx=>nomatch hx) (fun x hx=>nomatch hx) rfl rfl ?_
 refine gM trivial (.inr rfl) rfl rfl rfl ?_
 refine rg_nil nofun ?_
 refine vc_seq ?_
 refine vc_region hm ?_
 refine gM trivial (.inl rfl) rfl rfl rfl ?_
 refine gM trivial (.inl rfl) rfl rfl rfl ?_
 obtain ⟨E2,hE2,s2,p2,k2,q2a,q2b,rfl⟩:=some5_c (k:=k) (t0:=capT + l.length) (p:=0) hl hn (by omega) (by omega) 
 refine gCF (ups':=[(2,one ⟨[.slice (some ⟨0,k,none⟩) n 0,.int .i64 (p2)],83,2⟩)]) (as':=[(3,one ⟨rS s2.now,9,77⟩),(4,one ⟨rS s2.sure,9,77⟩),(5,one ⟨rI s2.last,3,77⟩),(6,one ⟨rI s2.slast,3,77⟩),(7,one ⟨rI s2.fl,3,77⟩)]) (v':=.agg #[.slice (some ⟨3,0,none⟩) s2.now.length 0,.slice (some ⟨4,0,none⟩) s2.sure.length 0,.slice (some ⟨5,0,none⟩) s2.last.length 0,.slice (some ⟨6,0,none⟩) s2.slast.length 0,.slice (some ⟨7,0,none⟩) s2.fl.length 0]) 8 [0,2,3,4,5,6,7] hE2 trivial rfl rfl rfl rfl ⟨rCode rfl rfl,rCells rfl ⟨rfl,rfl,.inr rfl⟩ rfl,trivial⟩ ⟨frOne rfl rfl,trivial⟩ ⟨frF (rS_flat s2.now) rfl,frF (rS_flat s2.sure) rfl,frF (rI_flat s2.last) rfl,frF (rI_flat s2.slast) rfl,frF (rI_flat s2.fl) rfl,trivial⟩ rfl rfl (ho1 ⟨_,rfl⟩) (hu1 rfl) rfl rfl ?_
 obtain ⟨E3,hE3,s3,kk3,cc3,p3,b3,q3a,q3b,rfl⟩:=bent5_c (k:=k) (t0:=capT + l.length) (p:=p2) hl hn (by omega) (by omega) (s:=s2) (kk:=0) (cc:=0) (dr_ok k2)
 refine gCF (ups':=[(2,one ⟨[.slice (some ⟨0,k,none⟩) n 0,.int .i64 (p3)],83,2⟩)]) (as':=[(8,one ⟨hls kk3 (rS s3.now),9,0⟩),(9,one ⟨rS s3.sure,9,77⟩),(10,one ⟨rI s3.last,3,77⟩),(11,one ⟨rI s3.slast,3,77⟩),(12,one ⟨rI s3.fl,3,77⟩)]) (v':=.agg #[.slice (some ⟨8,kk3,none⟩) s3.now.length cc3,.slice (some ⟨9,0,none⟩) s3.sure.length 0,.slice (some ⟨10,0,none⟩) s3.last.length 0,.slice (some ⟨11,0,none⟩) s3.slast.length 0,.slice (some ⟨12,0,none⟩) s3.fl.length 0]) 13 [0,2,3,4,5,6,7,8,9,10,11,12] hE3 trivial rfl rfl rfl rfl ⟨rCode rfl rfl,rCells rfl ⟨rfl,rfl,.inr rfl⟩ rfl,rFlat (hls_flat (rS_flat s2.now)) rfl (.inl rfl) rfl,rFlat (rS_flat s2.sure) rfl (.inl rfl) rfl,rFlat (rI_flat s2.last) rfl (.inl rfl) rfl,rFlat (rI_flat s2.slast) rfl (.inl rfl) rfl,rFlat (rI_flat s2.fl) rfl (.inl rfl) rfl,trivial⟩ ⟨frOne rfl rfl,trivial⟩ ⟨frF (hls_flat (rS_flat s3.now)) rfl,frF (rS_flat s3.sure) rfl,frF (rI_flat s3.last) rfl,frF (rI_flat s3.slast) rfl,frF (rI_flat s3.fl) rfl,trivial⟩ rfl rfl (ho1 ⟨_,rfl⟩) (hu1 rfl) rfl rfl ?_
 refine gZ (u':=14) trivial rfl rfl rfl rfl rfl rfl rfl rfl ?_
 refine gT trivial rfl rfl rfl rfl rfl rfl rfl rfl rfl rfl (Nat.le_of_ble_eq_true rfl) rfl ?_
 refine rg_nil nofun ?_
 refine vc_seq ?_
 refine vc_region hm ?_
 refine gL trivial rfl rfl rfl rfl rfl rfl rfl rfl ?_
 refine gM trivial (.inl rfl) rfl rfl rfl ?_
 refine gL trivial rfl rfl rfl rfl rfl rfl rfl rfl ?_
 obtain ⟨E4,hE4,L4,p4,L4a,L4b,q4a,q4b,rfl⟩:=list5_c (k:=k) (t0:=capT + l.length) (p:=p3) hl hn (by omega) (by omega) (s:=s3) (kk:=kk3) (cc:=cc3) b3
 refine gCF (ups':=[(2,one ⟨[.slice (some ⟨0,k,none⟩) n 0,.int .i64 (p4)],83,2⟩)]) (as':=[(14,one ⟨rRq L4,52,6⟩)]) (v':=.slice (some ⟨14,0,none⟩) L4.length 0) 15 [0,2,8,9,10,11,12,14] hE4 trivial rfl rfl rfl rfl ⟨rCode rfl rfl,rCells rfl ⟨rfl,rfl,.inr rfl⟩ rfl,rFlat (hls_flat (rS_flat s3.now)) rfl (.inl rfl) rfl,rFlat (rS_flat s3.sure) rfl (.inl rfl) rfl,rFlat (rI_flat s3.last) rfl (.inl rfl) rfl,rFlat (rI_flat s3.slast) rfl (.inl rfl) rfl,rFlat (rI_flat s3.fl) rfl (.inl rfl) rfl,trivial⟩ ⟨frOne rfl rfl,trivial⟩ ⟨frF (rRq_flat _) rfl,trivial⟩ rfl rfl (ho1 ⟨_,rfl⟩) (hu1 rfl) rfl rfl ?_
 refine gT trivial rfl rfl rfl rfl rfl rfl rfl rfl rfl rfl (Nat.le_of_ble_eq_true rfl) rfl ?_
 refine gM trivial (.inr rfl) rfl rfl rfl ?_
 refine rg_nil (fun _=>by kernel_rfl) ?_
 refine vc_ret ?_
 exact ⟨mkF (.tuple #[.agg #[.slice (some ⟨1,kk3,none⟩) s3.now.length cc3,.slice (some ⟨2,0,none⟩) s3.sure.length 0,.slice (some ⟨3,0,none⟩) s3.last.length 0,.slice (some ⟨4,0,none⟩) s3.slast.length 0,.slice (some ⟨5,0,none⟩) s3.fl.length 0],.slice (some ⟨6,0,none⟩) L4.length 0]) [0] [] [(1,one ⟨hls kk3 (rS s3.now),9,0⟩),(2,one ⟨rS s3.sure,9,77⟩),(3,one ⟨rI s3.last,3,77⟩),(4,one ⟨rI s3.slast,3,77⟩),(5,one ⟨rI s3.fl,3,77⟩),(6,one ⟨rRq L4,52,6⟩)],_,endsT [(1,8,one ⟨hls kk3 (rS s3.now),9,0⟩),(2,9,one ⟨rS s3.sure,9,77⟩),(3,10,one ⟨rI s3.last,3,77⟩),(4,11,one ⟨rI s3.slast,3,77⟩),(5,12,one ⟨rI s3.fl,3,77⟩),(6,14,one ⟨rRq L4,52,6⟩)] (.inr rfl) (.cell rfl rfl rfl rfl rfl (.tmp rfl rfl .nil)) rfl rfl trivial ⟨asFlat rfl (hls_flat (rS_flat s3.now)),asFlat rfl (rS_flat s3.sure),asFlat rfl (rI_flat s3.last),asFlat rfl (rI_flat s3.slast),asFlat rfl (rI_flat s3.fl),asFlat rfl (rRq_flat _),trivial⟩ rfl,s3,kk3,cc3,L4,b3,L4a,L4b,rfl⟩
theorem eqnnS_c : FDoes Try.prog 55 [.slice none 0 0,.slice none 0 0] (hp []) { v:=.bool true }:=by
 have hm:Try.prog.follows .mixedOrders=true:=by kernel_rfl
 have hd_:∀ x ∈ ([]:List (Nat × Bool × Fam)),∀ k y,x.2.2 k=some y→DetB (lt 0) y:=fun x_ hx=>(by cases hx)
 refine fn_exact (u0:=0) Try.func55 rfl rfl (gets rfl rfl rfl hd_ rfl) ?_
 clear hd_
 refine vc_seq ?_
 refine vc_region hm ?_
 refine gM trivial (.inr rfl) rfl rfl rfl ?_
 refine rg_nil nofun ?_
 refine vc_seq ?_
 refine vc_seq ?_
 refine vc_region hm ?_
 refine gM trivial (.inl rfl) rfl rfl rfl ?_
 refine gKN trivial rfl rfl rfl rfl rfl ?_
 refine gM trivial (.inl rfl) rfl rfl rfl ?_
 refine gKN trivial rfl rfl rfl rfl rfl ?_
 refine gI trivial rfl rfl rfl rfl rfl rfl ?_
 refine rg_nil nofun ?_
 refine cF rfl rfl ?_
 refine vc_skip ?_
 refine vc_seq ?_
 refine vc_seq ?_
 refine vc_region hm ?_
 refine gM trivial (.inl rfl) rfl rfl rfl ?_
 refine gKN trivial rfl rfl rfl rfl rfl ?_
 refine gM trivial (.inl rfl) rfl rfl rfl ?_
 refine rg_nil nofun ?_
 refine vc_block ?_
 refine vc_loop' (fun n_ S_=>∃ (j:Nat),j=0∧n_=0∧S_=⟨0,[(0,.slice none 0 0),(1,.slice none 0 0),(12,.int .i64 (0:Nat)),(13,.int .i64 j)],[]⟩) (m0:=idm) ⟨0,rfl,rfl,rfl⟩ (le_mk rfl ⟨⟨rfl,rfl⟩,⟨rfl,rfl⟩,⟨rfl,rfl⟩,⟨rfl,rfl⟩,trivial⟩ trivial rfl (fun _ _=>rfl)) ?_
 rintro n_ S_ ⟨j,hj,rfl,rfl⟩
 refine vc_seq ?_
 refine vc_region hm ?_
 refine gI trivial rfl rfl rfl rfl rfl rfl ?_
 refine rg_nil nofun ?_
 refine vc_seq ?_
 refine cF rfl (decide_eq_false (by omega)) ?_
 refine vc_exit ?_
 refine vc_seq ?_
 refine vc_region hm ?_
 refine gM trivial (.inr rfl) rfl rfl rfl ?_
 refine rg_nil nofun ?_
 refine vc_ret ?_
 exact ⟨idm,ends0 (.inr rfl) rfl (eqB rfl) rfl rfl rfl⟩
theorem eqnnI_c : FDoes Try.prog 56 [.slice none 0 0,.slice none 0 0] (hp []) { v:=.bool true }:=by
 have hm:Try.prog.follows .mixedOrders=true:=by kernel_rfl
 have hd_:∀ x ∈ ([]:List (Nat × Bool × Fam)),∀ k y,x.2.2 k=some y→DetB (lt 0) y:=fun x_ hx=>(by cases hx)
 refine fn_exact (u0:=0) Try.func56 rfl rfl (gets rfl rfl rfl hd_ rfl) ?_
 clear hd_
 refine vc_seq ?_
 refine vc_region hm ?_
 refine gM trivial (.inr rfl) rfl rfl rfl ?_
 refine rg_nil nofun ?_
 refine vc_seq ?_
 refine vc_seq ?_
 refine vc_region hm ?_
 refine gM trivial (.inl rfl) rfl rfl rfl ?_
 refine gKN trivial rfl rfl rfl rfl rfl ?_
 refine gM trivial (.inl rfl) rfl rfl rfl ?_
 refine gKN trivial rfl rfl rfl rfl rfl ?_
 refine gI trivial rfl rfl rfl rfl rfl rfl ?_
 refine rg_nil nofun ?_
 refine cF rfl rfl ?_
 refine vc_skip ?_
 refine vc_seq ?_
 refine vc_seq ?_
 refine vc_region hm ?_
 refine gM trivial (.inl rfl) rfl rfl rfl ?_
 refine gKN trivial rfl rfl rfl rfl rfl ?_
 refine gM trivial (.inl rfl) rfl rfl rfl ?_
 refine rg_nil nofun ?_
 refine vc_block ?_
 refine vc_loop' (fun n_ S_=>∃ (j:Nat),j=0∧n_=0∧S_=⟨0,[(0,.slice none 0 0),(1,.slice none 0 0),(12,.int .i64 (0:Nat)),(13,.int .i64 j)],[]⟩) (m0:=idm) ⟨0,rfl,rfl,rfl⟩ (le_mk rfl ⟨⟨rfl,rfl⟩,⟨rfl,rfl⟩,⟨rfl,rfl⟩,⟨rfl,rfl⟩,trivial⟩ trivial rfl (fun _ _=>rfl)) ?_
 rintro n_ S_ ⟨j,hj,rfl,rfl⟩
 refine vc_seq ?_
 refine vc_region hm ?_
 refine gI trivial rfl rfl rfl rfl rfl rfl ?_
 refine rg_nil nofun ?_
 refine vc_seq ?_
 refine cF rfl (decide_eq_false (by omega)) ?_
 refine vc_exit ?_
 refine vc_seq ?_
 refine vc_region hm ?_
 refine gM trivial (.inr rfl) rfl rfl rfl ?_
 refine rg_nil nofun ?_
 refine vc_ret ?_
 exact ⟨idm,ends0 (.inr rfl) rfl (eqB rfl) rfl rfl rfl⟩
theorem same_nn : FDoes Try.prog 22 [.agg #[.slice none 0 0,.slice none 0 0,.slice none 0 0,.slice none 0 0,.slice none 0 0],.agg #[.slice none 0 0,.slice none 0 0,.slice none 0 0,.slice none 0 0,.slice none 0 0]] (hp []) { v:=.bool true }:=by
 have hm:Try.prog.follows .mixedOrders=true:=by kernel_rfl
 have hd_:∀ x ∈ ([]:List (Nat × Bool × Fam)),∀ k y,x.2.2 k=some y→DetB (lt 0) y:=fun x_ hx=>(by cases hx)
 refine fn_exact (u0:=0) Try.func22 rfl rfl (gets rfl rfl rfl hd_ rfl) ?_
 clear hd_
 refine vc_seq ?_
 refine vc_region hm ?_
 refine gB (u':=1) trivial rfl rfl rfl rfl rfl rfl rfl rfl ?_
 refine gB (u':=2) trivial rfl rfl rfl rfl rfl rfl rfl rfl ?_
 refine gM trivial (.inr rfl) rfl rfl rfl ?_
 refine rg_nil nofun ?_
 refine vc_seq ?_
 refine vc_region hm ?_
 refine gF trivial rfl rfl rfl rfl rfl ?_
 refine gL trivial rfl rfl rfl rfl rfl rfl rfl rfl ?_
 refine gF trivial rfl rfl rfl rfl rfl ?_
 refine gL trivial rfl rfl rfl rfl rfl rfl rfl rfl ?_
 refine gC0 [] (eqnnS_c) trivial rfl rfl rfl rfl (by trivial) rfl rfl rfl rfl rfl ?_
 refine gM trivial (.inl rfl) rfl rfl rfl ?_
 refine gF ⟨_,_,rfl,rfl,rfl⟩ rfl rfl rfl rfl rfl ?_
 refine gL ⟨_,_,rfl,rfl,rfl⟩ rfl rfl rfl rfl rfl rfl rfl rfl ?_
 refine gF ⟨_,_,rfl,rfl,rfl⟩ rfl rfl rfl rfl rfl ?_
 refine gL ⟨_,_,rfl,rfl,rfl⟩ rfl rfl rfl rfl rfl rfl rfl rfl ?_
 refine gC0 [] (eqnnS_c) ⟨_,_,rfl,rfl,rfl⟩ rfl rfl rfl rfl (by trivial) rfl rfl rfl rfl rfl ?_
 refine gPT trivial rfl rfl rfl rfl rfl rfl ?_
 refine gM trivial (.inl rfl) rfl rfl rfl ?_
 refine gF ⟨_,_,rfl,rfl,rfl⟩ rfl rfl rfl rfl rfl ?_
 refine gL ⟨_,_,rfl,rfl,rfl⟩ rfl rfl rfl rfl rfl rfl rfl rfl ?_
 refine gF ⟨_,_,rfl,rfl,rfl⟩ rfl rfl rfl rfl rfl ?_
 refine gL ⟨_,_,rfl,rfl,rfl⟩ rfl rfl rfl rfl rfl rfl rfl rfl ?_
 refine gC0 [] (eqnnI_c) ⟨_,_,rfl,rfl,rfl⟩ rfl rfl rfl rfl (by trivial) rfl rfl rfl rfl rfl ?_
 refine gPT trivial rfl rfl rfl rfl rfl rfl ?_
 refine gM trivial (.inl rfl) rfl rfl rfl ?_
 refine gF ⟨_,_,rfl,rfl,rfl⟩ rfl rfl rfl rfl rfl ?_
 refine gL ⟨_,_,rfl,rfl,rfl⟩ rfl rfl rfl rfl rfl rfl rfl rfl ?_
 refine gF ⟨_,_,rfl,rfl,rfl⟩ rfl rfl rfl rfl rfl ?_
 refine gL ⟨_,_,rfl,rfl,rfl⟩ rfl rfl rfl rfl rfl rfl rfl rfl ?_
 refine gC0 [] (eqnnI_c) ⟨_,_,rfl,rfl,rfl⟩ rfl rfl rfl rfl (by trivial) rfl rfl rfl rfl rfl ?_
 refine gPT trivial rfl rfl rfl rfl rfl rfl ?_
 refine gM trivial (.inl rfl) rfl rfl rfl ?_
 refine gF ⟨_,_,rfl,rfl,rfl⟩ rfl rfl rfl rfl rfl ?_
 refine gL ⟨_,_,rfl,rfl,rfl⟩ rfl rfl rfl rfl rfl rfl rfl rfl ?_
 refine gF ⟨_,_,rfl,rfl,rfl⟩ rfl rfl rfl rfl rfl ?_
 refine gL ⟨_,_,rfl,rfl,rfl⟩ rfl rfl rfl rfl rfl rfl rfl rfl ?_
 refine gC0 [] (eqnnI_c) ⟨_,_,rfl,rfl,rfl⟩ rfl rfl rfl rfl (by trivial) rfl rfl rfl rfl rfl ?_
 refine gPT trivial rfl rfl rfl rfl rfl rfl ?_
 refine gM trivial (.inr rfl) rfl rfl rfl ?_
 refine rg_nil nofun ?_
 refine vc_ret ?_
 exact ⟨idm,ends0 (.inr rfl) rfl (eqB rfl) rfl rfl rfl⟩
end Go.Proofs.Ytmekkapacbdbeaa.A
namespace Go.Proofs.Ytmekkapacbdbeaa.A
open Go Go.RowKit
open Go.Joins Go.ChangeShapes Go.WideShapes Go.Deep
def RawN (w:World) (v:Value) (N:Nam) (k n:Nat) (cs:List Value):Prop :=
 v=(if N.nil=true then zv N.z else .slice (some ⟨N.blk,k,none⟩) n (N.cap - 0))∧(if N.nil=true then hls k cs = [] else ∃ (c:Array Value) (t:TypeId) (z:Nat × Nat),w.heap[N.blk]?=some (.cells c t z)∧∀ (i:Nat) (x:Value),(hls k cs)[i]?=some x→x ≠ hole→c[i]?=some x)
theorem raw_none {w:World}:RawN w (.slice none 0 0) ⟨0,0,true,none⟩ 0 0 []:=⟨rfl,rfl⟩
theorem raw_of' {α:Type} {enc:α→List Value} {m:Nat} (he:∀ x,(enc x).length=m) (hm:0<m) {w:World} {a:Addr} {cap:Nat} {l:List α} (h:∀ i x,(rowL enc l)[i]?=some x→w.cell? (a.add i)=some x):∃ N k,RawN w (.slice (some a) l.length cap) N k l.length (rowL enc l)∧(N.nil=false→N.cap=cap):=by
 rcases l with _|⟨x,xs⟩
 ·exact ⟨⟨0,0,true,some (a,cap)⟩,0,⟨rfl,rfl⟩,fun q=>(by cases q)⟩
 ·have hp0:0<(rowL enc (x :: xs)).length:=by rw [rowL_len he,List.length_cons];exact Nat.mul_pos (Nat.succ_pos _) hm
  have h0:=h 0 _ (List.getElem?_eq_getElem hp0)
  have h1:∃ c t z,w.heap[a.block]?=some (.cells c t z)∧a.spot=none:=by
   have e:a.add 0=a:=by simp [Addr.add]
   unfold World.cell? at h0
   rw [e] at h0
   split at h0
   ·rename_i c t z hh
    refine ⟨c,t,z,hh,?_⟩
    split at h0
    ·cases h0
    ·rename_i hs;simpa using hs
   ·cases h0
  obtain ⟨c,t,z,hh,hs⟩:=h1
  obtain ⟨b,off,sp⟩:=a
  simp only at hs hh
  subst hs
  refine ⟨⟨b,cap,false,none⟩,off,⟨rfl,(if_neg Bool.false_ne_true).mpr ⟨c,t,z,hh,fun i v hv hne=>?_⟩⟩,fun _=>rfl⟩
  unfold hls at hv
  by_cases hi:i<off
  ·rw [List.getElem?_append_left (by simpa using hi)] at hv
   have:=List.mem_of_getElem? hv
   exact absurd (List.eq_of_mem_replicate this) hne
  ·rw [List.getElem?_append_right (by simpa using hi),List.length_replicate] at hv
   have:=h (i - off) v hv
   rw [add_eq,cell_eq hh] at this
   rw [← this]
   congr 1
   omega
def envL (l:List Nam):Env:=fun n=>(l[n % 1000]?).getD ⟨0,0,true,none⟩
theorem raw_atR {w:World} {v:Value} {N:Nam} {k n:Nat} {cs:List Value} {t:TypeId} {l:List Nam} {b:Nat} (h:RawN w v N k n cs) (hf:cs.all flat1=true) (hb:l[b]?=some N) (hb':b<1000) (ht:N.nil=false→t - capT≤N.cap):famAt (envL l) w b (one ⟨hls k cs,t,0⟩):=by
 intro k' x e
 obtain ⟨rfl,rfl⟩:=one_some e
 have e1:envL l (nm b 0)=N:=by unfold envL;rw [nm_mod hb',hb];rfl
 unfold blkAt
 rw [e1]
 have h2:=h.2
 cases hn:N.nil with
 | true=>rw [hn,if_pos rfl] at h2;rw [if_pos rfl];exact ⟨h2,fun q=>absurd rfl q,(by decide:0<100)⟩
 | false =>
  rw [hn,if_neg (by decide)] at h2
  rw [if_neg (by decide),if_pos rfl]
  obtain ⟨c,t',z,h3,h4⟩:=h2
  refine ⟨c,t',z,h3,fun i v hv hne=>?_,ht hn⟩
  rw [r1_flat (List.all_eq_true.1 (hls_flat (k:=k) hf) v (List.mem_of_getElem? hv))]
  exact h4 i v hv hne
theorem raw_r1 {w:World} {v:Value} {N:Nam} {k n:Nat} {cs:List Value} {l:List Nam} {b:Nat} (h:RawN w v N k n cs) (hb:l[b]?=some N) (hb':b<1000):r1 (envL l) (.slice (some ⟨b,k,none⟩) n 0)=v:=by
 show (if (envL l b).nil=true then zv (envL l b).z else .slice (some ⟨(envL l b).blk,k,none⟩) n ((envL l b).cap - 0))=v
 have e1:envL l b=N:=by unfold envL;rw [Nat.mod_eq_of_lt hb',hb];rfl
 rw [e1,h.1]
def AtL (ρ:Env) (w:World):List (Nat × Bool × Fam)→Prop
 | []=>True
 | x :: l=>famAt ρ w x.1 x.2.2∧AtL ρ w l
theorem atL_mem {ρ:Env} {w:World}:∀ {l:List (Nat × Bool × Fam)},AtL ρ w l→∀ b o F,l.lookup b=some (o,F)→famAt ρ w b F
 | x :: l,h,b,o,F,e=>by
  obtain ⟨c,y⟩:=x
  rw [List.lookup_cons] at e
  by_cases hb:b=c
  ·subst hb
   simp at e
   subst e
   exact h.1
  ·have:(b == c)=false:=by simpa using hb
   rw [this] at e
   exact atL_mem h.2 b o F e
theorem law_done {P:Program} {f:FuncId} {args:List Value} {hl:List (Nat × Bool × Fam)} {rd:List Nat} {ρ:Env} {w:World} {vs:Array Value} (h:FDoes P f args (hp hl) { v:=.bool true,rd:=rd }) (ha:(args.map (r3 ρ)).toArray=vs) (hr:AtL ρ w hl) :
  Calls P f vs w fun e w'=>e = .returned (.bool true)∧Below w.heap.size w w':=by
 subst ha
 refine (h.run ρ w ⟨fun b _ o F e=>atL_mem hr b o F e,fun b hb=>(by cases hb)⟩).mono fun e w' ⟨ρ',hB,he⟩=>⟨he,?_⟩
 have hf:=hB.frm
 exact Frm.below ⟨hf.os,hf.tape,hf.output,hf.size,fun k hk hn=>hf.block k hk fun ⟨b,hb,_⟩=>(by cases hb)⟩
section
variable {H:Type} {enc:TypeId × Value→H} {P:Program} {w:World} {base:Nat} {spare:Nat→Bool} {held:Bool}
end
section
variable {H:Type} {enc:TypeId × Value→H} {w:World} {base:Nat} {spare:Nat→Bool} {held:Bool}
end
theorem u8_in {n:Int} (h:(Lit.int .u8 n).wf=true):0≤n∧n≤255:=by
 have e1:IntKind.u8.min=0:=by decide
 have e2:IntKind.u8.max=255:=by decide
 simp only [Lit.wf,e1,e2,Bool.and_eq_true,decide_eq_true_eq] at h
 exact h
def CodeArg (w:World) (v:Value) (l:List Int) (N:Nam) (k:Nat):Prop:=RawN w v N k l.length (rY l)∧(N.nil=false→l.length≤N.cap)∧ByL l∧l.length≤9223372036854775807
theorem code_at {w:World} {v:Value} {l:List Int} {N:Nam} {k:Nat} {ns:List Nam} {b:Nat} (h:CodeArg w v l N k) (hb:ns[b]?=some N) (hb':b<1000):famAt (envL ns) w b (one ⟨hls k (rY l),capT + l.length,0⟩) :=
 raw_atR h.1 (rY_flat l) hb hb' fun hn=>by rw [Nat.add_sub_cancel_left];exact h.2.1 hn
theorem code_r3 {w:World} {v:Value} {l:List Int} {N:Nam} {k:Nat} {ns:List Nam} {b:Nat} (h:CodeArg w v l N k) (hb:ns[b]?=some N) (hb':b<1000):r3 (envL ns) (.slice (some ⟨b,k,none⟩) l.length 0)=v:=raw_r1 h.1 hb hb'
theorem open_bytesA {H:Type} {enc:TypeId × Value→H} {w:World} {base:Nat} {spare:Nat→Bool} {held:Bool} {r:Reach} {b0:Nat} {v:Value} {d:DataW H} {p:List MemPlace} (hv:Value.okWide Try.prog w r b0 22 v) (h:DataW.Trod enc Try.prog w base spare held 22 v d p):∃ l N k,CodeArg w v l N k:=by
 obtain ⟨a1,len,cap,rfl⟩:=okWide_slice Try.underlying22 hv
 obtain ⟨fuel,hf⟩:=h
 rcases open_ints Try.underlying22 Try.underlying5 (by kernel_rfl) hf with ⟨h1,_⟩|⟨a,len',cap',zs,h1,_,hl,hm,hz,_,hcell,hw⟩
 ·simp only [Value.cells,List.cons.injEq,_root_.and_true,Value.slice.injEq] at h1
  obtain ⟨rfl,rfl,rfl⟩:=h1
  exact ⟨[],_,_,raw_none,fun q=>(by cases q),(fun _ hx=>(nomatch hx)),by decide⟩
 ·simp only [Value.cells,List.cons.injEq,_root_.and_true,Value.slice.injEq] at h1
  obtain ⟨rfl,rfl,rfl⟩:=h1
  unfold maxLen at hm
  have hlz:len≤zs.length:=by rw [hz];split <;> omega
  have hn:(zs.take len).length=len:=by rw [List.length_take,Nat.min_eq_left hlz]
  have key:∀ i x,(rY (zs.take len))[i]?=some x→w.cell? (a.add i)=some x:=fun i x hx=>by
   have hi:=(List.getElem?_eq_some_iff.1 hx).1
   rw [rowL_len (n:=1) (fun _=>rfl),hn,Nat.mul_one] at hi
   have e1:x = .int .u8 (zs.getD i 0):=by
    have hg:=rowL_get (enc:=eY) (n:=1) (fun _=>rfl) (zs.take len) i 0 (by rw [hn];exact hi) (by decide)
    rw [Nat.mul_one,Nat.add_zero,hx,List.getElem_take] at hg
    rw [List.getD_eq_getElem?_getD,List.getElem?_eq_getElem (by omega)]
    exact Option.some.inj hg
   rw [e1]
   exact hcell i (by omega)
  obtain ⟨N,k,hr,hc⟩:=raw_of' (enc:=eY) (m:=1) (fun _=>rfl) (by decide) (cap:=cap) key
  refine ⟨zs.take len,N,k,by rw [hn] at hr ⊢;exact hr,fun q=>by rw [hc q,hn];omega,fun x hx=>u8_in (hw x (List.mem_of_mem_take hx)),by rw [hn];omega⟩
end Go.Proofs.Ytmekkapacbdbeaa.A
namespace Go.Proofs.Ytmekkapacbdbeaa.A
open Go Go.RowKit
set_option maxHeartbeats 4000000
theorem FnStoreBent_c {l:List Int} {k:Nat} (hl:ByL l) (hl9:l.length≤9223372036854775807):FDoes Try.prog 4 [.slice (some ⟨0,k,none⟩) l.length 0] (hp [(0,false,one ⟨hls k (rY l),capT + l.length,0⟩)]) { v:=.bool true,rd:=[0] }:=by
 have hm:Try.prog.follows .mixedOrders=true:=by kernel_rfl
 have hd_:∀ x_ ∈ ([(0,false,one ⟨hls k (rY l),capT + l.length,0⟩)]:List (Nat × Bool × Fam)),∀ k_ y_,x_.2.2 k_=some y_→DetB (lt 1) y_:=by
  intro x_ hx k_ y_ e
  simp only [List.mem_cons,List.not_mem_nil,or_false] at hx
  subst hx
  exact det_code e
 refine fn_exact (u0:=1) Try.func4 rfl rfl (gets rfl rfl rfl hd_ rfl) ?_
 clear hd_
 refine vc_seq ?_
 refine vc_region hm ?_
 refine gM trivial (.inr rfl) rfl rfl rfl ?_
 refine rg_nil nofun ?_
 refine vc_seq ?_
 refine vc_seq ?_
 refine vc_region hm ?_
 refine gM trivial (.inl rfl) rfl rfl rfl ?_
 refine gK trivial rfl rfl rfl rfl rfl rfl (hls_nil fun e=>rY_nil e) ?_
 refine gI trivial rfl rfl rfl rfl rfl rfl ?_
 refine rg_nil nofun ?_
 refine cI rfl (fun c15=>?_) (fun c15=>?_)
 ·skip
  have p15:=of_decide_eq_true c15
  refine vc_seq ?_
  refine vc_region hm ?_
  refine gM trivial (.inr rfl) rfl rfl rfl ?_
  refine rg_nil nofun ?_
  refine vc_ret ?_
  exact ⟨idm,ends0 (.inr rfl) rfl (eqB rfl) rfl rfl rfl⟩
 ·skip
  have p15:=of_decide_eq_false c15
  refine vc_skip ?_
  refine vc_seq ?_
  refine vc_region hm ?_
  refine gM trivial (.inl rfl) rfl rfl rfl ?_
  obtain ⟨E2,hE2,s,kk,cc,L,hb,hL,hq,rfl⟩:=drawAll_c (l:=l) (k:=k) hl
  have hn:L.length≤1048576:=by omega
  have hQ:∀ q ∈ L,q.d.size≤1048576:=fun q hh=>Nat.le_trans (hq q hh) (by decide)
  have z0:=hb.z.a0
  have z1:=hb.z.a1
  have z2:=hb.z.a2
  have z3:=hb.z.a3
  have z4:=hb.z.a4
  refine gCF (ups':=[]) (as':=[(1,one ⟨hls kk (rS s.now),9,0⟩),(2,one ⟨rS s.sure,9,77⟩),(3,one ⟨rI s.last,3,77⟩),(4,one ⟨rI s.slast,3,77⟩),(5,one ⟨rI s.fl,3,77⟩),(6,one ⟨rRq L,52,6⟩)]) (v':=.tuple #[.agg #[.slice (some ⟨1,kk,none⟩) s.now.length cc,.slice (some ⟨2,0,none⟩) s.sure.length 0,.slice (some ⟨3,0,none⟩) s.last.length 0,.slice (some ⟨4,0,none⟩) s.slast.length 0,.slice (some ⟨5,0,none⟩) s.fl.length 0],.slice (some ⟨6,0,none⟩) L.length 0]) 7 [0,1,2,3,4,5,6] hE2 trivial rfl rfl rfl rfl ⟨rCode rfl rfl,trivial⟩ trivial ⟨frF (hls_flat (rS_flat s.now)) rfl,frF (rS_flat s.sure) rfl,frF (rI_flat s.last) rfl,frF (rI_flat s.slast) rfl,frF (rI_flat s.fl) rfl,frF (rRq_flat _) rfl,trivial⟩ rfl rfl (fun x hx=>nomatch hx) (fun x hx=>nomatch hx) rfl rfl ?_
  refine gM trivial (.inl rfl) rfl rfl rfl ?_
  refine gE trivial rfl rfl rfl rfl rfl rfl ?_
  refine gE trivial rfl rfl rfl rfl rfl rfl ?_
  refine gZ (u':=8) trivial rfl rfl rfl rfl rfl rfl rfl rfl ?_
  refine gT trivial rfl rfl rfl rfl rfl rfl rfl rfl rfl rfl (Nat.le_of_ble_eq_true rfl) rfl ?_
  refine gM trivial (.inr rfl) rfl rfl rfl ?_
  refine rg_nil nofun ?_
  refine vc_seq ?_
  refine vc_region hm ?_
  refine gL trivial rfl rfl rfl rfl rfl rfl rfl rfl ?_
  refine gC0 [1,2,3,4,5] (impl_StoreOk_c (s:=s) (kk:=kk) (cc:=cc) hb.z) trivial rfl rfl rfl rfl ⟨rFlat (hls_flat (rS_flat s.now)) rfl (.inl rfl) rfl,rFlat (rS_flat s.sure) rfl (.inl rfl) rfl,rFlat (rI_flat s.last) rfl (.inl rfl) rfl,rFlat (rI_flat s.slast) rfl (.inl rfl) rfl,rFlat (rI_flat s.fl) rfl (.inl rfl) rfl,trivial⟩ rfl rfl rfl rfl rfl ?_
  refine gM trivial (.inr rfl) rfl rfl rfl ?_
  refine rg_nil nofun ?_
  refine vc_seq ?_
  refine vc_seq ?_
  refine vc_region hm ?_
  refine gM trivial (.inl rfl) rfl rfl rfl ?_
  refine gL trivial rfl rfl rfl rfl rfl rfl rfl rfl ?_
  refine gC0 [1,2,3,4,5] (spec_StoreOk_c (s:=s) (kk:=kk) (cc:=cc) hb.z) trivial rfl rfl rfl rfl ⟨rFlat (hls_flat (rS_flat s.now)) rfl (.inl rfl) rfl,rFlat (rS_flat s.sure) rfl (.inl rfl) rfl,rFlat (rI_flat s.last) rfl (.inl rfl) rfl,rFlat (rI_flat s.slast) rfl (.inl rfl) rfl,rFlat (rI_flat s.fl) rfl (.inl rfl) rfl,trivial⟩ rfl rfl rfl rfl rfl ?_
  refine gBN trivial rfl rfl rfl rfl rfl rfl ?_
  refine gM trivial (.inl rfl) rfl rfl rfl ?_
  refine gM ⟨_,_,rfl,rfl,(nself _)⟩ (.inl rfl) rfl rfl rfl ?_
  refine gPF trivial rfl rfl (nself _) rfl rfl rfl ?_
  refine rg_nil nofun ?_
  refine cI rfl (fun c29=>?_) (fun c29=>?_)
  ·skip
   refine vc_seq ?_
   refine vc_region hm ?_
   refine gM trivial (.inl rfl) rfl rfl rfl ?_
   refine gL trivial rfl rfl rfl rfl rfl rfl rfl rfl ?_
   refine gC0 [1,2,3,4,5] (spec_StoreOk_c (s:=s) (kk:=kk) (cc:=cc) hb.z) trivial rfl rfl rfl rfl ⟨rFlat (hls_flat (rS_flat s.now)) rfl (.inl rfl) rfl,rFlat (rS_flat s.sure) rfl (.inl rfl) rfl,rFlat (rI_flat s.last) rfl (.inl rfl) rfl,rFlat (rI_flat s.slast) rfl (.inl rfl) rfl,rFlat (rI_flat s.fl) rfl (.inl rfl) rfl,trivial⟩ rfl rfl rfl rfl rfl ?_
   refine gBE trivial rfl rfl rfl rfl rfl rfl ?_
   refine gM trivial (.inr rfl) rfl rfl rfl ?_
   refine rg_nil nofun ?_
   refine vc_ret ?_
   exact ⟨idm,ends0 (.inr rfl) rfl (eqB (beq_self_eq_true _).symm) rfl rfl rfl⟩
  ·skip
   refine vc_skip ?_
   refine vc_seq ?_
   refine vc_region hm ?_
   refine gL trivial rfl rfl rfl rfl rfl rfl rfl rfl ?_
   refine gM trivial (.inl rfl) rfl rfl rfl ?_
   refine gC0 [1,2,3,4,5,6] (impl_StoreAll_n (s:=s) (l:=L) (kk:=kk) (cc:=cc) (kl:=0) (cl:=0) hb.z c29) trivial rfl rfl rfl rfl ⟨rFlat (hls_flat (rS_flat s.now)) rfl (.inl rfl) rfl,rFlat (rS_flat s.sure) rfl (.inl rfl) rfl,rFlat (rI_flat s.last) rfl (.inl rfl) rfl,rFlat (rI_flat s.slast) rfl (.inl rfl) rfl,rFlat (rI_flat s.fl) rfl (.inl rfl) rfl,rFlat (hls_flat (rRq_flat _)) rfl (.inl rfl) rfl,trivial⟩ rfl rfl rfl rfl rfl ?_
   refine gM trivial (.inl rfl) rfl rfl rfl ?_
   refine gE trivial rfl rfl rfl rfl rfl rfl ?_
   refine gE trivial rfl rfl rfl rfl rfl rfl ?_
   refine gZ (u':=9) trivial rfl rfl rfl rfl rfl rfl rfl rfl ?_
   refine gT trivial rfl rfl rfl rfl rfl rfl rfl rfl rfl rfl (Nat.le_of_ble_eq_true rfl) rfl ?_
   refine gM trivial (.inr rfl) rfl rfl rfl ?_
   refine rg_nil nofun ?_
   refine vc_seq ?_
   refine vc_region hm ?_
   refine gL trivial rfl rfl rfl rfl rfl rfl rfl rfl ?_
   refine gC0 [1,2,3,4,5] (impl_StoreFence_n (s:=s) (kk:=kk) (cc:=cc) (who:=0) (ep:=1) hb.z c29) trivial rfl rfl rfl rfl ⟨rFlat (hls_flat (rS_flat s.now)) rfl (.inl rfl) rfl,rFlat (rS_flat s.sure) rfl (.inl rfl) rfl,rFlat (rI_flat s.last) rfl (.inl rfl) rfl,rFlat (rI_flat s.slast) rfl (.inl rfl) rfl,rFlat (rI_flat s.fl) rfl (.inl rfl) rfl,trivial⟩ rfl rfl rfl rfl rfl ?_
   refine gM trivial (.inl rfl) rfl rfl rfl ?_
   refine gE trivial rfl rfl rfl rfl rfl rfl ?_
   refine gE trivial rfl rfl rfl rfl rfl rfl ?_
   refine gZ (u':=10) trivial rfl rfl rfl rfl rfl rfl rfl rfl ?_
   refine gT trivial rfl rfl rfl rfl rfl rfl rfl rfl rfl rfl (Nat.le_of_ble_eq_true rfl) rfl ?_
   refine gM trivial (.inr rfl) rfl rfl rfl ?_
   refine rg_nil nofun ?_
   refine vc_seq ?_
   refine vc_region hm ?_
   refine gL trivial rfl rfl rfl rfl rfl rfl rfl rfl ?_
   refine gU trivial rfl rfl rfl rfl rfl rfl rfl rfl ?_
   refine gC0 [1,2,3,4,5] (impl_StoreRead_n (s:=s) (kk:=kk) (cc:=cc) (obj:=0) (p:=⟨0,1⟩) hb.z c29) trivial rfl rfl rfl rfl ⟨rFlat (hls_flat (rS_flat s.now)) rfl (.inl rfl) rfl,rFlat (rS_flat s.sure) rfl (.inl rfl) rfl,rFlat (rI_flat s.last) rfl (.inl rfl) rfl,rFlat (rI_flat s.slast) rfl (.inl rfl) rfl,rFlat (rI_flat s.fl) rfl (.inl rfl) rfl,trivial⟩ rfl rfl rfl rfl rfl ?_
   refine gM trivial (.inl rfl) rfl rfl rfl ?_
   refine gE trivial rfl rfl rfl rfl rfl rfl ?_
   refine gE trivial rfl rfl rfl rfl rfl rfl ?_
   refine gM trivial (.inr rfl) rfl rfl rfl ?_
   refine gM trivial (.inr rfl) rfl rfl rfl ?_
   refine rg_nil nofun ?_
   refine vc_seq ?_
   refine vc_region hm ?_
   refine gU trivial rfl rfl rfl rfl rfl rfl rfl rfl ?_
   refine gZ (u':=11) trivial rfl rfl rfl rfl rfl rfl rfl rfl ?_
   refine gT trivial rfl rfl rfl rfl rfl rfl rfl rfl rfl rfl (Nat.le_of_ble_eq_true rfl) rfl ?_
   refine rg_nil nofun ?_
   refine vc_seq ?_
   refine vc_region hm ?_
   refine gL trivial rfl rfl rfl rfl rfl rfl rfl rfl ?_
   refine gL trivial rfl rfl rfl rfl rfl rfl rfl rfl ?_
   refine gC0 [] (same_nn) trivial rfl rfl rfl rfl (by trivial) rfl rfl rfl rfl rfl ?_
   refine gM trivial (.inl rfl) rfl rfl rfl ?_
   refine gM ⟨_,_,rfl,rfl,rfl⟩ (.inl rfl) rfl rfl rfl ?_
   refine gKN ⟨_,_,rfl,rfl,rfl⟩ rfl rfl rfl rfl rfl ?_
   refine gI ⟨_,_,rfl,rfl,rfl⟩ rfl rfl rfl rfl rfl rfl ?_
   refine gPT trivial rfl rfl rfl rfl rfl rfl ?_
   refine gM trivial (.inl rfl) rfl rfl rfl ?_
   refine gL ⟨_,_,rfl,rfl,rfl⟩ rfl rfl rfl rfl rfl rfl rfl rfl ?_
   refine gL ⟨_,_,rfl,rfl,rfl⟩ rfl rfl rfl rfl rfl rfl rfl rfl ?_
   refine gC0 [] (same_nn) ⟨_,_,rfl,rfl,rfl⟩ rfl rfl rfl rfl (by trivial) rfl rfl rfl rfl rfl ?_
   refine gPT trivial rfl rfl rfl rfl rfl rfl ?_
   refine gM trivial (.inl rfl) rfl rfl rfl ?_
   refine gM ⟨_,_,rfl,rfl,rfl⟩ (.inl rfl) rfl rfl rfl ?_
   refine gN ⟨_,_,rfl,rfl,rfl⟩ rfl rfl rfl rfl ?_
   refine gPT trivial rfl rfl rfl rfl rfl rfl ?_
   refine gM trivial (.inl rfl) rfl rfl rfl ?_
   refine gM ⟨_,_,rfl,rfl,(notF rfl)⟩ (.inl rfl) rfl rfl rfl ?_
   refine gS ⟨_,_,rfl,rfl,(notF rfl)⟩ rfl rfl rfl rfl rfl rfl ?_
   refine gPT trivial rfl rfl (notF rfl) rfl rfl rfl ?_
   refine gM trivial (.inl rfl) rfl rfl rfl ?_
   refine gM ⟨_,_,rfl,rfl,(beq_self_eq_true _)⟩ (.inl rfl) rfl rfl rfl ?_
   refine gN ⟨_,_,rfl,rfl,(beq_self_eq_true _)⟩ rfl rfl rfl rfl ?_
   refine gPT trivial rfl rfl (beq_self_eq_true _) rfl rfl rfl ?_
   refine gM trivial (.inl rfl) rfl rfl rfl ?_
   refine gL ⟨_,_,rfl,rfl,(notF rfl)⟩ rfl rfl rfl rfl rfl rfl rfl rfl ?_
   refine gC0 [1,2,3,4,5] (impl_StoreSync_n (s:=s) (kk:=kk) (cc:=cc) hb.z c29) ⟨_,_,rfl,rfl,(notF rfl)⟩ rfl rfl rfl rfl ⟨rFlat (hls_flat (rS_flat s.now)) rfl (.inl rfl) rfl,rFlat (rS_flat s.sure) rfl (.inl rfl) rfl,rFlat (rI_flat s.last) rfl (.inl rfl) rfl,rFlat (rI_flat s.slast) rfl (.inl rfl) rfl,rFlat (rI_flat s.fl) rfl (.inl rfl) rfl,trivial⟩ rfl rfl rfl rfl rfl ?_
   refine gL ⟨_,_,rfl,rfl,(notF rfl)⟩ rfl rfl rfl rfl rfl rfl rfl rfl ?_
   refine gC0 [] (same_nn) ⟨_,_,rfl,rfl,(notF rfl)⟩ rfl rfl rfl rfl (by trivial) rfl rfl rfl rfl rfl ?_
   refine gPT trivial rfl rfl (notF rfl) rfl rfl rfl ?_
   refine gM trivial (.inl rfl) rfl rfl rfl ?_
   refine gL ⟨_,_,rfl,rfl,rfl⟩ rfl rfl rfl rfl rfl rfl rfl rfl ?_
   refine gC0 [1,2,3,4,5] (impl_StoreFall_n (s:=s) (kk:=kk) (cc:=cc) hb.z c29) ⟨_,_,rfl,rfl,rfl⟩ rfl rfl rfl rfl ⟨rFlat (hls_flat (rS_flat s.now)) rfl (.inl rfl) rfl,rFlat (rS_flat s.sure) rfl (.inl rfl) rfl,rFlat (rI_flat s.last) rfl (.inl rfl) rfl,rFlat (rI_flat s.slast) rfl (.inl rfl) rfl,rFlat (rI_flat s.fl) rfl (.inl rfl) rfl,trivial⟩ rfl rfl rfl rfl rfl ?_
   refine gL ⟨_,_,rfl,rfl,rfl⟩ rfl rfl rfl rfl rfl rfl rfl rfl ?_
   refine gC0 [] (same_nn) ⟨_,_,rfl,rfl,rfl⟩ rfl rfl rfl rfl (by trivial) rfl rfl rfl rfl rfl ?_
   refine gPT trivial rfl rfl rfl rfl rfl rfl ?_
   refine gM trivial (.inr rfl) rfl rfl rfl ?_
   refine rg_nil (fun _=>by kernel_rfl) ?_
   refine vc_ret ?_
   exact ⟨idm,ends0 (.inr rfl) rfl (eqB rfl) rfl rfl rfl⟩
theorem FnStoreBent_walk {w:World} {v0:Value} {l0:List Int} {N0:Nam} {k0:Nat} (h0:CodeArg w v0 l0 N0 k0):Calls Try.prog 4 #[v0] w fun e w'=>e = .returned (.bool true)∧Below w.heap.size w w' :=
 law_done (FnStoreBent_c h0.2.2.1 h0.2.2.2) (ρ:=envL [N0]) (by simp only [List.map_cons,List.map_nil,code_r3 (ns:=[N0]) (b:=0) h0 rfl (of_blt rfl)]) ⟨code_at h0 rfl (of_blt rfl),trivial⟩
end Go.Proofs.Ytmekkapacbdbeaa.A

/- Part 3 of the proof of FnOwnSame: words, contracts of callees, plain lemmas. -/
import Derived.Test.YthionnhbnfblcaaZLOwnSame2
set_option maxHeartbeats 8000000
set_option maxRecDepth 100000
set_option linter.unusedVariables false
set_option linter.unusedSimpArgs false
namespace Go.Proofs.Ythionnhbnfblcaa.A
open Go Go.RowKit
set_option maxHeartbeats 4000000
theorem own_le {o:Ow} (h:ownOk o=true):o.t.size≤48∧o.h.length≤12∧o.d.length≤12:=by
 unfold ownOk at h
 simp only [Bool.and_eq_true] at h
 have h1:=h.1.1
 unfold textOk at h1
 rw [Bool.and_eq_true,decide_eq_true_eq] at h1
 refine ⟨by omega,spansOk_len h.1.2.2.1,spansOk_len h.1.2.2.2⟩
theorem asRd {m:Nat→Nat} {u j:Nat} {x:Blk} {h:List (Nat × Bool × Fam)} (hl:h.lookup j=some (true,one (x.rn m))) (hk:x.cs.all (ok1 u)=true):h.lookup j=some (true,rnF m (one x))∧∀ k y,one x k=some y→DetB (lt u) y:=⟨by rw [rnF_one];exact hl,fun k y e=>det_ok (t:=x.t) (e:=x.e) hk e⟩
theorem open_c {l:List Int} {k:Nat} (hl:ByL l):∃ E,FDoes Try.prog 73 [.slice (some ⟨0,k,none⟩) l.length 0] (hp [(0,false,one ⟨hls k (rY l),capT + l.length,0⟩)]) E∧∃ n:Nat,n≤l.length∧E=mkF (.pointer (some ⟨1,0,none⟩)) [0] [] [(1,one ⟨[.slice (some ⟨0,k,none⟩) n 0,.int .i64 (0)],101,2⟩)]:=by
 have hm:Try.prog.follows .mixedOrders=true:=by kernel_rfl
 have hd_:∀ x_ ∈ ([(0,false,one ⟨hls k (rY l),capT + l.length,0⟩)]:List (Nat × Bool × Fam)),∀ k_ y_,x_.2.2 k_=some y_→DetB (lt 1) y_:=by
  intro x_ hx k_ y_ e
  simp only [List.mem_cons,List.not_mem_nil,or_false] at hx
  subst hx
  exact det_code e
 refine fn_some (u0:=1) Try.func73 rfl rfl (gets rfl rfl rfl hd_ rfl) ?_
 clear hd_
 refine vc_seq ?_
 refine vc_region hm ?_
 refine gM trivial (.inr rfl) rfl rfl rfl ?_
 refine rg_nil nofun ?_
 refine vc_seq ?_
 refine vc_seq ?_
 refine vc_region hm ?_
 refine gM trivial (.inl rfl) rfl rfl rfl ?_
 refine gK trivial rfl rfl rfl rfl rfl rfl (hls_nil fun e=>(by have:=rY_nil e;omega)) ?_
 refine gI trivial rfl rfl rfl rfl rfl rfl ?_
 refine rg_nil nofun ?_
 refine cI rfl (fun c5=>?_) (fun c5=>?_)
 ·skip
  have p5:=of_decide_eq_true c5
  refine vc_region hm ?_
  refine gM trivial (.inl rfl) rfl rfl rfl ?_
  refine gHead (m:=2000) trivial rfl rfl rfl rfl rfl rfl rfl rfl (hls_ne (rY_ne (by omega))) (by omega) ?_
  refine gM trivial (.inr rfl) rfl rfl rfl ?_
  refine rg_nil nofun ?_
  refine vc_seq ?_
  refine vc_region hm ?_
  refine gM trivial (.inl rfl) rfl rfl rfl ?_
  refine gU trivial rfl rfl rfl rfl rfl rfl rfl rfl ?_
  refine gB (u':=2) trivial rfl rfl rfl rfl rfl rfl rfl rfl ?_
  refine gM trivial (.inr rfl) rfl rfl rfl ?_
  refine rg_nil nofun ?_
  refine vc_ret ?_
  exact ⟨mkF (.pointer (some ⟨1,0,none⟩)) [0] [] [(1,one ⟨[.slice (some ⟨0,k,none⟩) 2000 0,.int .i64 0],101,2⟩)],_,endsT [(1,1,one ⟨[.slice (some ⟨0,k,none⟩) 2000 0,.int .i64 0],101,2⟩)] (.inr rfl) (.tmp rfl rfl .nil) rfl rfl trivial ⟨asRd rfl rfl,trivial⟩ rfl,2000,(by omega),rfl⟩
 ·skip
  have p5:=of_decide_eq_false c5
  refine vc_skip ?_
  refine vc_seq ?_
  refine vc_region hm ?_
  refine gM trivial (.inl rfl) rfl rfl rfl ?_
  refine gU trivial rfl rfl rfl rfl rfl rfl rfl rfl ?_
  refine gB (u':=2) trivial rfl rfl rfl rfl rfl rfl rfl rfl ?_
  refine gM trivial (.inr rfl) rfl rfl rfl ?_
  refine rg_nil nofun ?_
  refine vc_ret ?_
  exact ⟨mkF (.pointer (some ⟨1,0,none⟩)) [0] [] [(1,one ⟨[.slice (some ⟨0,k,none⟩) l.length 0,.int .i64 0],101,2⟩)],_,endsT [(1,1,one ⟨[.slice (some ⟨0,k,none⟩) l.length 0,.int .i64 0],101,2⟩)] (.inr rfl) (.tmp rfl rfl .nil) rfl rfl trivial ⟨asRd rfl rfl,trivial⟩ rfl,l.length,(by omega),rfl⟩
theorem drawSameO_c {l:List Int} {k:Nat} (hl:ByL l):∃ E,FDoes Try.prog 36 [.slice (some ⟨0,k,none⟩) l.length 0] (hp [(0,false,one ⟨hls k (rY l),capT + l.length,0⟩)]) E∧∃ (a b:Ow),a.t.size≤2000∧a.h.length≤2000∧a.d.length≤2000∧b.t.size≤2000∧b.h.length≤2000∧b.d.length≤2000∧E=mkF (.tuple #[.agg #[.string a.t,.slice (some ⟨1,0,none⟩) a.h.length 0,.slice (some ⟨2,0,none⟩) a.d.length 0],.agg #[.string b.t,.slice (some ⟨3,0,none⟩) b.h.length 0,.slice (some ⟨4,0,none⟩) b.d.length 0]]) [0] [] [(1,one ⟨rSp a.h,38,77⟩),(2,one ⟨rSp a.d,38,77⟩),(3,one ⟨rSp b.h,38,2⟩),(4,one ⟨rSp b.d,38,2⟩)]:=by
 have hm:Try.prog.follows .mixedOrders=true:=by kernel_rfl
 have hd_:∀ x_ ∈ ([(0,false,one ⟨hls k (rY l),capT + l.length,0⟩)]:List (Nat × Bool × Fam)),∀ k_ y_,x_.2.2 k_=some y_→DetB (lt 1) y_:=by
  intro x_ hx k_ y_ e
  simp only [List.mem_cons,List.not_mem_nil,or_false] at hx
  subst hx
  exact det_code e
 refine fn_some (u0:=1) Try.func36 rfl rfl (gets rfl rfl rfl hd_ rfl) ?_
 clear hd_
 refine vc_seq ?_
 refine vc_region hm ?_
 refine gZ (u':=2) trivial rfl rfl rfl rfl rfl rfl rfl rfl ?_
 refine gZ (u':=3) trivial rfl rfl rfl rfl rfl rfl rfl rfl ?_
 refine rg_nil nofun ?_
 refine vc_seq ?_
 refine vc_region hm ?_
 refine gM trivial (.inl rfl) rfl rfl rfl ?_
 obtain ⟨En1,hEn1,n,hn,rfl⟩:=open_c (l:=l) (k:=k) hl
 have hp0:(0:Int)≤0:=Int.le_refl _
 refine gCF (ups':=[]) (as':=[(3,one ⟨[.slice (some ⟨0,k,none⟩) n 0,.int .i64 (0)],101,2⟩)]) (v':=.pointer (some ⟨3,0,none⟩)) 4 [0,3] hEn1 trivial rfl rfl rfl rfl ⟨rCode rfl rfl,trivial⟩ trivial ⟨frOne rfl rfl,trivial⟩ rfl rfl (fun x hx=>nomatch hx) (fun x hx=>nomatch hx) rfl rfl ?_
 refine gM trivial (.inr rfl) rfl rfl rfl ?_
 refine rg_nil nofun ?_
 refine vc_seq ?_
 refine vc_region hm ?_
 refine gM trivial (.inl rfl) rfl rfl rfl ?_
 obtain ⟨E2,hE2,o2,p2,k2,q2a,q2b,rfl⟩:=l6Some_c (k:=k) (t0:=capT + l.length) (p:=0) hl hn (by omega) (by omega) 
 refine gCF (ups':=[(3,one ⟨[.slice (some ⟨0,k,none⟩) n 0,.int .i64 (p2)],101,2⟩)]) (as':=[(4,one ⟨rSp o2.h,38,77⟩),(5,one ⟨rSp o2.d,38,77⟩)]) (v':=.agg #[.string o2.t,.slice (some ⟨4,0,none⟩) o2.h.length 0,.slice (some ⟨5,0,none⟩) o2.d.length 0]) 6 [0,3,4,5] hE2 trivial rfl rfl rfl rfl ⟨rCode rfl rfl,rCells rfl ⟨rfl,rfl,.inr rfl⟩ rfl,trivial⟩ ⟨frOne rfl rfl,trivial⟩ ⟨frFlat (rSp_flat _) rfl,frFlat (rSp_flat _) rfl,trivial⟩ rfl rfl (ho1 ⟨_,rfl⟩) (hu1 rfl) rfl rfl ?_
 refine gZ (u':=7) trivial rfl rfl rfl rfl rfl rfl rfl rfl ?_
 refine gT trivial rfl rfl rfl rfl rfl rfl rfl rfl rfl rfl (Nat.le_of_ble_eq_true rfl) rfl ?_
 refine rg_nil nofun ?_
 refine vc_seq ?_
 refine vc_seq ?_
 refine vc_region hm ?_
 refine gM trivial (.inl rfl) rfl rfl rfl ?_
 obtain ⟨E3,hE3,x3,x3a,x3b,rfl⟩:=pick_c (k:=k) (t0:=capT + l.length) (p:=p2) hl hn (by omega) (by omega) (m:=2) (by omega) (by omega)
 refine gCF (ups':=[(3,one ⟨[.slice (some ⟨0,k,none⟩) n 0,.int .i64 (p2 + 1)],101,2⟩)]) (as':=[]) (v':=.int .i64 x3) 7 [0,3] hE3 trivial rfl rfl rfl rfl ⟨rCode rfl rfl,rCells rfl ⟨rfl,rfl,.inr rfl⟩ rfl,trivial⟩ ⟨frOne rfl rfl,trivial⟩ trivial rfl rfl (ho1 ⟨_,rfl⟩) (hu1 rfl) rfl rfl ?_
 refine gI trivial rfl rfl rfl rfl rfl rfl ?_
 refine rg_nil nofun ?_
 refine cI rfl (fun c14=>?_) (fun c14=>?_)
 ·skip
  have p14:=eq_of_beq c14
  refine vc_seq ?_
  refine vc_region hm ?_
  refine gL trivial rfl rfl rfl rfl rfl rfl rfl rfl ?_
  refine gM trivial (.inl rfl) rfl rfl rfl ?_
  obtain ⟨E5,hE5,s5,p5,s5a,s5b,s5c,q5a,q5b,rfl⟩:=span_c (k:=k) (t0:=capT + l.length) (p:=p2 + 1) hl hn (by omega) (by omega) 
  refine gCF (ups':=[(3,one ⟨[.slice (some ⟨0,k,none⟩) n 0,.int .i64 (p5)],101,2⟩)]) (as':=[]) (v':=vSp s5) 7 [0,3] hE5 trivial rfl rfl rfl rfl ⟨rCode rfl rfl,rCells rfl ⟨rfl,rfl,.inr rfl⟩ rfl,trivial⟩ ⟨frOne rfl rfl,trivial⟩ trivial rfl rfl (ho1 ⟨_,rfl⟩) (hu1 rfl) rfl rfl ?_
  refine gCn 9 [4,5,7,8] (spec_OwnClean_w (o:=o2) (s:=s5) k2) trivial rfl rfl rfl rfl ⟨rFlat (rSp_flat o2.h) rfl (.inl rfl) rfl,rFlat (rSp_flat o2.d) rfl (.inl rfl) rfl,trivial⟩ ⟨rSp_flat _,rSp_flat _,trivial⟩ rfl rfl rfl rfl ?_
  refine gM trivial (.inl rfl) rfl rfl rfl ?_
  refine gE trivial rfl rfl rfl rfl rfl rfl ?_
  refine gE trivial rfl rfl rfl rfl rfl rfl ?_
  refine gZ (u':=10) trivial rfl rfl rfl rfl rfl rfl rfl rfl ?_
  refine gT trivial rfl rfl rfl rfl rfl rfl rfl rfl rfl rfl (Nat.le_of_ble_eq_true rfl) rfl ?_
  refine gM trivial (.inr rfl) rfl rfl rfl ?_
  refine rg_nil (fun _=>by kernel_rfl) ?_
  refine vc_seq ?_
  refine vc_region hm ?_
  refine gL trivial rfl rfl rfl rfl rfl rfl rfl rfl ?_
  refine gL trivial rfl rfl rfl rfl rfl rfl rfl rfl ?_
  refine gT trivial rfl rfl rfl rfl rfl rfl rfl rfl rfl rfl (Nat.le_of_ble_eq_true rfl) rfl ?_
  refine gT trivial rfl rfl rfl rfl rfl rfl rfl rfl rfl rfl (Nat.le_of_ble_eq_true rfl) rfl ?_
  refine rg_nil (fun _=>by kernel_rfl) ?_
  refine vc_ret ?_
  exact ⟨mkF (.tuple #[.agg #[.string o2.t,.slice (some ⟨1,0,none⟩) o2.h.length 0,.slice (some ⟨2,0,none⟩) o2.d.length 0],.agg #[.string (chO (spanOk s5) o2 (cleanX o2 s5)).t,.slice (some ⟨3,0,none⟩) (chO (spanOk s5) o2 (cleanX o2 s5)).h.length 0,.slice (some ⟨4,0,none⟩) (chO (spanOk s5) o2 (cleanX o2 s5)).d.length 0]]) [0] [] [(1,one ⟨rSp o2.h,38,77⟩),(2,one ⟨rSp o2.d,38,77⟩),(3,one ⟨rSp (chO (spanOk s5) o2 (cleanX o2 s5)).h,38,2⟩),(4,one ⟨rSp (chO (spanOk s5) o2 (cleanX o2 s5)).d,38,2⟩)],_,endsT [(1,4,one ⟨rSp o2.h,38,77⟩),(2,5,one ⟨rSp o2.d,38,77⟩),(3,7,one ⟨rSp (chO (spanOk s5) o2 (cleanX o2 s5)).h,38,2⟩),(4,8,one ⟨rSp (chO (spanOk s5) o2 (cleanX o2 s5)).d,38,2⟩)] (.inr rfl) (.cell rfl rfl rfl rfl rfl (.cell rfl rfl rfl rfl rfl .nil)) rfl rfl trivial ⟨asFlat rfl (rSp_flat _),asFlat rfl (rSp_flat _),asFlat rfl (rSp_flat _),asFlat rfl (rSp_flat _),trivial⟩ rfl,o2,(chO (spanOk s5) o2 (cleanX o2 s5)),(by have:=own_le k2;omega),(by have:=own_le k2;omega),(by have:=own_le k2;omega),(by have:=own_le (chO_is (may:=spanOk s5) (x:=cleanX o2 s5) k2);omega),(by have:=own_le (chO_is (may:=spanOk s5) (x:=cleanX o2 s5) k2);omega),(by have:=own_le (chO_is (may:=spanOk s5) (x:=cleanX o2 s5) k2);omega),rfl⟩
 ·skip
  have p14:=ne_of_beq_false c14
  refine vc_skip ?_
  refine vc_seq ?_
  refine vc_region hm ?_
  refine gL trivial rfl rfl rfl rfl rfl rfl rfl rfl ?_
  refine gM trivial (.inl rfl) rfl rfl rfl ?_
  refine gM trivial (.inl rfl) rfl rfl rfl ?_
  refine gM trivial (.inl rfl) rfl rfl rfl ?_
  refine gL trivial rfl rfl rfl rfl rfl rfl rfl rfl ?_
  obtain ⟨E7,hE7,o7,p7,z7a,z7b,z7c,q7a,q7b,rfl⟩:=bentO_c (k:=k) (t0:=capT + l.length) (p:=p2 + 1) hl hn (by omega) (by omega) (o:=o2) (by have:=own_le k2;omega) (by have:=own_le k2;omega) (by have:=own_le k2;omega)
  refine gCF (ups':=[(3,one ⟨[.slice (some ⟨0,k,none⟩) n 0,.int .i64 (p7)],101,2⟩)]) (as':=[(7,one ⟨rSp o7.h,38,2⟩),(8,one ⟨rSp o7.d,38,2⟩)]) (v':=.agg #[.string o7.t,.slice (some ⟨7,0,none⟩) o7.h.length 0,.slice (some ⟨8,0,none⟩) o7.d.length 0]) 9 [0,3,4,5,7,8] hE7 trivial rfl rfl rfl rfl ⟨rCode rfl rfl,rCells rfl ⟨rfl,rfl,.inr rfl⟩ rfl,rFlat (rSp_flat _) rfl (.inl rfl) rfl,rFlat (rSp_flat _) rfl (.inl rfl) rfl,trivial⟩ ⟨frOne rfl rfl,trivial⟩ ⟨frFlat (rSp_flat _) rfl,frFlat (rSp_flat _) rfl,trivial⟩ rfl rfl (ho1 ⟨_,rfl⟩) (hu1 rfl) rfl rfl ?_
  obtain ⟨E8,hE8,o8,p8,z8a,z8b,z8c,q8a,q8b,rfl⟩:=bentO_c (k:=k) (t0:=capT + l.length) (p:=p7) hl hn (by omega) (by omega) (o:=o7) (by have:=own_le k2;have:=z7a;have:=z7b;have:=z7c;omega) (by have:=own_le k2;have:=z7a;have:=z7b;have:=z7c;omega) (by have:=own_le k2;have:=z7a;have:=z7b;have:=z7c;omega)
  refine gCF (ups':=[(3,one ⟨[.slice (some ⟨0,k,none⟩) n 0,.int .i64 (p8)],101,2⟩)]) (as':=[(9,one ⟨rSp o8.h,38,2⟩),(10,one ⟨rSp o8.d,38,2⟩)]) (v':=.agg #[.string o8.t,.slice (some ⟨9,0,none⟩) o8.h.length 0,.slice (some ⟨10,0,none⟩) o8.d.length 0]) 11 [0,3,7,8,9,10] hE8 trivial rfl rfl rfl rfl ⟨rCode rfl rfl,rCells rfl ⟨rfl,rfl,.inr rfl⟩ rfl,rFlat (rSp_flat _) rfl (.inl rfl) rfl,rFlat (rSp_flat _) rfl (.inl rfl) rfl,trivial⟩ ⟨frOne rfl rfl,trivial⟩ ⟨frFlat (rSp_flat _) rfl,frFlat (rSp_flat _) rfl,trivial⟩ rfl rfl (ho1 ⟨_,rfl⟩) (hu1 rfl) rfl rfl ?_
  obtain ⟨E9,hE9,o9,p9,z9a,z9b,z9c,q9a,q9b,rfl⟩:=bentO_c (k:=k) (t0:=capT + l.length) (p:=p8) hl hn (by omega) (by omega) (o:=o8) (by have:=own_le k2;have:=z7a;have:=z7b;have:=z7c;have:=z8a;have:=z8b;have:=z8c;omega) (by have:=own_le k2;have:=z7a;have:=z7b;have:=z7c;have:=z8a;have:=z8b;have:=z8c;omega) (by have:=own_le k2;have:=z7a;have:=z7b;have:=z7c;have:=z8a;have:=z8b;have:=z8c;omega)
  refine gCF (ups':=[(3,one ⟨[.slice (some ⟨0,k,none⟩) n 0,.int .i64 (p9)],101,2⟩)]) (as':=[(11,one ⟨rSp o9.h,38,2⟩),(12,one ⟨rSp o9.d,38,2⟩)]) (v':=.agg #[.string o9.t,.slice (some ⟨11,0,none⟩) o9.h.length 0,.slice (some ⟨12,0,none⟩) o9.d.length 0]) 13 [0,3,9,10,11,12] hE9 trivial rfl rfl rfl rfl ⟨rCode rfl rfl,rCells rfl ⟨rfl,rfl,.inr rfl⟩ rfl,rFlat (rSp_flat _) rfl (.inl rfl) rfl,rFlat (rSp_flat _) rfl (.inl rfl) rfl,trivial⟩ ⟨frOne rfl rfl,trivial⟩ ⟨frFlat (rSp_flat _) rfl,frFlat (rSp_flat _) rfl,trivial⟩ rfl rfl (ho1 ⟨_,rfl⟩) (hu1 rfl) rfl rfl ?_
  refine gT trivial rfl rfl rfl rfl rfl rfl rfl rfl rfl rfl (Nat.le_of_ble_eq_true rfl) rfl ?_
  refine gT trivial rfl rfl rfl rfl rfl rfl rfl rfl rfl rfl (Nat.le_of_ble_eq_true rfl) rfl ?_
  refine rg_nil (fun _=>by kernel_rfl) ?_
  refine vc_ret ?_
  exact ⟨mkF (.tuple #[.agg #[.string o2.t,.slice (some ⟨1,0,none⟩) o2.h.length 0,.slice (some ⟨2,0,none⟩) o2.d.length 0],.agg #[.string o9.t,.slice (some ⟨3,0,none⟩) o9.h.length 0,.slice (some ⟨4,0,none⟩) o9.d.length 0]]) [0] [] [(1,one ⟨rSp o2.h,38,77⟩),(2,one ⟨rSp o2.d,38,77⟩),(3,one ⟨rSp o9.h,38,2⟩),(4,one ⟨rSp o9.d,38,2⟩)],_,endsT [(1,4,one ⟨rSp o2.h,38,77⟩),(2,5,one ⟨rSp o2.d,38,77⟩),(3,11,one ⟨rSp o9.h,38,2⟩),(4,12,one ⟨rSp o9.d,38,2⟩)] (.inr rfl) (.cell rfl rfl rfl rfl rfl (.cell rfl rfl rfl rfl rfl .nil)) rfl rfl trivial ⟨asFlat rfl (rSp_flat _),asFlat rfl (rSp_flat _),asFlat rfl (rSp_flat _),asFlat rfl (rSp_flat _),trivial⟩ rfl,o2,o9,(by have:=own_le k2;omega),(by have:=own_le k2;omega),(by have:=own_le k2;omega),(by have:=own_le k2;have:=z7a;have:=z7b;have:=z7c;have:=z8a;have:=z8b;have:=z8c;have:=z9a;have:=z9b;have:=z9c;omega),(by have:=own_le k2;have:=z7a;have:=z7b;have:=z7c;have:=z8a;have:=z8b;have:=z8c;have:=z9a;have:=z9b;have:=z9c;omega),(by have:=own_le k2;have:=z7a;have:=z7b;have:=z7c;have:=z8a;have:=z8b;have:=z8c;have:=z9a;have:=z9b;have:=z9c;omega),rfl⟩
end Go.Proofs.Ythionnhbnfblcaa.A
namespace Go.Proofs.Ythionnhbnfblcaa.A
open Go Go.RowKit
open Go.Joins Go.ChangeShapes Go.WideShapes Go.Deep
def RawN (w:World) (v:Value) (N:Nam) (k n:Nat) (cs:List Value):Prop :=
 v=(if N.nil=true then zv N.z else .slice (some ⟨N.blk,k,none⟩) n (N.cap - 0))∧(if N.nil=true then hls k cs = [] else ∃ (c:Array Value) (t:TypeId) (z:Nat × Nat),w.heap[N.blk]?=some (.cells c t z)∧∀ (i:Nat) (x:Value),(hls k cs)[i]?=some x→x ≠ hole→c[i]?=some x)
theorem raw_none {w:World}:RawN w (.slice none 0 0) ⟨0,0,true,none⟩ 0 0 []:=⟨rfl,rfl⟩
theorem raw_of' {α:Type} {enc:α→List Value} {m:Nat} (he:∀ x,(enc x).length=m) (hm:0<m) {w:World} {a:Addr} {cap:Nat} {l:List α} (h:∀ i x,(rowL enc l)[i]?=some x→w.cell? (a.add i)=some x):∃ N k,RawN w (.slice (some a) l.length cap) N k l.length (rowL enc l)∧(N.nil=false→N.cap=cap):=by
 rcases l with _|⟨x,xs⟩
 ·exact ⟨⟨0,0,true,some (a,cap)⟩,0,⟨rfl,rfl⟩,fun q=>(by cases q)⟩
 ·have hp0:0<(rowL enc (x :: xs)).length:=by rw [rowL_len he,List.length_cons];exact Nat.mul_pos (Nat.succ_pos _) hm
  have h0:=h 0 _ (List.getElem?_eq_getElem hp0)
  have h1:∃ c t z,w.heap[a.block]?=some (.cells c t z)∧a.spot=none:=by
   have e:a.add 0=a:=by simp [Addr.add]
   unfold World.cell? at h0
   rw [e] at h0
   split at h0
   ·rename_i c t z hh
    refine ⟨c,t,z,hh,?_⟩
    split at h0
    ·cases h0
    ·rename_i hs;simpa using hs
   ·cases h0
  obtain ⟨c,t,z,hh,hs⟩:=h1
  obtain ⟨b,off,sp⟩:=a
  simp only at hs hh
  subst hs
  refine ⟨⟨b,cap,false,none⟩,off,⟨rfl,(if_neg Bool.false_ne_true).mpr ⟨c,t,z,hh,fun i v hv hne=>?_⟩⟩,fun _=>rfl⟩
  unfold hls at hv
  by_cases hi:i<off
  ·rw [List.getElem?_append_left (by simpa using hi)] at hv
   have:=List.mem_of_getElem? hv
   exact absurd (List.eq_of_mem_replicate this) hne
  ·rw [List.getElem?_append_right (by simpa using hi),List.length_replicate] at hv
   have:=h (i - off) v hv
   rw [add_eq,cell_eq hh] at this
   rw [← this]
   congr 1
   omega
def envL (l:List Nam):Env:=fun n=>(l[n % 1000]?).getD ⟨0,0,true,none⟩
theorem raw_atR {w:World} {v:Value} {N:Nam} {k n:Nat} {cs:List Value} {t:TypeId} {l:List Nam} {b:Nat} (h:RawN w v N k n cs) (hf:cs.all flat1=true) (hb:l[b]?=some N) (hb':b<1000) (ht:N.nil=false→t - capT≤N.cap):famAt (envL l) w b (one ⟨hls k cs,t,0⟩):=by
 intro k' x e
 obtain ⟨rfl,rfl⟩:=one_some e
 have e1:envL l (nm b 0)=N:=by unfold envL;rw [nm_mod hb',hb];rfl
 unfold blkAt
 rw [e1]
 have h2:=h.2
 cases hn:N.nil with
 | true=>rw [hn,if_pos rfl] at h2;rw [if_pos rfl];exact ⟨h2,fun q=>absurd rfl q,(by decide:0<100)⟩
 | false =>
  rw [hn,if_neg (by decide)] at h2
  rw [if_neg (by decide),if_pos rfl]
  obtain ⟨c,t',z,h3,h4⟩:=h2
  refine ⟨c,t',z,h3,fun i v hv hne=>?_,ht hn⟩
  rw [r1_flat (List.all_eq_true.1 (hls_flat (k:=k) hf) v (List.mem_of_getElem? hv))]
  exact h4 i v hv hne
theorem raw_r1 {w:World} {v:Value} {N:Nam} {k n:Nat} {cs:List Value} {l:List Nam} {b:Nat} (h:RawN w v N k n cs) (hb:l[b]?=some N) (hb':b<1000):r1 (envL l) (.slice (some ⟨b,k,none⟩) n 0)=v:=by
 show (if (envL l b).nil=true then zv (envL l b).z else .slice (some ⟨(envL l b).blk,k,none⟩) n ((envL l b).cap - 0))=v
 have e1:envL l b=N:=by unfold envL;rw [Nat.mod_eq_of_lt hb',hb];rfl
 rw [e1,h.1]
def AtL (ρ:Env) (w:World):List (Nat × Bool × Fam)→Prop
 | []=>True
 | x :: l=>famAt ρ w x.1 x.2.2∧AtL ρ w l
theorem atL_mem {ρ:Env} {w:World}:∀ {l:List (Nat × Bool × Fam)},AtL ρ w l→∀ b o F,l.lookup b=some (o,F)→famAt ρ w b F
 | x :: l,h,b,o,F,e=>by
  obtain ⟨c,y⟩:=x
  rw [List.lookup_cons] at e
  by_cases hb:b=c
  ·subst hb
   simp at e
   subst e
   exact h.1
  ·have:(b == c)=false:=by simpa using hb
   rw [this] at e
   exact atL_mem h.2 b o F e
theorem law_done {P:Program} {f:FuncId} {args:List Value} {hl:List (Nat × Bool × Fam)} {rd:List Nat} {ρ:Env} {w:World} {vs:Array Value} (h:FDoes P f args (hp hl) { v:=.bool true,rd:=rd }) (ha:(args.map (r3 ρ)).toArray=vs) (hr:AtL ρ w hl) :
  Calls P f vs w fun e w'=>e = .returned (.bool true)∧Below w.heap.size w w':=by
 subst ha
 refine (h.run ρ w ⟨fun b _ o F e=>atL_mem hr b o F e,fun b hb=>(by cases hb)⟩).mono fun e w' ⟨ρ',hB,he⟩=>⟨he,?_⟩
 have hf:=hB.frm
 exact Frm.below ⟨hf.os,hf.tape,hf.output,hf.size,fun k hk hn=>hf.block k hk fun ⟨b,hb,_⟩=>(by cases hb)⟩
section
variable {H:Type} {enc:TypeId × Value→H} {P:Program} {w:World} {base:Nat} {spare:Nat→Bool} {held:Bool}
end
section
variable {H:Type} {enc:TypeId × Value→H} {w:World} {base:Nat} {spare:Nat→Bool} {held:Bool}
end
theorem u8_in {n:Int} (h:(Lit.int .u8 n).wf=true):0≤n∧n≤255:=by
 have e1:IntKind.u8.min=0:=by decide
 have e2:IntKind.u8.max=255:=by decide
 simp only [Lit.wf,e1,e2,Bool.and_eq_true,decide_eq_true_eq] at h
 exact h
def CodeArg (w:World) (v:Value) (l:List Int) (N:Nam) (k:Nat):Prop:=RawN w v N k l.length (rY l)∧(N.nil=false→l.length≤N.cap)∧ByL l∧l.length≤9223372036854775807
theorem code_at {w:World} {v:Value} {l:List Int} {N:Nam} {k:Nat} {ns:List Nam} {b:Nat} (h:CodeArg w v l N k) (hb:ns[b]?=some N) (hb':b<1000):famAt (envL ns) w b (one ⟨hls k (rY l),capT + l.length,0⟩) :=
 raw_atR h.1 (rY_flat l) hb hb' fun hn=>by rw [Nat.add_sub_cancel_left];exact h.2.1 hn
theorem code_r3 {w:World} {v:Value} {l:List Int} {N:Nam} {k:Nat} {ns:List Nam} {b:Nat} (h:CodeArg w v l N k) (hb:ns[b]?=some N) (hb':b<1000):r3 (envL ns) (.slice (some ⟨b,k,none⟩) l.length 0)=v:=raw_r1 h.1 hb hb'
theorem open_bytesA {H:Type} {enc:TypeId × Value→H} {w:World} {base:Nat} {spare:Nat→Bool} {held:Bool} {r:Reach} {b0:Nat} {v:Value} {d:DataW H} {p:List MemPlace} (hv:Value.okWide Try.prog w r b0 50 v) (h:DataW.Trod enc Try.prog w base spare held 50 v d p):∃ l N k,CodeArg w v l N k:=by
 obtain ⟨a1,len,cap,rfl⟩:=okWide_slice Try.underlying50 hv
 obtain ⟨fuel,hf⟩:=h
 rcases open_ints Try.underlying50 Try.underlying5 (by kernel_rfl) hf with ⟨h1,_⟩|⟨a,len',cap',zs,h1,_,hl,hm,hz,_,hcell,hw⟩
 ·simp only [Value.cells,List.cons.injEq,_root_.and_true,Value.slice.injEq] at h1
  obtain ⟨rfl,rfl,rfl⟩:=h1
  exact ⟨[],_,_,raw_none,fun q=>(by cases q),(fun _ hx=>(nomatch hx)),by decide⟩
 ·simp only [Value.cells,List.cons.injEq,_root_.and_true,Value.slice.injEq] at h1
  obtain ⟨rfl,rfl,rfl⟩:=h1
  unfold maxLen at hm
  have hlz:len≤zs.length:=by rw [hz];split <;> omega
  have hn:(zs.take len).length=len:=by rw [List.length_take,Nat.min_eq_left hlz]
  have key:∀ i x,(rY (zs.take len))[i]?=some x→w.cell? (a.add i)=some x:=fun i x hx=>by
   have hi:=(List.getElem?_eq_some_iff.1 hx).1
   rw [rowL_len (n:=1) (fun _=>rfl),hn,Nat.mul_one] at hi
   have e1:x = .int .u8 (zs.getD i 0):=by
    have hg:=rowL_get (enc:=eY) (n:=1) (fun _=>rfl) (zs.take len) i 0 (by rw [hn];exact hi) (by decide)
    rw [Nat.mul_one,Nat.add_zero,hx,List.getElem_take] at hg
    rw [List.getD_eq_getElem?_getD,List.getElem?_eq_getElem (by omega)]
    exact Option.some.inj hg
   rw [e1]
   exact hcell i (by omega)
  obtain ⟨N,k,hr,hc⟩:=raw_of' (enc:=eY) (m:=1) (fun _=>rfl) (by decide) (cap:=cap) key
  refine ⟨zs.take len,N,k,by rw [hn] at hr ⊢;exact hr,fun q=>by rw [hc q,hn];omega,fun x hx=>u8_in (hw x (List.mem_of_mem_take hx)),by rw [hn];omega⟩
end Go.Proofs.Ythionnhbnfblcaa.A
namespace Go.Proofs.Ythionnhbnfblcaa.A
open Go Go.RowKit
set_option maxHeartbeats 4000000
theorem FnOwnSame_c {l:List Int} {k:Nat} (hl:ByL l) (hl9:l.length≤9223372036854775807):FDoes Try.prog 10 [.slice (some ⟨0,k,none⟩) l.length 0] (hp [(0,false,one ⟨hls k (rY l),capT + l.length,0⟩)]) { v:=.bool true,rd:=[0] }:=by
 have hm:Try.prog.follows .mixedOrders=true:=by kernel_rfl
 have hd_:∀ x_ ∈ ([(0,false,one ⟨hls k (rY l),capT + l.length,0⟩)]:List (Nat × Bool × Fam)),∀ k_ y_,x_.2.2 k_=some y_→DetB (lt 1) y_:=by
  intro x_ hx k_ y_ e
  simp only [List.mem_cons,List.not_mem_nil,or_false] at hx
  subst hx
  exact det_code e
 refine fn_exact (u0:=1) Try.func10 rfl rfl (gets rfl rfl rfl hd_ rfl) ?_
 clear hd_
 refine vc_seq ?_
 refine vc_region hm ?_
 refine gM trivial (.inr rfl) rfl rfl rfl ?_
 refine rg_nil nofun ?_
 refine vc_seq ?_
 refine vc_seq ?_
 refine vc_region hm ?_
 refine gM trivial (.inl rfl) rfl rfl rfl ?_
 refine gK trivial rfl rfl rfl rfl rfl rfl (hls_nil fun e=>rY_nil e) ?_
 refine gI trivial rfl rfl rfl rfl rfl rfl ?_
 refine rg_nil nofun ?_
 refine cI rfl (fun c9=>?_) (fun c9=>?_)
 ·skip
  have p9:=of_decide_eq_true c9
  refine vc_seq ?_
  refine vc_region hm ?_
  refine gM trivial (.inr rfl) rfl rfl rfl ?_
  refine rg_nil nofun ?_
  refine vc_ret ?_
  exact ⟨idm,ends0 (.inr rfl) rfl (eqB rfl) rfl rfl rfl⟩
 ·skip
  have p9:=of_decide_eq_false c9
  refine vc_skip ?_
  refine vc_seq ?_
  refine vc_region hm ?_
  refine gM trivial (.inl rfl) rfl rfl rfl ?_
  obtain ⟨E2,hE2,a,b,a1,a2,a3,b1,b2,b3,rfl⟩:=drawSameO_c (l:=l) (k:=k) hl
  refine gCF (ups':=[]) (as':=[(1,one ⟨rSp a.h,38,77⟩),(2,one ⟨rSp a.d,38,77⟩),(3,one ⟨rSp b.h,38,2⟩),(4,one ⟨rSp b.d,38,2⟩)]) (v':=.tuple #[.agg #[.string a.t,.slice (some ⟨1,0,none⟩) a.h.length 0,.slice (some ⟨2,0,none⟩) a.d.length 0],.agg #[.string b.t,.slice (some ⟨3,0,none⟩) b.h.length 0,.slice (some ⟨4,0,none⟩) b.d.length 0]]) 5 [0,1,2,3,4] hE2 trivial rfl rfl rfl rfl ⟨rCode rfl rfl,trivial⟩ trivial ⟨frFlat (rSp_flat _) rfl,frFlat (rSp_flat _) rfl,frFlat (rSp_flat _) rfl,frFlat (rSp_flat _) rfl,trivial⟩ rfl rfl (fun x hx=>nomatch hx) (fun x hx=>nomatch hx) rfl rfl ?_
  refine gM trivial (.inl rfl) rfl rfl rfl ?_
  refine gE trivial rfl rfl rfl rfl rfl rfl ?_
  refine gE trivial rfl rfl rfl rfl rfl rfl ?_
  refine gZ (u':=6) trivial rfl rfl rfl rfl rfl rfl rfl rfl ?_
  refine gZ (u':=7) trivial rfl rfl rfl rfl rfl rfl rfl rfl ?_
  refine gT trivial rfl rfl rfl rfl rfl rfl rfl rfl rfl rfl (Nat.le_of_ble_eq_true rfl) rfl ?_
  refine gT trivial rfl rfl rfl rfl rfl rfl rfl rfl rfl rfl (Nat.le_of_ble_eq_true rfl) rfl ?_
  refine rg_nil nofun ?_
  refine vc_seq ?_
  refine vc_seq ?_
  refine vc_region hm ?_
  refine gL trivial rfl rfl rfl rfl rfl rfl rfl rfl ?_
  refine gL trivial rfl rfl rfl rfl rfl rfl rfl rfl ?_
  refine gC0 [1,2,3,4] (impl_OwnSame_c (a:=a) (b:=b) (show a.h.length≤_ by omega) (show a.d.length≤_ by omega)) trivial rfl rfl rfl rfl ⟨rFlat (rSp_flat _) rfl (.inl rfl) rfl,rFlat (rSp_flat _) rfl (.inl rfl) rfl,rFlat (rSp_flat _) rfl (.inl rfl) rfl,rFlat (rSp_flat _) rfl (.inl rfl) rfl,trivial⟩ rfl rfl rfl rfl rfl ?_
  refine gL trivial rfl rfl rfl rfl rfl rfl rfl rfl ?_
  refine gL trivial rfl rfl rfl rfl rfl rfl rfl rfl ?_
  refine gC0 [1,2,3,4] (spec_OwnSame_c (a:=a) (b:=b) (show a.h.length≤_ by omega) (show a.d.length≤_ by omega)) trivial rfl rfl rfl rfl ⟨rFlat (rSp_flat _) rfl (.inl rfl) rfl,rFlat (rSp_flat _) rfl (.inl rfl) rfl,rFlat (rSp_flat _) rfl (.inl rfl) rfl,rFlat (rSp_flat _) rfl (.inl rfl) rfl,trivial⟩ rfl rfl rfl rfl rfl ?_
  refine gBN trivial rfl rfl rfl rfl rfl rfl ?_
  refine gM trivial (.inl rfl) rfl rfl rfl ?_
  refine gL ⟨_,_,rfl,rfl,(nself _)⟩ rfl rfl rfl rfl rfl rfl rfl rfl ?_
  refine gL ⟨_,_,rfl,rfl,(nself _)⟩ rfl rfl rfl rfl rfl rfl rfl rfl ?_
  refine gC0 [1,2,3,4] (impl_OwnSame_c (a:=a) (b:=b) (show a.h.length≤_ by omega) (show a.d.length≤_ by omega)) ⟨_,_,rfl,rfl,(nself _)⟩ rfl rfl rfl rfl ⟨rFlat (rSp_flat _) rfl (.inl rfl) rfl,rFlat (rSp_flat _) rfl (.inl rfl) rfl,rFlat (rSp_flat _) rfl (.inl rfl) rfl,rFlat (rSp_flat _) rfl (.inl rfl) rfl,trivial⟩ rfl rfl rfl rfl rfl ?_
  refine gL ⟨_,_,rfl,rfl,(nself _)⟩ rfl rfl rfl rfl rfl rfl rfl rfl ?_
  refine gL ⟨_,_,rfl,rfl,(nself _)⟩ rfl rfl rfl rfl rfl rfl rfl rfl ?_
  refine gC0 [3,4,1,2] (impl_OwnSame_c (a:=b) (b:=a) (show b.h.length≤_ by omega) (show b.d.length≤_ by omega)) ⟨_,_,rfl,rfl,(nself _)⟩ rfl rfl rfl rfl ⟨rFlat (rSp_flat _) rfl (.inl rfl) rfl,rFlat (rSp_flat _) rfl (.inl rfl) rfl,rFlat (rSp_flat _) rfl (.inl rfl) rfl,rFlat (rSp_flat _) rfl (.inl rfl) rfl,trivial⟩ rfl rfl rfl rfl rfl ?_
  refine gBN ⟨_,_,rfl,rfl,(nself _)⟩ rfl rfl rfl rfl rfl rfl ?_
  refine gPF trivial rfl rfl (nself _) rfl rfl rfl ?_
  refine gM trivial (.inl rfl) rfl rfl rfl ?_
  refine gL ⟨_,_,rfl,rfl,(beqNO smO_comm)⟩ rfl rfl rfl rfl rfl rfl rfl rfl ?_
  refine gL ⟨_,_,rfl,rfl,(beqNO smO_comm)⟩ rfl rfl rfl rfl rfl rfl rfl rfl ?_
  refine gC0 [1,2,1,2] (impl_OwnSame_c (a:=a) (b:=a) (show a.h.length≤_ by omega) (show a.d.length≤_ by omega)) ⟨_,_,rfl,rfl,(beqNO smO_comm)⟩ rfl rfl rfl rfl ⟨rFlat (rSp_flat _) rfl (.inl rfl) rfl,rFlat (rSp_flat _) rfl (.inl rfl) rfl,rFlat (rSp_flat _) rfl (.inl rfl) rfl,rFlat (rSp_flat _) rfl (.inl rfl) rfl,trivial⟩ rfl rfl rfl rfl rfl ?_
  refine gN ⟨_,_,rfl,rfl,(beqNO smO_comm)⟩ rfl rfl rfl rfl ?_
  refine gPF trivial rfl rfl (beqNO smO_comm) rfl rfl rfl ?_
  refine rg_nil (fun _=>by kernel_rfl) ?_
  refine cF rfl (notT smO_self) ?_
  refine vc_skip ?_
  refine vc_seq ?_
  refine vc_region hm ?_
  refine gL trivial rfl rfl rfl rfl rfl rfl rfl rfl ?_
  refine gZ (u':=8) trivial rfl rfl rfl rfl rfl rfl rfl rfl ?_
  refine gT trivial rfl rfl rfl rfl rfl rfl rfl rfl rfl rfl (Nat.le_of_ble_eq_true rfl) rfl ?_
  refine rg_nil nofun ?_
  refine vc_seq ?_
  refine vc_region hm ?_
  refine gF trivial rfl rfl rfl rfl rfl ?_
  refine gL trivial rfl rfl rfl rfl rfl rfl rfl rfl ?_
  refine gCat trivial rfl rfl rfl rfl rfl (by show _ + 1≤_;omega) ?_
  refine gF trivial rfl rfl rfl rfl rfl ?_
  refine gT trivial rfl rfl rfl rfl rfl rfl rfl rfl rfl rfl (Nat.le_of_ble_eq_true rfl) rfl ?_
  refine rg_nil nofun ?_
  refine vc_seq ?_
  refine vc_region hm ?_
  refine gL trivial rfl rfl rfl rfl rfl rfl rfl rfl ?_
  refine gZ (u':=9) trivial rfl rfl rfl rfl rfl rfl rfl rfl ?_
  refine gT trivial rfl rfl rfl rfl rfl rfl rfl rfl rfl rfl (Nat.le_of_ble_eq_true rfl) rfl ?_
  refine rg_nil nofun ?_
  refine vc_seq ?_
  refine vc_region hm ?_
  refine gR (u':=10) (out:=rSp []) trivial rfl rfl rfl rfl rfl rfl rfl rfl rfl rfl rfl rfl rfl rfl ?_
  refine gF trivial rfl rfl rfl rfl rfl ?_
  refine gL trivial rfl rfl rfl rfl rfl rfl rfl rfl ?_
  refine gAp (u':=11) trivial rfl rfl rfl rfl rfl rfl rfl rfl rfl rfl rfl rfl rfl (cp_len _) (cp_leaf _) (show (0 + a.d.length) * (16 + 1)≤140737488355328 by omega) (cp_eq _) (Nat.zero_add _) ?_
  refine gU trivial rfl rfl rfl rfl rfl rfl rfl rfl ?_
  refine gR (u':=12) (out:=rSp [⟨0,0⟩]) trivial rfl rfl rfl rfl rfl rfl rfl rfl rfl rfl rfl rfl rfl rfl ?_
  refine gAp (u':=13) trivial rfl rfl rfl rfl rfl rfl rfl rfl rfl rfl rfl rfl (by rw [rowL_len (n:=2) (fun _=>rfl)];rfl) (Nat.le_refl _) rfl (show (a.d.length + 1) * (16 + 1)≤140737488355328 by omega) (row_snoc (enc:=eSp) (x:=⟨0,0⟩)) (show _=(a.d ++ [⟨0,0⟩]:List Sp).length by rw [List.length_append];rfl) ?_
  refine gF trivial rfl rfl rfl rfl rfl ?_
  refine gT trivial rfl rfl rfl rfl rfl rfl rfl rfl rfl rfl (Nat.le_of_ble_eq_true rfl) rfl ?_
  refine rg_nil nofun ?_
  refine vc_seq ?_
  refine vc_region hm ?_
  refine gL trivial rfl rfl rfl rfl rfl rfl rfl rfl ?_
  refine gL trivial rfl rfl rfl rfl rfl rfl rfl rfl ?_
  refine gC0 [1,2,1,2] (impl_OwnSame_c (a:=a) (b:=(⟨a.t ++ ⟨#[46]⟩,a.h,a.d⟩:Ow)) (show a.h.length≤_ by omega) (show a.d.length≤_ by omega)) trivial rfl rfl rfl rfl ⟨rFlat (rSp_flat _) rfl (.inl rfl) rfl,rFlat (rSp_flat _) rfl (.inl rfl) rfl,rFlat (rSp_flat _) rfl (.inl rfl) rfl,rFlat (rSp_flat _) rfl (.inl rfl) rfl,trivial⟩ rfl rfl rfl rfl rfl ?_
  refine gN trivial rfl rfl rfl rfl ?_
  refine gM trivial (.inl rfl) rfl rfl rfl ?_
  refine gL ⟨_,_,rfl,rfl,(notF smO_t)⟩ rfl rfl rfl rfl rfl rfl rfl rfl ?_
  refine gL ⟨_,_,rfl,rfl,(notF smO_t)⟩ rfl rfl rfl rfl rfl rfl rfl rfl ?_
  refine gC0 [1,2,1,12] (impl_OwnSame_c (a:=a) (b:=(⟨a.t,a.h,a.d ++ [⟨0,0⟩]⟩:Ow)) (show a.h.length≤_ by omega) (show a.d.length≤_ by omega)) ⟨_,_,rfl,rfl,(notF smO_t)⟩ rfl rfl rfl rfl ⟨rFlat (rSp_flat _) rfl (.inl rfl) rfl,rFlat (rSp_flat _) rfl (.inl rfl) rfl,rFlat (rSp_flat _) rfl (.inl rfl) rfl,rFlat (rSp_flat _) rfl (.inl rfl) rfl,trivial⟩ rfl rfl rfl rfl rfl ?_
  refine gN ⟨_,_,rfl,rfl,(notF smO_t)⟩ rfl rfl rfl rfl ?_
  refine gPT trivial rfl rfl (notF smO_t) rfl rfl rfl ?_
  refine gM trivial (.inr rfl) rfl rfl rfl ?_
  refine rg_nil nofun ?_
  refine vc_ret ?_
  exact ⟨idm,ends0 (.inr rfl) rfl (eqB smO_d) rfl rfl rfl⟩
theorem FnOwnSame_walk {w:World} {v0:Value} {l0:List Int} {N0:Nam} {k0:Nat} (h0:CodeArg w v0 l0 N0 k0):Calls Try.prog 10 #[v0] w fun e w'=>e = .returned (.bool true)∧Below w.heap.size w w' :=
 law_done (FnOwnSame_c h0.2.2.1 h0.2.2.2) (ρ:=envL [N0]) (by simp only [List.map_cons,List.map_nil,code_r3 (ns:=[N0]) (b:=0) h0 rfl (of_blt rfl)]) ⟨code_at h0 rfl (of_blt rfl),trivial⟩
end Go.Proofs.Ythionnhbnfblcaa.A

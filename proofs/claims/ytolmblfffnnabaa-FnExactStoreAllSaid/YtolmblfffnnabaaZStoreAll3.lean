/- Part 3 of the proof of FnExactStoreAll: words, contracts of callees, plain lemmas. -/
import Derived.Test.YtolmblfffnnabaaZStoreAll2
set_option maxHeartbeats 8000000
set_option maxRecDepth 100000
set_option linter.unusedVariables false
set_option linter.unusedSimpArgs false
namespace Go.Proofs.Ytolmblfffnnabaa.A
open Go Go.RowKit
set_option maxHeartbeats 4000000
def mkL {α:Type} (f:Nat→α) (l:List α) (j:Nat):List α:=(List.range j).map f ++ l.drop j
def mkA {α:Type} (f:Nat→α) (n:Nat):List α:=(List.range n).map f
theorem mkL_0 {α:Type} {f:Nat→α} {l:List α}:mkL f l 0=l:=by simp [mkL]
theorem mkL_len {α:Type} {f:Nat→α} {l:List α} {j:Nat} (h:j≤l.length):(mkL f l j).length=l.length:=by simp [mkL];omega
theorem mkA_len {α:Type} {f:Nat→α} {n:Nat}:(mkA f n).length=n:=by simp [mkA]
theorem mkL_end {α:Type} {f:Nat→α} {l:List α} {j:Nat} (h:j≤l.length) (hj:¬ (j:Int)<l.length):mkL f l j=mkA f l.length:=by
 obtain rfl:j=l.length:=by omega
 simp [mkL,mkA]
theorem mkL_step {α:Type} {f:Nat→α} {l:List α} {j:Nat} {x:α} (hj:(j:Int)<l.length) (hx:x=f j):(mkL f l j).set (j:Int).toNat x=mkL f l (j + 1):=by
 have hj:j<l.length:=by omega
 subst hx
 unfold mkL
 rw [Int.toNat_natCast,List.set_append_right _ _ (by simp),List.length_map,List.length_range,Nat.sub_self,List.range_succ,List.map_append,List.append_assoc]
 congr 1
 rw [List.drop_eq_getElem_cons hj,List.set_cons_zero];rfl
theorem mkA_at {α:Type} [Inhabited α] {f:Nat→α} {n j:Nat} (hj:j<n):at_ (mkA f n) (j:Int)=f j:=by
 rw [← at_get (xs:=mkA f n) (i:=j) (by rw [mkA_len];exact hj)]
 simp [mkA]
abbrev fS (k:Int) (i:Nat):ByteArray:=markT (k + i)
abbrev fI (k:Int) (i:Nat):Int:=k + i
theorem kRq0 {xs:List Rq} {i:Int} (h0:0≤i) (h1:i<xs.length):0 + i.toNat * 6 + 0 + 1≤(rRq xs).length:=row_room (n:=6) (fun _=>rfl) (i:=i.toNat) (f:=0) (by omega) (by omega) (by decide)
theorem kRq1 {xs:List Rq} {i:Int} (h0:0≤i) (h1:i<xs.length):0 + i.toNat * 6 + 1 + 1≤(rRq xs).length:=row_room (n:=6) (fun _=>rfl) (i:=i.toNat) (f:=1) (by omega) (by omega) (by decide)
theorem kRq2 {xs:List Rq} {i:Int} (h0:0≤i) (h1:i<xs.length):0 + i.toNat * 6 + 2 + 1≤(rRq xs).length:=row_room (n:=6) (fun _=>rfl) (i:=i.toNat) (f:=2) (by omega) (by omega) (by decide)
theorem kRq3 {xs:List Rq} {i:Int} (h0:0≤i) (h1:i<xs.length):0 + i.toNat * 6 + 3 + 1≤(rRq xs).length:=row_room (n:=6) (fun _=>rfl) (i:=i.toNat) (f:=3) (by omega) (by omega) (by decide)
theorem kRq4 {xs:List Rq} {i:Int} (h0:0≤i) (h1:i<xs.length):0 + i.toNat * 6 + 4 + 1≤(rRq xs).length:=row_room (n:=6) (fun _=>rfl) (i:=i.toNat) (f:=4) (by omega) (by omega) (by decide)
theorem kRq5 {xs:List Rq} {i:Int} (h0:0≤i) (h1:i<xs.length):0 + i.toNat * 6 + 5 + 1≤(rRq xs).length:=row_room (n:=6) (fun _=>rfl) (i:=i.toNat) (f:=5) (by omega) (by omega) (by decide)
theorem sRq0 {xs:List Rq} {i v:Int} (h0:0≤i) (h1:i<xs.length):putL (rRq xs) (0 + i.toNat * 6 + 0) (cellsL (.int .i64 v))=rRq (xs.set i.toNat { at_ xs i with who:=v }):=row_fld (n:=6) (fun _=>rfl) (f:=0) (by omega) (by omega) (by decide) (by rw [at_nat h0 h1];rfl) rfl
theorem sRq1 {xs:List Rq} {i v:Int} (h0:0≤i) (h1:i<xs.length):putL (rRq xs) (0 + i.toNat * 6 + 1) (cellsL (.int .i64 v))=rRq (xs.set i.toNat { at_ xs i with ep:=v }):=row_fld (n:=6) (fun _=>rfl) (f:=1) (by omega) (by omega) (by decide) (by rw [at_nat h0 h1];rfl) rfl
theorem sRq2 {xs:List Rq} {i v:Int} (h0:0≤i) (h1:i<xs.length):putL (rRq xs) (0 + i.toNat * 6 + 2) (cellsL (.int .i64 v))=rRq (xs.set i.toNat { at_ xs i with num:=v }):=row_fld (n:=6) (fun _=>rfl) (f:=2) (by omega) (by omega) (by decide) (by rw [at_nat h0 h1];rfl) rfl
theorem sRq3 {xs:List Rq} {i v:Int} (h0:0≤i) (h1:i<xs.length):putL (rRq xs) (0 + i.toNat * 6 + 3) (cellsL (.int .i64 v))=rRq (xs.set i.toNat { at_ xs i with obj:=v }):=row_fld (n:=6) (fun _=>rfl) (f:=3) (by omega) (by omega) (by decide) (by rw [at_nat h0 h1];rfl) rfl
theorem sRq4 {xs:List Rq} {i v:Int} (h0:0≤i) (h1:i<xs.length):putL (rRq xs) (0 + i.toNat * 6 + 4) (cellsL (.int .i64 v))=rRq (xs.set i.toNat { at_ xs i with a:=v }):=row_fld (n:=6) (fun _=>rfl) (f:=4) (by omega) (by omega) (by decide) (by rw [at_nat h0 h1];rfl) rfl
theorem sRq5 {xs:List Rq} {i:Int} {v:ByteArray} (h0:0≤i) (h1:i<xs.length):putL (rRq xs) (0 + i.toNat * 6 + 5) (cellsL (.string v))=rRq (xs.set i.toNat { at_ xs i with d:=v }):=row_fld (n:=6) (fun _=>rfl) (f:=5) (by omega) (by omega) (by decide) (by rw [at_nat h0 h1];rfl) rfl
def mk1 (k:Int) (s:Stv):Int:=k + s.now.length
def mk2 (k:Int) (s:Stv):Int:=mk1 k s + s.sure.length
def mk3 (k:Int) (s:Stv):Int:=mk2 k s + s.last.length
def mk4 (k:Int) (s:Stv):Int:=mk3 k s + s.slast.length
def mk5 (k:Int) (s:Stv):Int:=mk4 k s + s.fl.length
def markSt (k:Int) (s:Stv):Stv:=⟨mkA (fS k) s.now.length,mkA (fS (mk1 k s)) s.sure.length,mkA (fI (mk2 k s)) s.last.length,mkA (fI (mk3 k s)) s.slast.length,mkA (fI (mk4 k s)) s.fl.length⟩
theorem hoN {h:Nat→Option (Bool × Fam)} {m:Nat→Nat}:∀ x ∈ ([]:List (Nat × Fam)),Owned h (m x.1):=fun x hx=>nomatch hx
theorem hoC {h:Nat→Option (Bool × Fam)} {m:Nat→Nat} {b:Nat} {F:Fam} {l:List (Nat × Fam)} (h1:Owned h (m b)) (h2:∀ x ∈ l,Owned h (m x.1)):∀ x ∈ (b,F) :: l,Owned h (m x.1):=fun x hx=>by
 rcases List.mem_cons.1 hx with rfl|hx
 ·exact h1
 ·exact h2 x hx
theorem huN {hl:List (Nat × Bool × Fam)}:∀ z ∈ ([]:List (Nat × Fam)),∃ F,hl.lookup z.1=some (true,F)∧∀ k,z.2 k ≠ none→F k ≠ none:=fun x hx=>nomatch hx
theorem huC {hl:List (Nat × Bool × Fam)} {b:Nat} {x y:Blk} {l:List (Nat × Fam)} (h:hl.lookup b=some (true,one y)) (h2:∀ z ∈ l,∃ F,hl.lookup z.1=some (true,F)∧∀ k,z.2 k ≠ none→F k ≠ none):∀ z ∈ (b,one x) :: l,∃ F,hl.lookup z.1=some (true,F)∧∀ k,z.2 k ≠ none→F k ≠ none:=fun z hz=>by
 rcases List.mem_cons.1 hz with rfl|hz
 ·refine ⟨_,h,fun k hk=>?_⟩
  by_cases e:k=0
  ·subst e;simp [one]
  ·simp [one,e] at hk
 ·exact h2 z hz
theorem markText_c {k:Int} (hk:k≤4294967296):FDoes Try.prog 71 [.int .i64 k] (hp []) { v:=.string (markT k) }:=by
 have hm:Try.prog.follows .mixedOrders=true:=by kernel_rfl
 have hd_:∀ x ∈ ([]:List (Nat × Bool × Fam)),∀ k y,x.2.2 k=some y→DetB (lt 0) y:=fun x_ hx=>(by cases hx)
 refine fn_exact (u0:=0) Try.func71 rfl rfl (gets rfl rfl rfl hd_ rfl) ?_
 clear hd_
 refine vc_seq ?_
 refine vc_region hm ?_
 refine gM trivial (.inr rfl) rfl rfl rfl ?_
 refine rg_nil nofun ?_
 refine vc_seq ?_
 refine vc_seq ?_
 refine vc_region hm ?_
 refine gM trivial (.inl rfl) rfl rfl rfl ?_
 refine gI trivial rfl rfl rfl rfl rfl rfl ?_
 refine rg_nil nofun ?_
 refine cI rfl (fun c5=>?_) (fun c5=>?_)
 ·skip
  have p5:=of_decide_eq_true c5
  refine vc_seq ?_
  refine vc_region hm ?_
  refine gM trivial (.inr rfl) rfl rfl rfl ?_
  refine rg_nil nofun ?_
  refine vc_ret ?_
  exact ⟨idm,ends0 (.inr rfl) rfl (eqT (mt_neg p5)) rfl rfl rfl⟩
 ·skip
  have p5:=of_decide_eq_false c5
  refine vc_skip ?_
  refine vc_seq ?_
  refine vc_region hm ?_
  refine gM trivial (.inr rfl) rfl rfl rfl ?_
  refine rg_nil nofun ?_
  refine vc_seq ?_
  refine vc_block ?_
  refine vc_loop' (fun n_ S_=>∃ (n:Nat) (q:Int) (x:ByteArray),0≤q∧q≤4294967296∧q<2 ^ n∧digT n q x=digT 64 k ⟨#[]⟩∧x.size + n≤64∧n_=n + 1∧S_=⟨0,[(0,.int .i64 q),(3,.string x)],[]⟩) (m0:=idm) ⟨64,k,⟨#[]⟩,(by omega),(by omega),(by omega),rfl,(by decide),rfl,rfl⟩ (le_mk rfl ⟨⟨rfl,rfl⟩,⟨rfl,rfl⟩,trivial⟩ trivial rfl (fun _ _=>rfl)) ?_
  rintro n_ S_ ⟨n,q,x,hq,hq3,hq2,hx,hs,rfl,rfl⟩
  refine vc_seq ?_
  refine vc_seq ?_
  refine vc_region hm ?_
  refine gM trivial (.inl rfl) rfl rfl rfl ?_
  refine gI trivial rfl rfl rfl rfl rfl rfl ?_
  refine rg_nil nofun ?_
  refine cI rfl (fun c7=>?_) (fun c7=>?_)
  ·skip
   have p7:=of_decide_eq_true c7
   refine vc_skip ?_
   refine vc_block ?_
   refine vc_seq ?_
   refine vc_region hm ?_
   refine gM trivial (.inl rfl) rfl rfl rfl ?_
   refine gRem trivial rfl rfl rfl rfl rfl (by decide) ?_
   refine gA trivial rfl rfl rfl rfl rfl rfl (dig_rem hq) ?_
   refine gCv trivial rfl rfl rfl rfl rfl rfl ?_
   refine gR (u':=1) (out:=rY [IntKind.u8.wrap (48 + q.tmod 10)]) trivial rfl rfl rfl rfl rfl rfl rfl rfl rfl rfl rfl rfl rfl rfl ?_
   refine gBT trivial rfl rfl rfl rfl rfl rfl rfl rfl (by first|rfl|exact rfl) rfl ?_
   refine gM trivial (.inl rfl) rfl rfl rfl ?_
   refine gCat trivial rfl rfl rfl rfl rfl (dig_cat hs) ?_
   refine gM trivial (.inr rfl) rfl rfl rfl ?_
   refine rg_nil nofun ?_
   refine vc_region hm ?_
   refine gM trivial (.inl rfl) rfl rfl rfl ?_
   refine gQuo trivial rfl rfl rfl rfl rfl (by decide) rfl (dig_range hq hq3) ?_
   refine gM trivial (.inr rfl) rfl rfl rfl ?_
   refine rg_nil nofun ?_
   have hn0:n ≠ 0:=fun e=>by subst e;simp at hq2;omega
   obtain ⟨n',rfl⟩:=Nat.exists_eq_succ_of_ne_zero hn0
   exact lp_next (m:=idm) ⟨n',(q.tdiv 10),(bytesS [IntKind.u8.wrap (48 + q.tmod 10)] ++ x),(Int.tdiv_nonneg hq (by decide)),(dig_le hq hq3),(dig_lt hq hq2),(by rw [← hx];exact (dig_step p7).symm),(dig_size hs),rfl,rfl⟩ (by omega) (le_mk rfl ⟨⟨rfl,rfl⟩,⟨rfl,rfl⟩,trivial⟩ trivial rfl (fun _ _=>rfl))
  ·skip
   have p7:=of_decide_eq_false c7
   refine vc_exit ?_
   refine vc_seq ?_
   refine vc_region hm ?_
   refine gM trivial (.inl rfl) rfl rfl rfl ?_
   refine gCat trivial rfl rfl rfl rfl rfl (dig_cat2 hs (by decide)) ?_
   refine gM trivial (.inr rfl) rfl rfl rfl ?_
   refine rg_nil nofun ?_
   refine vc_ret ?_
   exact ⟨idm,ends0 (.inr rfl) rfl (eqT (mt_pos p5 hx p7)) rfl rfl rfl⟩
theorem markS_101 {l:List ByteArray} {k:Int} (hn:l.length≤1048576) (hk:0≤k) (hk2:k≤1073741824):FDoes Try.prog 46 [.slice (some ⟨0,0,none⟩) l.length 0,.int .i64 k] (hp [(0,true,one ⟨rS l,9,101⟩)]) (mkE (.int .i64 (k + l.length)) [] [(0,⟨rS (mkA (fS k) l.length),9,101⟩)] []):=by
 have hm:Try.prog.follows .mixedOrders=true:=by kernel_rfl
 have hd_:∀ x_ ∈ ([(0,true,one ⟨rS l,9,101⟩)]:List (Nat × Bool × Fam)),∀ k_ y_,x_.2.2 k_=some y_→DetB (lt 1) y_:=by
  intro x_ hx k_ y_ e
  simp only [List.mem_cons,List.not_mem_nil,or_false] at hx
  subst hx
  exact det_row (rS_flat l) e
 refine fn_exact (u0:=1) Try.func46 rfl rfl (gets rfl rfl rfl hd_ rfl) ?_
 clear hd_
 refine vc_seq ?_
 refine vc_region hm ?_
 refine gM trivial (.inr rfl) rfl rfl rfl ?_
 refine rg_nil nofun ?_
 refine vc_seq ?_
 refine vc_seq ?_
 refine vc_region hm ?_
 refine gM trivial (.inr rfl) rfl rfl rfl ?_
 refine rg_nil nofun ?_
 refine vc_block ?_
 refine vc_loop' (fun n_ S_=>∃ (j:Nat),j≤l.length∧n_=l.length - j∧S_=⟨1,[(0,.slice (some ⟨0,0,none⟩) l.length 0),(1,.int .i64 (k + j)),(5,.int .i64 j)],[(0,true,one ⟨rS (mkL (fS k) l j),9,101⟩)]⟩) (m0:=idm) ⟨0,Nat.zero_le _,rfl,rfl⟩ (le_mk rfl ⟨⟨rfl,rfl⟩,⟨eqI (by omega),rfl⟩,⟨rfl,rfl⟩,trivial⟩ ⟨kFlat (rS_flat _) (eqH (congrArg _ mkL_0.symm)) id rfl,trivial⟩ rfl (fun _ _=>rfl)) ?_
 rintro n_ S_ ⟨j,hj,rfl,rfl⟩
 refine vc_seq ?_
 refine vc_seq ?_
 refine vc_region hm ?_
 refine gM trivial (.inl rfl) rfl rfl rfl ?_
 refine gM trivial (.inl rfl) rfl rfl rfl ?_
 refine gK trivial rfl rfl rfl rfl rfl rfl (fun h=>by have:=rS_nil h;rw [mkL_len (by omega)] at this;exact this) ?_
 refine gI trivial rfl rfl rfl rfl rfl rfl ?_
 refine rg_nil nofun ?_
 refine cI rfl (fun c9=>?_) (fun c9=>?_)
 ·skip
  have p9:=of_decide_eq_true c9
  refine vc_skip ?_
  refine vc_seq ?_
  refine vc_block ?_
  refine vc_seq ?_
  refine vc_region hm ?_
  refine gM trivial (.inl rfl) rfl rfl rfl ?_
  refine gM trivial (.inl rfl) rfl rfl rfl ?_
  refine gM trivial (.inl rfl) rfl rfl rfl ?_
  refine gC0 [] (markText_c (k:=k + j) (by omega)) trivial rfl rfl rfl rfl (by trivial) rfl rfl rfl rfl rfl ?_
  refine gX trivial rfl rfl rfl rfl rfl rfl rfl rfl (by omega) p9 (fun h=>rS_ne (by rw [mkL_len (by omega)];exact h)) ?_
  refine gT trivial rfl rfl rfl rfl rfl rfl rfl rfl rfl rfl (kS (by omega) (by rw [mkL_len (by omega)];omega)) (sS (by omega) (by rw [mkL_len (by omega)];omega)) ?_
  refine rg_nil nofun ?_
  refine vc_region hm ?_
  refine gM trivial (.inl rfl) rfl rfl rfl ?_
  refine gA trivial rfl rfl rfl rfl rfl rfl (by omega) ?_
  refine gM trivial (.inr rfl) rfl rfl rfl ?_
  refine rg_nil nofun ?_
  refine vc_region hm ?_
  refine gM trivial (.inl rfl) rfl rfl rfl ?_
  refine gA trivial rfl rfl rfl rfl rfl rfl (by omega) ?_
  refine gM trivial (.inr rfl) rfl rfl rfl ?_
  refine rg_nil nofun ?_
  exact lp_next (m:=idm) ⟨j + 1,(by omega),rfl,rfl⟩ (by omega) (le_mk rfl ⟨⟨rfl,rfl⟩,⟨eqI (by omega),rfl⟩,⟨rfl,rfl⟩,trivial⟩ ⟨kFlat (rS_flat _) (eqH (congrArg _ (mkL_step p9 rfl))) id rfl,trivial⟩ rfl (fun _ _=>rfl))
 ·skip
  have p9:=of_decide_eq_false c9
  refine vc_exit ?_
  refine vc_seq ?_
  refine vc_region hm ?_
  refine gM trivial (.inl rfl) rfl rfl rfl ?_
  refine gM trivial (.inr rfl) rfl rfl rfl ?_
  refine rg_nil nofun ?_
  refine vc_ret ?_
  rw [mkL_end hj p9]
  exact ⟨_,endsG [] (.inr rfl) (.tmp rfl (show plainV (.int .i64 _)=true from rfl) .nil) (by rw [show j=l.length by omega];rfl) rfl ⟨⟨⟨_,rfl⟩,⟨_,rfl⟩,rS_flat _⟩,trivial⟩ trivial rfl⟩
theorem markS_1 {l:List ByteArray} {k:Int} (hn:l.length≤1048576) (hk:0≤k) (hk2:k≤1073741824):FDoes Try.prog 46 [.slice (some ⟨0,0,none⟩) l.length 0,.int .i64 k] (hp [(0,true,one ⟨rS l,9,1⟩)]) (mkE (.int .i64 (k + l.length)) [] [(0,⟨rS (mkA (fS k) l.length),9,1⟩)] []):=by
 have hm:Try.prog.follows .mixedOrders=true:=by kernel_rfl
 have hd_:∀ x_ ∈ ([(0,true,one ⟨rS l,9,1⟩)]:List (Nat × Bool × Fam)),∀ k_ y_,x_.2.2 k_=some y_→DetB (lt 1) y_:=by
  intro x_ hx k_ y_ e
  simp only [List.mem_cons,List.not_mem_nil,or_false] at hx
  subst hx
  exact det_row (rS_flat l) e
 refine fn_exact (u0:=1) Try.func46 rfl rfl (gets rfl rfl rfl hd_ rfl) ?_
 clear hd_
 refine vc_seq ?_
 refine vc_region hm ?_
 refine gM trivial (.inr rfl) rfl rfl rfl ?_
 refine rg_nil nofun ?_
 refine vc_seq ?_
 refine vc_seq ?_
 refine vc_region hm ?_
 refine gM trivial (.inr rfl) rfl rfl rfl ?_
 refine rg_nil nofun ?_
 refine vc_block ?_
 refine vc_loop' (fun n_ S_=>∃ (j:Nat),j≤l.length∧n_=l.length - j∧S_=⟨1,[(0,.slice (some ⟨0,0,none⟩) l.length 0),(1,.int .i64 (k + j)),(5,.int .i64 j)],[(0,true,one ⟨rS (mkL (fS k) l j),9,1⟩)]⟩) (m0:=idm) ⟨0,Nat.zero_le _,rfl,rfl⟩ (le_mk rfl ⟨⟨rfl,rfl⟩,⟨eqI (by omega),rfl⟩,⟨rfl,rfl⟩,trivial⟩ ⟨kFlat (rS_flat _) (eqH (congrArg _ mkL_0.symm)) id rfl,trivial⟩ rfl (fun _ _=>rfl)) ?_
 rintro n_ S_ ⟨j,hj,rfl,rfl⟩
 refine vc_seq ?_
 refine vc_seq ?_
 refine vc_region hm ?_
 refine gM trivial (.inl rfl) rfl rfl rfl ?_
 refine gM trivial (.inl rfl) rfl rfl rfl ?_
 refine gK trivial rfl rfl rfl rfl rfl rfl (fun h=>by have:=rS_nil h;rw [mkL_len (by omega)] at this;exact this) ?_
 refine gI trivial rfl rfl rfl rfl rfl rfl ?_
 refine rg_nil nofun ?_
 refine cI rfl (fun c9=>?_) (fun c9=>?_)
 ·skip
  have p9:=of_decide_eq_true c9
  refine vc_skip ?_
  refine vc_seq ?_
  refine vc_block ?_
  refine vc_seq ?_
  refine vc_region hm ?_
  refine gM trivial (.inl rfl) rfl rfl rfl ?_
  refine gM trivial (.inl rfl) rfl rfl rfl ?_
  refine gM trivial (.inl rfl) rfl rfl rfl ?_
  refine gC0 [] (markText_c (k:=k + j) (by omega)) trivial rfl rfl rfl rfl (by trivial) rfl rfl rfl rfl rfl ?_
  refine gX trivial rfl rfl rfl rfl rfl rfl rfl rfl (by omega) p9 (fun h=>rS_ne (by rw [mkL_len (by omega)];exact h)) ?_
  refine gT trivial rfl rfl rfl rfl rfl rfl rfl rfl rfl rfl (kS (by omega) (by rw [mkL_len (by omega)];omega)) (sS (by omega) (by rw [mkL_len (by omega)];omega)) ?_
  refine rg_nil nofun ?_
  refine vc_region hm ?_
  refine gM trivial (.inl rfl) rfl rfl rfl ?_
  refine gA trivial rfl rfl rfl rfl rfl rfl (by omega) ?_
  refine gM trivial (.inr rfl) rfl rfl rfl ?_
  refine rg_nil nofun ?_
  refine vc_region hm ?_
  refine gM trivial (.inl rfl) rfl rfl rfl ?_
  refine gA trivial rfl rfl rfl rfl rfl rfl (by omega) ?_
  refine gM trivial (.inr rfl) rfl rfl rfl ?_
  refine rg_nil nofun ?_
  exact lp_next (m:=idm) ⟨j + 1,(by omega),rfl,rfl⟩ (by omega) (le_mk rfl ⟨⟨rfl,rfl⟩,⟨eqI (by omega),rfl⟩,⟨rfl,rfl⟩,trivial⟩ ⟨kFlat (rS_flat _) (eqH (congrArg _ (mkL_step p9 rfl))) id rfl,trivial⟩ rfl (fun _ _=>rfl))
 ·skip
  have p9:=of_decide_eq_false c9
  refine vc_exit ?_
  refine vc_seq ?_
  refine vc_region hm ?_
  refine gM trivial (.inl rfl) rfl rfl rfl ?_
  refine gM trivial (.inr rfl) rfl rfl rfl ?_
  refine rg_nil nofun ?_
  refine vc_ret ?_
  rw [mkL_end hj p9]
  exact ⟨_,endsG [] (.inr rfl) (.tmp rfl (show plainV (.int .i64 _)=true from rfl) .nil) (by rw [show j=l.length by omega];rfl) rfl ⟨⟨⟨_,rfl⟩,⟨_,rfl⟩,rS_flat _⟩,trivial⟩ trivial rfl⟩
theorem heldS_c {n:Nat} {k:Int} (hn:n≤1048576) (hk:0≤k) (hk2:k≤1073741824):FDoes Try.prog 47 [.slice (some ⟨0,0,none⟩) n 0,.int .i64 k] (hp [(0,false,one ⟨rS (mkA (fS k) n),9,0⟩)]) { v:=.int .i64 (k + n),rd:=[0] }:=by
 have hm:Try.prog.follows .mixedOrders=true:=by kernel_rfl
 have hd_:∀ x_ ∈ ([(0,false,one ⟨rS (mkA (fS k) n),9,0⟩)]:List (Nat × Bool × Fam)),∀ k_ y_,x_.2.2 k_=some y_→DetB (lt 1) y_:=by
  intro x_ hx k_ y_ e
  simp only [List.mem_cons,List.not_mem_nil,or_false] at hx
  subst hx
  exact det_row (rS_flat _) e
 refine fn_exact (u0:=1) Try.func47 rfl rfl (gets rfl rfl rfl hd_ rfl) ?_
 clear hd_
 refine vc_seq ?_
 refine vc_region hm ?_
 refine gM trivial (.inr rfl) rfl rfl rfl ?_
 refine rg_nil nofun ?_
 refine vc_seq ?_
 refine vc_seq ?_
 refine vc_region hm ?_
 refine gM trivial (.inr rfl) rfl rfl rfl ?_
 refine rg_nil nofun ?_
 refine vc_block ?_
 refine vc_loop' (fun n_ S_=>∃ (j:Nat),j≤n∧n_=n - j∧S_=⟨1,[(0,.slice (some ⟨0,0,none⟩) n 0),(1,.int .i64 (k + j)),(5,.int .i64 j)],[(0,false,one ⟨rS (mkA (fS k) n),9,0⟩)]⟩) (m0:=idm) ⟨0,Nat.zero_le _,rfl,rfl⟩ (le_mk rfl ⟨⟨rfl,rfl⟩,⟨eqI (by omega),rfl⟩,⟨rfl,rfl⟩,trivial⟩ ⟨kFlat (rS_flat _) rfl id rfl,trivial⟩ rfl (fun _ _=>rfl)) ?_
 rintro n_ S_ ⟨j,hj,rfl,rfl⟩
 refine vc_seq ?_
 refine vc_seq ?_
 refine vc_region hm ?_
 refine gM trivial (.inl rfl) rfl rfl rfl ?_
 refine gM trivial (.inl rfl) rfl rfl rfl ?_
 refine gK trivial rfl rfl rfl rfl rfl rfl (fun h=>by have:=rS_nil h;rw [mkA_len] at this;exact this) ?_
 refine gI trivial rfl rfl rfl rfl rfl rfl ?_
 refine rg_nil nofun ?_
 refine cI rfl (fun c9=>?_) (fun c9=>?_)
 ·skip
  have p9:=of_decide_eq_true c9
  refine vc_skip ?_
  refine vc_seq ?_
  refine vc_block ?_
  refine vc_seq ?_
  refine vc_seq ?_
  refine vc_region hm ?_
  refine gM trivial (.inl rfl) rfl rfl rfl ?_
  refine gM trivial (.inl rfl) rfl rfl rfl ?_
  refine gX trivial rfl rfl rfl rfl rfl rfl rfl rfl (by omega) p9 (fun h=>rS_ne (by rw [mkA_len];exact h)) ?_
  refine gL trivial rfl rfl rfl rfl rfl rfl rfl (lS (by omega) (by rw [mkA_len];exact p9)) ?_
  refine gM trivial (.inl rfl) rfl rfl rfl ?_
  refine gC0 [] (markText_c (k:=k + j) (by omega)) trivial rfl rfl rfl rfl (by trivial) rfl rfl rfl rfl rfl ?_
  refine gS trivial rfl rfl rfl rfl rfl rfl ?_
  refine rg_nil (fun _=>by kernel_rfl) ?_
  refine cF rfl (by rw [mkA_at (by omega)];exact nselfT _) ?_
  refine vc_skip ?_
  refine vc_region hm ?_
  refine gM trivial (.inl rfl) rfl rfl rfl ?_
  refine gA trivial rfl rfl rfl rfl rfl rfl (by omega) ?_
  refine gM trivial (.inr rfl) rfl rfl rfl ?_
  refine rg_nil nofun ?_
  refine vc_region hm ?_
  refine gM trivial (.inl rfl) rfl rfl rfl ?_
  refine gA trivial rfl rfl rfl rfl rfl rfl (by omega) ?_
  refine gM trivial (.inr rfl) rfl rfl rfl ?_
  refine rg_nil nofun ?_
  exact lp_next (m:=idm) ⟨j + 1,(by omega),rfl,rfl⟩ (by omega) (le_mk rfl ⟨⟨rfl,rfl⟩,⟨eqI (by omega),rfl⟩,⟨rfl,rfl⟩,trivial⟩ ⟨kFlat (rS_flat _) rfl id rfl,trivial⟩ rfl (fun _ _=>rfl))
 ·skip
  have p9:=of_decide_eq_false c9
  refine vc_exit ?_
  refine vc_seq ?_
  refine vc_region hm ?_
  refine gM trivial (.inl rfl) rfl rfl rfl ?_
  refine gM trivial (.inr rfl) rfl rfl rfl ?_
  refine rg_nil nofun ?_
  refine vc_ret ?_
  exact ⟨idm,ends0 (.inr rfl) rfl (eqI (by omega)) rfl rfl rfl⟩
theorem markI_101 {l:List Int} {k:Int} (hn:l.length≤1048576) (hk:0≤k) (hk2:k≤1073741824):FDoes Try.prog 39 [.slice (some ⟨0,0,none⟩) l.length 0,.int .i64 k] (hp [(0,true,one ⟨rI l,3,101⟩)]) (mkE (.int .i64 (k + l.length)) [] [(0,⟨rI (mkA (fI k) l.length),3,101⟩)] []):=by
 have hm:Try.prog.follows .mixedOrders=true:=by kernel_rfl
 have hd_:∀ x_ ∈ ([(0,true,one ⟨rI l,3,101⟩)]:List (Nat × Bool × Fam)),∀ k_ y_,x_.2.2 k_=some y_→DetB (lt 1) y_:=by
  intro x_ hx k_ y_ e
  simp only [List.mem_cons,List.not_mem_nil,or_false] at hx
  subst hx
  exact det_row (rI_flat l) e
 refine fn_exact (u0:=1) Try.func39 rfl rfl (gets rfl rfl rfl hd_ rfl) ?_
 clear hd_
 refine vc_seq ?_
 refine vc_region hm ?_
 refine gM trivial (.inr rfl) rfl rfl rfl ?_
 refine rg_nil nofun ?_
 refine vc_seq ?_
 refine vc_seq ?_
 refine vc_region hm ?_
 refine gM trivial (.inr rfl) rfl rfl rfl ?_
 refine rg_nil nofun ?_
 refine vc_block ?_
 refine vc_loop' (fun n_ S_=>∃ (j:Nat),j≤l.length∧n_=l.length - j∧S_=⟨1,[(0,.slice (some ⟨0,0,none⟩) l.length 0),(1,.int .i64 (k + j)),(5,.int .i64 j)],[(0,true,one ⟨rI (mkL (fI k) l j),3,101⟩)]⟩) (m0:=idm) ⟨0,Nat.zero_le _,rfl,rfl⟩ (le_mk rfl ⟨⟨rfl,rfl⟩,⟨eqI (by omega),rfl⟩,⟨rfl,rfl⟩,trivial⟩ ⟨kFlat (rI_flat _) (eqH (congrArg _ mkL_0.symm)) id rfl,trivial⟩ rfl (fun _ _=>rfl)) ?_
 rintro n_ S_ ⟨j,hj,rfl,rfl⟩
 refine vc_seq ?_
 refine vc_seq ?_
 refine vc_region hm ?_
 refine gM trivial (.inl rfl) rfl rfl rfl ?_
 refine gM trivial (.inl rfl) rfl rfl rfl ?_
 refine gK trivial rfl rfl rfl rfl rfl rfl (fun h=>by have:=rI_nil h;rw [mkL_len (by omega)] at this;exact this) ?_
 refine gI trivial rfl rfl rfl rfl rfl rfl ?_
 refine rg_nil nofun ?_
 refine cI rfl (fun c9=>?_) (fun c9=>?_)
 ·skip
  have p9:=of_decide_eq_true c9
  refine vc_skip ?_
  refine vc_seq ?_
  refine vc_block ?_
  refine vc_seq ?_
  refine vc_region hm ?_
  refine gM trivial (.inl rfl) rfl rfl rfl ?_
  refine gM trivial (.inl rfl) rfl rfl rfl ?_
  refine gM trivial (.inl rfl) rfl rfl rfl ?_
  refine gX trivial rfl rfl rfl rfl rfl rfl rfl rfl (by omega) p9 (fun h=>rI_ne (by rw [mkL_len (by omega)];exact h)) ?_
  refine gT trivial rfl rfl rfl rfl rfl rfl rfl rfl rfl rfl (kI (by omega) (by rw [mkL_len (by omega)];omega)) (sI (by omega) (by rw [mkL_len (by omega)];omega)) ?_
  refine rg_nil nofun ?_
  refine vc_region hm ?_
  refine gM trivial (.inl rfl) rfl rfl rfl ?_
  refine gA trivial rfl rfl rfl rfl rfl rfl (by omega) ?_
  refine gM trivial (.inr rfl) rfl rfl rfl ?_
  refine rg_nil nofun ?_
  refine vc_region hm ?_
  refine gM trivial (.inl rfl) rfl rfl rfl ?_
  refine gA trivial rfl rfl rfl rfl rfl rfl (by omega) ?_
  refine gM trivial (.inr rfl) rfl rfl rfl ?_
  refine rg_nil nofun ?_
  exact lp_next (m:=idm) ⟨j + 1,(by omega),rfl,rfl⟩ (by omega) (le_mk rfl ⟨⟨rfl,rfl⟩,⟨eqI (by omega),rfl⟩,⟨rfl,rfl⟩,trivial⟩ ⟨kFlat (rI_flat _) (eqH (congrArg _ (mkL_step p9 rfl))) id rfl,trivial⟩ rfl (fun _ _=>rfl))
 ·skip
  have p9:=of_decide_eq_false c9
  refine vc_exit ?_
  refine vc_seq ?_
  refine vc_region hm ?_
  refine gM trivial (.inl rfl) rfl rfl rfl ?_
  refine gM trivial (.inr rfl) rfl rfl rfl ?_
  refine rg_nil nofun ?_
  refine vc_ret ?_
  rw [mkL_end hj p9]
  exact ⟨_,endsG [] (.inr rfl) (.tmp rfl (show plainV (.int .i64 _)=true from rfl) .nil) (by rw [show j=l.length by omega];rfl) rfl ⟨⟨⟨_,rfl⟩,⟨_,rfl⟩,rI_flat _⟩,trivial⟩ trivial rfl⟩
theorem markI_1 {l:List Int} {k:Int} (hn:l.length≤1048576) (hk:0≤k) (hk2:k≤1073741824):FDoes Try.prog 39 [.slice (some ⟨0,0,none⟩) l.length 0,.int .i64 k] (hp [(0,true,one ⟨rI l,3,1⟩)]) (mkE (.int .i64 (k + l.length)) [] [(0,⟨rI (mkA (fI k) l.length),3,1⟩)] []):=by
 have hm:Try.prog.follows .mixedOrders=true:=by kernel_rfl
 have hd_:∀ x_ ∈ ([(0,true,one ⟨rI l,3,1⟩)]:List (Nat × Bool × Fam)),∀ k_ y_,x_.2.2 k_=some y_→DetB (lt 1) y_:=by
  intro x_ hx k_ y_ e
  simp only [List.mem_cons,List.not_mem_nil,or_false] at hx
  subst hx
  exact det_row (rI_flat l) e
 refine fn_exact (u0:=1) Try.func39 rfl rfl (gets rfl rfl rfl hd_ rfl) ?_
 clear hd_
 refine vc_seq ?_
 refine vc_region hm ?_
 refine gM trivial (.inr rfl) rfl rfl rfl ?_
 refine rg_nil nofun ?_
 refine vc_seq ?_
 refine vc_seq ?_
 refine vc_region hm ?_
 refine gM trivial (.inr rfl) rfl rfl rfl ?_
 refine rg_nil nofun ?_
 refine vc_block ?_
 refine vc_loop' (fun n_ S_=>∃ (j:Nat),j≤l.length∧n_=l.length - j∧S_=⟨1,[(0,.slice (some ⟨0,0,none⟩) l.length 0),(1,.int .i64 (k + j)),(5,.int .i64 j)],[(0,true,one ⟨rI (mkL (fI k) l j),3,1⟩)]⟩) (m0:=idm) ⟨0,Nat.zero_le _,rfl,rfl⟩ (le_mk rfl ⟨⟨rfl,rfl⟩,⟨eqI (by omega),rfl⟩,⟨rfl,rfl⟩,trivial⟩ ⟨kFlat (rI_flat _) (eqH (congrArg _ mkL_0.symm)) id rfl,trivial⟩ rfl (fun _ _=>rfl)) ?_
 rintro n_ S_ ⟨j,hj,rfl,rfl⟩
 refine vc_seq ?_
 refine vc_seq ?_
 refine vc_region hm ?_
 refine gM trivial (.inl rfl) rfl rfl rfl ?_
 refine gM trivial (.inl rfl) rfl rfl rfl ?_
 refine gK trivial rfl rfl rfl rfl rfl rfl (fun h=>by have:=rI_nil h;rw [mkL_len (by omega)] at this;exact this) ?_
 refine gI trivial rfl rfl rfl rfl rfl rfl ?_
 refine rg_nil nofun ?_
 refine cI rfl (fun c9=>?_) (fun c9=>?_)
 ·skip
  have p9:=of_decide_eq_true c9
  refine vc_skip ?_
  refine vc_seq ?_
  refine vc_block ?_
  refine vc_seq ?_
  refine vc_region hm ?_
  refine gM trivial (.inl rfl) rfl rfl rfl ?_
  refine gM trivial (.inl rfl) rfl rfl rfl ?_
  refine gM trivial (.inl rfl) rfl rfl rfl ?_
  refine gX trivial rfl rfl rfl rfl rfl rfl rfl rfl (by omega) p9 (fun h=>rI_ne (by rw [mkL_len (by omega)];exact h)) ?_
  refine gT trivial rfl rfl rfl rfl rfl rfl rfl rfl rfl rfl (kI (by omega) (by rw [mkL_len (by omega)];omega)) (sI (by omega) (by rw [mkL_len (by omega)];omega)) ?_
  refine rg_nil nofun ?_
  refine vc_region hm ?_
  refine gM trivial (.inl rfl) rfl rfl rfl ?_
  refine gA trivial rfl rfl rfl rfl rfl rfl (by omega) ?_
  refine gM trivial (.inr rfl) rfl rfl rfl ?_
  refine rg_nil nofun ?_
  refine vc_region hm ?_
  refine gM trivial (.inl rfl) rfl rfl rfl ?_
  refine gA trivial rfl rfl rfl rfl rfl rfl (by omega) ?_
  refine gM trivial (.inr rfl) rfl rfl rfl ?_
  refine rg_nil nofun ?_
  exact lp_next (m:=idm) ⟨j + 1,(by omega),rfl,rfl⟩ (by omega) (le_mk rfl ⟨⟨rfl,rfl⟩,⟨eqI (by omega),rfl⟩,⟨rfl,rfl⟩,trivial⟩ ⟨kFlat (rI_flat _) (eqH (congrArg _ (mkL_step p9 rfl))) id rfl,trivial⟩ rfl (fun _ _=>rfl))
 ·skip
  have p9:=of_decide_eq_false c9
  refine vc_exit ?_
  refine vc_seq ?_
  refine vc_region hm ?_
  refine gM trivial (.inl rfl) rfl rfl rfl ?_
  refine gM trivial (.inr rfl) rfl rfl rfl ?_
  refine rg_nil nofun ?_
  refine vc_ret ?_
  rw [mkL_end hj p9]
  exact ⟨_,endsG [] (.inr rfl) (.tmp rfl (show plainV (.int .i64 _)=true from rfl) .nil) (by rw [show j=l.length by omega];rfl) rfl ⟨⟨⟨_,rfl⟩,⟨_,rfl⟩,rI_flat _⟩,trivial⟩ trivial rfl⟩
theorem heldI_c {n:Nat} {k:Int} (hn:n≤1048576) (hk:0≤k) (hk2:k≤1073741824):FDoes Try.prog 40 [.slice (some ⟨0,0,none⟩) n 0,.int .i64 k] (hp [(0,false,one ⟨rI (mkA (fI k) n),3,0⟩)]) { v:=.int .i64 (k + n),rd:=[0] }:=by
 have hm:Try.prog.follows .mixedOrders=true:=by kernel_rfl
 have hd_:∀ x_ ∈ ([(0,false,one ⟨rI (mkA (fI k) n),3,0⟩)]:List (Nat × Bool × Fam)),∀ k_ y_,x_.2.2 k_=some y_→DetB (lt 1) y_:=by
  intro x_ hx k_ y_ e
  simp only [List.mem_cons,List.not_mem_nil,or_false] at hx
  subst hx
  exact det_row (rI_flat _) e
 refine fn_exact (u0:=1) Try.func40 rfl rfl (gets rfl rfl rfl hd_ rfl) ?_
 clear hd_
 refine vc_seq ?_
 refine vc_region hm ?_
 refine gM trivial (.inr rfl) rfl rfl rfl ?_
 refine rg_nil nofun ?_
 refine vc_seq ?_
 refine vc_seq ?_
 refine vc_region hm ?_
 refine gM trivial (.inr rfl) rfl rfl rfl ?_
 refine rg_nil nofun ?_
 refine vc_block ?_
 refine vc_loop' (fun n_ S_=>∃ (j:Nat),j≤n∧n_=n - j∧S_=⟨1,[(0,.slice (some ⟨0,0,none⟩) n 0),(1,.int .i64 (k + j)),(5,.int .i64 j)],[(0,false,one ⟨rI (mkA (fI k) n),3,0⟩)]⟩) (m0:=idm) ⟨0,Nat.zero_le _,rfl,rfl⟩ (le_mk rfl ⟨⟨rfl,rfl⟩,⟨eqI (by omega),rfl⟩,⟨rfl,rfl⟩,trivial⟩ ⟨kFlat (rI_flat _) rfl id rfl,trivial⟩ rfl (fun _ _=>rfl)) ?_
 rintro n_ S_ ⟨j,hj,rfl,rfl⟩
 refine vc_seq ?_
 refine vc_seq ?_
 refine vc_region hm ?_
 refine gM trivial (.inl rfl) rfl rfl rfl ?_
 refine gM trivial (.inl rfl) rfl rfl rfl ?_
 refine gK trivial rfl rfl rfl rfl rfl rfl (fun h=>by have:=rI_nil h;rw [mkA_len] at this;exact this) ?_
 refine gI trivial rfl rfl rfl rfl rfl rfl ?_
 refine rg_nil nofun ?_
 refine cI rfl (fun c9=>?_) (fun c9=>?_)
 ·skip
  have p9:=of_decide_eq_true c9
  refine vc_skip ?_
  refine vc_seq ?_
  refine vc_block ?_
  refine vc_seq ?_
  refine vc_seq ?_
  refine vc_region hm ?_
  refine gM trivial (.inl rfl) rfl rfl rfl ?_
  refine gM trivial (.inl rfl) rfl rfl rfl ?_
  refine gX trivial rfl rfl rfl rfl rfl rfl rfl rfl (by omega) p9 (fun h=>rI_ne (by rw [mkA_len];exact h)) ?_
  refine gL trivial rfl rfl rfl rfl rfl rfl rfl (lI (by omega) (by rw [mkA_len];exact p9)) ?_
  refine gM trivial (.inl rfl) rfl rfl rfl ?_
  refine gI trivial rfl rfl rfl rfl rfl rfl ?_
  refine rg_nil nofun ?_
  refine cF rfl (bne_eq_false_iff_eq.2 (mkA_at (by omega))) ?_
  refine vc_skip ?_
  refine vc_region hm ?_
  refine gM trivial (.inl rfl) rfl rfl rfl ?_
  refine gA trivial rfl rfl rfl rfl rfl rfl (by omega) ?_
  refine gM trivial (.inr rfl) rfl rfl rfl ?_
  refine rg_nil nofun ?_
  refine vc_region hm ?_
  refine gM trivial (.inl rfl) rfl rfl rfl ?_
  refine gA trivial rfl rfl rfl rfl rfl rfl (by omega) ?_
  refine gM trivial (.inr rfl) rfl rfl rfl ?_
  refine rg_nil nofun ?_
  exact lp_next (m:=idm) ⟨j + 1,(by omega),rfl,rfl⟩ (by omega) (le_mk rfl ⟨⟨rfl,rfl⟩,⟨eqI (by omega),rfl⟩,⟨rfl,rfl⟩,trivial⟩ ⟨kFlat (rI_flat _) rfl id rfl,trivial⟩ rfl (fun _ _=>rfl))
 ·skip
  have p9:=of_decide_eq_false c9
  refine vc_exit ?_
  refine vc_seq ?_
  refine vc_region hm ?_
  refine gM trivial (.inl rfl) rfl rfl rfl ?_
  refine gM trivial (.inr rfl) rfl rfl rfl ?_
  refine rg_nil nofun ?_
  refine vc_ret ?_
  exact ⟨idm,ends0 (.inr rfl) rfl (eqI (by omega)) rfl rfl rfl⟩
theorem markRq_c {l:List Rq} {k:Int} (hn:l.length≤1048576) (hk:0≤k) (hk2:k≤1073741824):∃ E,FDoes Try.prog 38 [.slice (some ⟨0,0,none⟩) l.length 0,.int .i64 k] (hp [(0,true,one ⟨rRq l,63,106⟩)]) E∧∃ Y:List Rq,Y.length=l.length∧E=mkF (.int .i64 (k + 6 * (l.length:Int))) [] [(0,one ⟨rRq Y,63,106⟩)] []:=by
 have hm:Try.prog.follows .mixedOrders=true:=by kernel_rfl
 have hd_:∀ x_ ∈ ([(0,true,one ⟨rRq l,63,106⟩)]:List (Nat × Bool × Fam)),∀ k_ y_,x_.2.2 k_=some y_→DetB (lt 1) y_:=by
  intro x_ hx k_ y_ e
  simp only [List.mem_cons,List.not_mem_nil,or_false] at hx
  subst hx
  exact det_row (rRq_flat l) e
 refine fn_some (u0:=1) Try.func38 rfl rfl (gets rfl rfl rfl hd_ rfl) ?_
 clear hd_
 refine vc_seq ?_
 refine vc_region hm ?_
 refine gM trivial (.inr rfl) rfl rfl rfl ?_
 refine rg_nil nofun ?_
 refine vc_seq ?_
 refine vc_seq ?_
 refine vc_region hm ?_
 refine gM trivial (.inr rfl) rfl rfl rfl ?_
 refine rg_nil nofun ?_
 refine vc_block ?_
 refine vc_loop' (fun n_ S_=>∃ (j:Nat) (Y:List Rq),j≤l.length∧Y.length=l.length∧n_=l.length - j∧S_=⟨1,[(0,.slice (some ⟨0,0,none⟩) l.length 0),(1,.int .i64 (k + 6 * j)),(5,.int .i64 j)],[(0,true,one ⟨rRq Y,63,106⟩)]⟩) (m0:=idm) ⟨0,l,Nat.zero_le _,rfl,rfl,rfl⟩ (le_mk rfl ⟨⟨rfl,rfl⟩,⟨eqI (by omega),rfl⟩,⟨rfl,rfl⟩,trivial⟩ ⟨kFlat (rRq_flat _) rfl id rfl,trivial⟩ rfl (fun _ _=>rfl)) ?_
 rintro n_ S_ ⟨j,Y,hj,hY,rfl,rfl⟩
 refine vc_seq ?_
 refine vc_seq ?_
 refine vc_region hm ?_
 refine gM trivial (.inl rfl) rfl rfl rfl ?_
 refine gM trivial (.inl rfl) rfl rfl rfl ?_
 refine gK trivial rfl rfl rfl rfl rfl rfl (fun h=>by have:=rRq_nil h;omega) ?_
 refine gI trivial rfl rfl rfl rfl rfl rfl ?_
 refine rg_nil nofun ?_
 refine cI rfl (fun c9=>?_) (fun c9=>?_)
 ·skip
  have p9:=of_decide_eq_true c9
  refine vc_skip ?_
  refine vc_seq ?_
  refine vc_block ?_
  refine vc_seq ?_
  refine vc_region hm ?_
  refine gM trivial (.inl rfl) rfl rfl rfl ?_
  refine gM trivial (.inl rfl) rfl rfl rfl ?_
  refine gM trivial (.inl rfl) rfl rfl rfl ?_
  refine gX trivial rfl rfl rfl rfl rfl rfl rfl rfl (by omega) p9 (fun h=>rRq_ne (by first|omega|(simp only [List.length_set];omega))) ?_
  refine gF trivial rfl rfl rfl rfl rfl ?_
  refine gT trivial rfl rfl rfl rfl rfl rfl rfl rfl rfl rfl (kRq0 (by omega) (by first|omega|(simp only [List.length_set];omega))) (sRq0 (by omega) (by first|omega|(simp only [List.length_set];omega))) ?_
  refine rg_nil nofun ?_
  refine vc_seq ?_
  refine vc_region hm ?_
  refine gM trivial (.inl rfl) rfl rfl rfl ?_
  refine gA trivial rfl rfl rfl rfl rfl rfl (by omega) ?_
  refine gM trivial (.inr rfl) rfl rfl rfl ?_
  refine rg_nil nofun ?_
  refine vc_seq ?_
  refine vc_region hm ?_
  refine gM trivial (.inl rfl) rfl rfl rfl ?_
  refine gM trivial (.inl rfl) rfl rfl rfl ?_
  refine gM trivial (.inl rfl) rfl rfl rfl ?_
  refine gX trivial rfl rfl rfl rfl rfl rfl rfl rfl (by omega) p9 (fun h=>rRq_ne (by first|omega|(simp only [List.length_set];omega))) ?_
  refine gF trivial rfl rfl rfl rfl rfl ?_
  refine gT trivial rfl rfl rfl rfl rfl rfl rfl rfl rfl rfl (kRq1 (by omega) (by first|omega|(simp only [List.length_set];omega))) (sRq1 (by omega) (by first|omega|(simp only [List.length_set];omega))) ?_
  refine rg_nil nofun ?_
  refine vc_seq ?_
  refine vc_region hm ?_
  refine gM trivial (.inl rfl) rfl rfl rfl ?_
  refine gA trivial rfl rfl rfl rfl rfl rfl (by omega) ?_
  refine gM trivial (.inr rfl) rfl rfl rfl ?_
  refine rg_nil nofun ?_
  refine vc_seq ?_
  refine vc_region hm ?_
  refine gM trivial (.inl rfl) rfl rfl rfl ?_
  refine gM trivial (.inl rfl) rfl rfl rfl ?_
  refine gM trivial (.inl rfl) rfl rfl rfl ?_
  refine gX trivial rfl rfl rfl rfl rfl rfl rfl rfl (by omega) p9 (fun h=>rRq_ne (by first|omega|(simp only [List.length_set];omega))) ?_
  refine gF trivial rfl rfl rfl rfl rfl ?_
  refine gT trivial rfl rfl rfl rfl rfl rfl rfl rfl rfl rfl (kRq2 (by omega) (by first|omega|(simp only [List.length_set];omega))) (sRq2 (by omega) (by first|omega|(simp only [List.length_set];omega))) ?_
  refine rg_nil nofun ?_
  refine vc_seq ?_
  refine vc_region hm ?_
  refine gM trivial (.inl rfl) rfl rfl rfl ?_
  refine gA trivial rfl rfl rfl rfl rfl rfl (by omega) ?_
  refine gM trivial (.inr rfl) rfl rfl rfl ?_
  refine rg_nil nofun ?_
  refine vc_seq ?_
  refine vc_region hm ?_
  refine gM trivial (.inl rfl) rfl rfl rfl ?_
  refine gM trivial (.inl rfl) rfl rfl rfl ?_
  refine gM trivial (.inl rfl) rfl rfl rfl ?_
  refine gX trivial rfl rfl rfl rfl rfl rfl rfl rfl (by omega) p9 (fun h=>rRq_ne (by first|omega|(simp only [List.length_set];omega))) ?_
  refine gF trivial rfl rfl rfl rfl rfl ?_
  refine gT trivial rfl rfl rfl rfl rfl rfl rfl rfl rfl rfl (kRq3 (by omega) (by first|omega|(simp only [List.length_set];omega))) (sRq3 (by omega) (by first|omega|(simp only [List.length_set];omega))) ?_
  refine rg_nil nofun ?_
  refine vc_seq ?_
  refine vc_region hm ?_
  refine gM trivial (.inl rfl) rfl rfl rfl ?_
  refine gA trivial rfl rfl rfl rfl rfl rfl (by omega) ?_
  refine gM trivial (.inr rfl) rfl rfl rfl ?_
  refine rg_nil nofun ?_
  refine vc_seq ?_
  refine vc_region hm ?_
  refine gM trivial (.inl rfl) rfl rfl rfl ?_
  refine gM trivial (.inl rfl) rfl rfl rfl ?_
  refine gM trivial (.inl rfl) rfl rfl rfl ?_
  refine gX trivial rfl rfl rfl rfl rfl rfl rfl rfl (by omega) p9 (fun h=>rRq_ne (by first|omega|(simp only [List.length_set];omega))) ?_
  refine gF trivial rfl rfl rfl rfl rfl ?_
  refine gT trivial rfl rfl rfl rfl rfl rfl rfl rfl rfl rfl (kRq4 (by omega) (by first|omega|(simp only [List.length_set];omega))) (sRq4 (by omega) (by first|omega|(simp only [List.length_set];omega))) ?_
  refine rg_nil nofun ?_
  refine vc_seq ?_
  refine vc_region hm ?_
  refine gM trivial (.inl rfl) rfl rfl rfl ?_
  refine gA trivial rfl rfl rfl rfl rfl rfl (by omega) ?_
  refine gM trivial (.inr rfl) rfl rfl rfl ?_
  refine rg_nil nofun ?_
  refine vc_seq ?_
  refine vc_region hm ?_
  refine gM trivial (.inl rfl) rfl rfl rfl ?_
  refine gM trivial (.inl rfl) rfl rfl rfl ?_
  refine gM trivial (.inl rfl) rfl rfl rfl ?_
  refine gC0 [] (markText_c (k:=k + 6 * (j:Int) + 1 + 1 + 1 + 1 + 1) (by omega)) trivial rfl rfl rfl rfl (by trivial) rfl rfl rfl rfl rfl ?_
  refine gX trivial rfl rfl rfl rfl rfl rfl rfl rfl (by omega) p9 (fun h=>rRq_ne (by first|omega|(simp only [List.length_set];omega))) ?_
  refine gF trivial rfl rfl rfl rfl rfl ?_
  refine gT trivial rfl rfl rfl rfl rfl rfl rfl rfl rfl rfl (kRq5 (by omega) (by first|omega|(simp only [List.length_set];omega))) (sRq5 (by omega) (by first|omega|(simp only [List.length_set];omega))) ?_
  refine rg_nil nofun ?_
  refine vc_region hm ?_
  refine gM trivial (.inl rfl) rfl rfl rfl ?_
  refine gA trivial rfl rfl rfl rfl rfl rfl (by omega) ?_
  refine gM trivial (.inr rfl) rfl rfl rfl ?_
  refine rg_nil nofun ?_
  refine vc_region hm ?_
  refine gM trivial (.inl rfl) rfl rfl rfl ?_
  refine gA trivial rfl rfl rfl rfl rfl rfl (by omega) ?_
  refine gM trivial (.inr rfl) rfl rfl rfl ?_
  refine rg_nil nofun ?_
  exact lp_next (m:=idm) ⟨j + 1,_,(by omega),(by simp only [List.length_set];exact hY),rfl,rfl⟩ (by omega) (le_mk rfl ⟨⟨rfl,rfl⟩,⟨eqI (by omega),rfl⟩,⟨rfl,rfl⟩,trivial⟩ ⟨kFlat (rRq_flat _) rfl id rfl,trivial⟩ rfl (fun _ _=>rfl))
 ·skip
  have p9:=of_decide_eq_false c9
  refine vc_exit ?_
  refine vc_seq ?_
  refine vc_region hm ?_
  refine gM trivial (.inl rfl) rfl rfl rfl ?_
  refine gM trivial (.inr rfl) rfl rfl rfl ?_
  refine rg_nil nofun ?_
  refine vc_ret ?_
  exact ⟨mkF (.int .i64 (k + 6 * (l.length:Int))) [] [(0,one ⟨rRq Y,63,106⟩)] [],_,endsT [] (.inr rfl) (.tmp rfl rfl .nil) (by rw [show j=l.length by omega];rfl) rfl ⟨upFl (rRq_flat _) rfl rfl,trivial⟩ trivial rfl,Y,hY,rfl⟩
theorem mk5_rng {k:Int} {s:Stv} (hz:StSz s) (h:0≤k):k≤mk5 k s∧mk5 k s≤k + 5242880:=by
 have:=hz.a0;have:=hz.a1;have:=hz.a2;have:=hz.a3;have:=hz.a4
 unfold mk5 mk4 mk3 mk2 mk1;omega
theorem markStore_101 {s:Stv} {k:Int} (hz:StSz s) (hk:0≤k) (hk2:k≤1000000000):FDoes Try.prog 15 [.agg #[.slice (some ⟨0,0,none⟩) s.now.length 0,.slice (some ⟨1,0,none⟩) s.sure.length 0,.slice (some ⟨2,0,none⟩) s.last.length 0,.slice (some ⟨3,0,none⟩) s.slast.length 0,.slice (some ⟨4,0,none⟩) s.fl.length 0],.int .i64 k] (hp [(0,true,one ⟨rS s.now,9,101⟩),(1,true,one ⟨rS s.sure,9,101⟩),(2,true,one ⟨rI s.last,3,101⟩),(3,true,one ⟨rI s.slast,3,101⟩),(4,true,one ⟨rI s.fl,3,101⟩)]) (mkE (.int .i64 (mk5 k s)) [] [(0,⟨rS (markSt k s).now,9,101⟩),(1,⟨rS (markSt k s).sure,9,101⟩),(2,⟨rI (markSt k s).last,3,101⟩),(3,⟨rI (markSt k s).slast,3,101⟩),(4,⟨rI (markSt k s).fl,3,101⟩)] []):=by
 have hm:Try.prog.follows .mixedOrders=true:=by kernel_rfl
 have hd_:∀ x_ ∈ ([(0,true,one ⟨rS s.now,9,101⟩),(1,true,one ⟨rS s.sure,9,101⟩),(2,true,one ⟨rI s.last,3,101⟩),(3,true,one ⟨rI s.slast,3,101⟩),(4,true,one ⟨rI s.fl,3,101⟩)]:List (Nat × Bool × Fam)),∀ k_ y_,x_.2.2 k_=some y_→DetB (lt 5) y_:=by
  intro x_ hx k_ y_ e
  simp only [List.mem_cons,List.not_mem_nil,or_false] at hx
  rcases hx with rfl|rfl|rfl|rfl|rfl
  ·exact det_row (rS_flat s.now) e
  ·exact det_row (rS_flat s.sure) e
  ·exact det_row (rI_flat s.last) e
  ·exact det_row (rI_flat s.slast) e
  ·exact det_row (rI_flat s.fl) e
 have z0:=hz.a0
 have z1:=hz.a1
 have z2:=hz.a2
 have z3:=hz.a3
 have z4:=hz.a4
 have m1:mk1 k s=k + s.now.length:=rfl
 have m2:mk2 k s=mk1 k s + s.sure.length:=rfl
 have m3:mk3 k s=mk2 k s + s.last.length:=rfl
 have m4:mk4 k s=mk3 k s + s.slast.length:=rfl
 refine fn_exact (u0:=5) Try.func15 rfl rfl (gets rfl rfl rfl hd_ rfl) ?_
 clear hd_
 refine vc_seq ?_
 refine vc_region hm ?_
 refine gB (u':=6) trivial rfl rfl rfl rfl rfl rfl rfl rfl ?_
 refine gM trivial (.inr rfl) rfl rfl rfl ?_
 refine rg_nil nofun ?_
 refine vc_seq ?_
 refine vc_region hm ?_
 refine gF trivial rfl rfl rfl rfl rfl ?_
 refine gL trivial rfl rfl rfl rfl rfl rfl rfl rfl ?_
 refine gM trivial (.inl rfl) rfl rfl rfl ?_
 refine gCG 6 [0] (markS_101 (l:=s.now) (k:=k) z0 (by omega) (by omega)) trivial rfl rfl rfl rfl ⟨rFlat (rS_flat _) rfl (.inr rfl) rfl,trivial⟩ ⟨rS_flat _,trivial⟩ trivial rfl rfl (by intro x hx;obtain rfl:=List.mem_singleton.1 hx;exact ⟨_,rfl⟩) (by intro x hx;obtain rfl:=List.mem_singleton.1 hx;exact ⟨_,_,rfl⟩) rfl rfl ?_
 refine gM trivial (.inr rfl) rfl rfl rfl ?_
 refine rg_nil nofun ?_
 refine vc_seq ?_
 refine vc_region hm ?_
 refine gF trivial rfl rfl rfl rfl rfl ?_
 refine gL trivial rfl rfl rfl rfl rfl rfl rfl rfl ?_
 refine gM trivial (.inl rfl) rfl rfl rfl ?_
 refine gCG 6 [1] (markS_101 (l:=s.sure) (k:=(mk1 k s)) z1 (by omega) (by omega)) trivial rfl rfl rfl rfl ⟨rFlat (rS_flat _) rfl (.inr rfl) rfl,trivial⟩ ⟨rS_flat _,trivial⟩ trivial rfl rfl (by intro x hx;obtain rfl:=List.mem_singleton.1 hx;exact ⟨_,rfl⟩) (by intro x hx;obtain rfl:=List.mem_singleton.1 hx;exact ⟨_,_,rfl⟩) rfl rfl ?_
 refine gM trivial (.inr rfl) rfl rfl rfl ?_
 refine rg_nil nofun ?_
 refine vc_seq ?_
 refine vc_region hm ?_
 refine gF trivial rfl rfl rfl rfl rfl ?_
 refine gL trivial rfl rfl rfl rfl rfl rfl rfl rfl ?_
 refine gM trivial (.inl rfl) rfl rfl rfl ?_
 refine gCG 6 [2] (markI_101 (l:=s.last) (k:=(mk2 k s)) z2 (by omega) (by omega)) trivial rfl rfl rfl rfl ⟨rFlat (rI_flat _) rfl (.inr rfl) rfl,trivial⟩ ⟨rI_flat _,trivial⟩ trivial rfl rfl (by intro x hx;obtain rfl:=List.mem_singleton.1 hx;exact ⟨_,rfl⟩) (by intro x hx;obtain rfl:=List.mem_singleton.1 hx;exact ⟨_,_,rfl⟩) rfl rfl ?_
 refine gM trivial (.inr rfl) rfl rfl rfl ?_
 refine rg_nil nofun ?_
 refine vc_seq ?_
 refine vc_region hm ?_
 refine gF trivial rfl rfl rfl rfl rfl ?_
 refine gL trivial rfl rfl rfl rfl rfl rfl rfl rfl ?_
 refine gM trivial (.inl rfl) rfl rfl rfl ?_
 refine gCG 6 [3] (markI_101 (l:=s.slast) (k:=(mk3 k s)) z3 (by omega) (by omega)) trivial rfl rfl rfl rfl ⟨rFlat (rI_flat _) rfl (.inr rfl) rfl,trivial⟩ ⟨rI_flat _,trivial⟩ trivial rfl rfl (by intro x hx;obtain rfl:=List.mem_singleton.1 hx;exact ⟨_,rfl⟩) (by intro x hx;obtain rfl:=List.mem_singleton.1 hx;exact ⟨_,_,rfl⟩) rfl rfl ?_
 refine gM trivial (.inr rfl) rfl rfl rfl ?_
 refine rg_nil nofun ?_
 refine vc_seq ?_
 refine vc_region hm ?_
 refine gF trivial rfl rfl rfl rfl rfl ?_
 refine gL trivial rfl rfl rfl rfl rfl rfl rfl rfl ?_
 refine gM trivial (.inl rfl) rfl rfl rfl ?_
 refine gCG 6 [4] (markI_101 (l:=s.fl) (k:=(mk4 k s)) z4 (by omega) (by omega)) trivial rfl rfl rfl rfl ⟨rFlat (rI_flat _) rfl (.inr rfl) rfl,trivial⟩ ⟨rI_flat _,trivial⟩ trivial rfl rfl (by intro x hx;obtain rfl:=List.mem_singleton.1 hx;exact ⟨_,rfl⟩) (by intro x hx;obtain rfl:=List.mem_singleton.1 hx;exact ⟨_,_,rfl⟩) rfl rfl ?_
 refine gM trivial (.inr rfl) rfl rfl rfl ?_
 refine rg_nil nofun ?_
 refine vc_seq ?_
 refine vc_region hm ?_
 refine gM trivial (.inl rfl) rfl rfl rfl ?_
 refine gM trivial (.inr rfl) rfl rfl rfl ?_
 refine rg_nil nofun ?_
 refine vc_ret ?_
 exact ⟨_,endsG [] (.inr rfl) (.tmp rfl (show plainV (.int .i64 _)=true from rfl) .nil) rfl rfl ⟨⟨⟨_,rfl⟩,⟨_,rfl⟩,rS_flat _⟩,⟨⟨_,rfl⟩,⟨_,rfl⟩,rS_flat _⟩,⟨⟨_,rfl⟩,⟨_,rfl⟩,rI_flat _⟩,⟨⟨_,rfl⟩,⟨_,rfl⟩,rI_flat _⟩,⟨⟨_,rfl⟩,⟨_,rfl⟩,rI_flat _⟩,trivial⟩ trivial rfl⟩
theorem markStore_1 {s:Stv} {k:Int} (hz:StSz s) (hk:0≤k) (hk2:k≤1000000000):FDoes Try.prog 15 [.agg #[.slice (some ⟨0,0,none⟩) s.now.length 0,.slice (some ⟨1,0,none⟩) s.sure.length 0,.slice (some ⟨2,0,none⟩) s.last.length 0,.slice (some ⟨3,0,none⟩) s.slast.length 0,.slice (some ⟨4,0,none⟩) s.fl.length 0],.int .i64 k] (hp [(0,true,one ⟨rS s.now,9,1⟩),(1,true,one ⟨rS s.sure,9,1⟩),(2,true,one ⟨rI s.last,3,1⟩),(3,true,one ⟨rI s.slast,3,1⟩),(4,true,one ⟨rI s.fl,3,1⟩)]) (mkE (.int .i64 (mk5 k s)) [] [(0,⟨rS (markSt k s).now,9,1⟩),(1,⟨rS (markSt k s).sure,9,1⟩),(2,⟨rI (markSt k s).last,3,1⟩),(3,⟨rI (markSt k s).slast,3,1⟩),(4,⟨rI (markSt k s).fl,3,1⟩)] []):=by
 have hm:Try.prog.follows .mixedOrders=true:=by kernel_rfl
 have hd_:∀ x_ ∈ ([(0,true,one ⟨rS s.now,9,1⟩),(1,true,one ⟨rS s.sure,9,1⟩),(2,true,one ⟨rI s.last,3,1⟩),(3,true,one ⟨rI s.slast,3,1⟩),(4,true,one ⟨rI s.fl,3,1⟩)]:List (Nat × Bool × Fam)),∀ k_ y_,x_.2.2 k_=some y_→DetB (lt 5) y_:=by
  intro x_ hx k_ y_ e
  simp only [List.mem_cons,List.not_mem_nil,or_false] at hx
  rcases hx with rfl|rfl|rfl|rfl|rfl
  ·exact det_row (rS_flat s.now) e
  ·exact det_row (rS_flat s.sure) e
  ·exact det_row (rI_flat s.last) e
  ·exact det_row (rI_flat s.slast) e
  ·exact det_row (rI_flat s.fl) e
 have z0:=hz.a0
 have z1:=hz.a1
 have z2:=hz.a2
 have z3:=hz.a3
 have z4:=hz.a4
 have m1:mk1 k s=k + s.now.length:=rfl
 have m2:mk2 k s=mk1 k s + s.sure.length:=rfl
 have m3:mk3 k s=mk2 k s + s.last.length:=rfl
 have m4:mk4 k s=mk3 k s + s.slast.length:=rfl
 refine fn_exact (u0:=5) Try.func15 rfl rfl (gets rfl rfl rfl hd_ rfl) ?_
 clear hd_
 refine vc_seq ?_
 refine vc_region hm ?_
 refine gB (u':=6) trivial rfl rfl rfl rfl rfl rfl rfl rfl ?_
 refine gM trivial (.inr rfl) rfl rfl rfl ?_
 refine rg_nil nofun ?_
 refine vc_seq ?_
 refine vc_region hm ?_
 refine gF trivial rfl rfl rfl rfl rfl ?_
 refine gL trivial rfl rfl rfl rfl rfl rfl rfl rfl ?_
 refine gM trivial (.inl rfl) rfl rfl rfl ?_
 refine gCG 6 [0] (markS_1 (l:=s.now) (k:=k) z0 (by omega) (by omega)) trivial rfl rfl rfl rfl ⟨rFlat (rS_flat _) rfl (.inr rfl) rfl,trivial⟩ ⟨rS_flat _,trivial⟩ trivial rfl rfl (by intro x hx;obtain rfl:=List.mem_singleton.1 hx;exact ⟨_,rfl⟩) (by intro x hx;obtain rfl:=List.mem_singleton.1 hx;exact ⟨_,_,rfl⟩) rfl rfl ?_
 refine gM trivial (.inr rfl) rfl rfl rfl ?_
 refine rg_nil nofun ?_
 refine vc_seq ?_
 refine vc_region hm ?_
 refine gF trivial rfl rfl rfl rfl rfl ?_
 refine gL trivial rfl rfl rfl rfl rfl rfl rfl rfl ?_
 refine gM trivial (.inl rfl) rfl rfl rfl ?_
 refine gCG 6 [1] (markS_1 (l:=s.sure) (k:=(mk1 k s)) z1 (by omega) (by omega)) trivial rfl rfl rfl rfl ⟨rFlat (rS_flat _) rfl (.inr rfl) rfl,trivial⟩ ⟨rS_flat _,trivial⟩ trivial rfl rfl (by intro x hx;obtain rfl:=List.mem_singleton.1 hx;exact ⟨_,rfl⟩) (by intro x hx;obtain rfl:=List.mem_singleton.1 hx;exact ⟨_,_,rfl⟩) rfl rfl ?_
 refine gM trivial (.inr rfl) rfl rfl rfl ?_
 refine rg_nil nofun ?_
 refine vc_seq ?_
 refine vc_region hm ?_
 refine gF trivial rfl rfl rfl rfl rfl ?_
 refine gL trivial rfl rfl rfl rfl rfl rfl rfl rfl ?_
 refine gM trivial (.inl rfl) rfl rfl rfl ?_
 refine gCG 6 [2] (markI_1 (l:=s.last) (k:=(mk2 k s)) z2 (by omega) (by omega)) trivial rfl rfl rfl rfl ⟨rFlat (rI_flat _) rfl (.inr rfl) rfl,trivial⟩ ⟨rI_flat _,trivial⟩ trivial rfl rfl (by intro x hx;obtain rfl:=List.mem_singleton.1 hx;exact ⟨_,rfl⟩) (by intro x hx;obtain rfl:=List.mem_singleton.1 hx;exact ⟨_,_,rfl⟩) rfl rfl ?_
 refine gM trivial (.inr rfl) rfl rfl rfl ?_
 refine rg_nil nofun ?_
 refine vc_seq ?_
 refine vc_region hm ?_
 refine gF trivial rfl rfl rfl rfl rfl ?_
 refine gL trivial rfl rfl rfl rfl rfl rfl rfl rfl ?_
 refine gM trivial (.inl rfl) rfl rfl rfl ?_
 refine gCG 6 [3] (markI_1 (l:=s.slast) (k:=(mk3 k s)) z3 (by omega) (by omega)) trivial rfl rfl rfl rfl ⟨rFlat (rI_flat _) rfl (.inr rfl) rfl,trivial⟩ ⟨rI_flat _,trivial⟩ trivial rfl rfl (by intro x hx;obtain rfl:=List.mem_singleton.1 hx;exact ⟨_,rfl⟩) (by intro x hx;obtain rfl:=List.mem_singleton.1 hx;exact ⟨_,_,rfl⟩) rfl rfl ?_
 refine gM trivial (.inr rfl) rfl rfl rfl ?_
 refine rg_nil nofun ?_
 refine vc_seq ?_
 refine vc_region hm ?_
 refine gF trivial rfl rfl rfl rfl rfl ?_
 refine gL trivial rfl rfl rfl rfl rfl rfl rfl rfl ?_
 refine gM trivial (.inl rfl) rfl rfl rfl ?_
 refine gCG 6 [4] (markI_1 (l:=s.fl) (k:=(mk4 k s)) z4 (by omega) (by omega)) trivial rfl rfl rfl rfl ⟨rFlat (rI_flat _) rfl (.inr rfl) rfl,trivial⟩ ⟨rI_flat _,trivial⟩ trivial rfl rfl (by intro x hx;obtain rfl:=List.mem_singleton.1 hx;exact ⟨_,rfl⟩) (by intro x hx;obtain rfl:=List.mem_singleton.1 hx;exact ⟨_,_,rfl⟩) rfl rfl ?_
 refine gM trivial (.inr rfl) rfl rfl rfl ?_
 refine rg_nil nofun ?_
 refine vc_seq ?_
 refine vc_region hm ?_
 refine gM trivial (.inl rfl) rfl rfl rfl ?_
 refine gM trivial (.inr rfl) rfl rfl rfl ?_
 refine rg_nil nofun ?_
 refine vc_ret ?_
 exact ⟨_,endsG [] (.inr rfl) (.tmp rfl (show plainV (.int .i64 _)=true from rfl) .nil) rfl rfl ⟨⟨⟨_,rfl⟩,⟨_,rfl⟩,rS_flat _⟩,⟨⟨_,rfl⟩,⟨_,rfl⟩,rS_flat _⟩,⟨⟨_,rfl⟩,⟨_,rfl⟩,rI_flat _⟩,⟨⟨_,rfl⟩,⟨_,rfl⟩,rI_flat _⟩,⟨⟨_,rfl⟩,⟨_,rfl⟩,rI_flat _⟩,trivial⟩ trivial rfl⟩
theorem heldStore_c {s:Stv} {k:Int} (hz:StSz s) (hk:0≤k) (hk2:k≤1000000000):FDoes Try.prog 16 [.agg #[.slice (some ⟨0,0,none⟩) s.now.length 0,.slice (some ⟨1,0,none⟩) s.sure.length 0,.slice (some ⟨2,0,none⟩) s.last.length 0,.slice (some ⟨3,0,none⟩) s.slast.length 0,.slice (some ⟨4,0,none⟩) s.fl.length 0],.int .i64 k] (hp [(0,false,one ⟨rS (markSt k s).now,9,0⟩),(1,false,one ⟨rS (markSt k s).sure,9,0⟩),(2,false,one ⟨rI (markSt k s).last,3,0⟩),(3,false,one ⟨rI (markSt k s).slast,3,0⟩),(4,false,one ⟨rI (markSt k s).fl,3,0⟩)]) { v:=.int .i64 (mk5 k s),rd:=[0,1,2,3,4] }:=by
 have hm:Try.prog.follows .mixedOrders=true:=by kernel_rfl
 have hd_:∀ x_ ∈ ([(0,false,one ⟨rS (markSt k s).now,9,0⟩),(1,false,one ⟨rS (markSt k s).sure,9,0⟩),(2,false,one ⟨rI (markSt k s).last,3,0⟩),(3,false,one ⟨rI (markSt k s).slast,3,0⟩),(4,false,one ⟨rI (markSt k s).fl,3,0⟩)]:List (Nat × Bool × Fam)),∀ k_ y_,x_.2.2 k_=some y_→DetB (lt 5) y_:=by
  intro x_ hx k_ y_ e
  simp only [List.mem_cons,List.not_mem_nil,or_false] at hx
  rcases hx with rfl|rfl|rfl|rfl|rfl
  ·exact det_row (rS_flat (markSt k s).now) e
  ·exact det_row (rS_flat (markSt k s).sure) e
  ·exact det_row (rI_flat (markSt k s).last) e
  ·exact det_row (rI_flat (markSt k s).slast) e
  ·exact det_row (rI_flat (markSt k s).fl) e
 have z0:=hz.a0
 have z1:=hz.a1
 have z2:=hz.a2
 have z3:=hz.a3
 have z4:=hz.a4
 have m1:mk1 k s=k + s.now.length:=rfl
 have m2:mk2 k s=mk1 k s + s.sure.length:=rfl
 have m3:mk3 k s=mk2 k s + s.last.length:=rfl
 have m4:mk4 k s=mk3 k s + s.slast.length:=rfl
 refine fn_exact (u0:=5) Try.func16 rfl rfl (gets rfl rfl rfl hd_ rfl) ?_
 clear hd_
 refine vc_seq ?_
 refine vc_region hm ?_
 refine gB (u':=6) trivial rfl rfl rfl rfl rfl rfl rfl rfl ?_
 refine gM trivial (.inr rfl) rfl rfl rfl ?_
 refine rg_nil nofun ?_
 refine vc_seq ?_
 refine vc_region hm ?_
 refine gF trivial rfl rfl rfl rfl rfl ?_
 refine gL trivial rfl rfl rfl rfl rfl rfl rfl rfl ?_
 refine gM trivial (.inl rfl) rfl rfl rfl ?_
 refine gC0 [0] (heldS_c (n:=s.now.length) (k:=k) z0 (by omega) (by omega)) trivial rfl rfl rfl rfl ⟨rFlat (rS_flat _) rfl (.inl rfl) rfl,trivial⟩ rfl rfl rfl rfl rfl ?_
 refine gM trivial (.inr rfl) rfl rfl rfl ?_
 refine rg_nil nofun ?_
 refine vc_seq ?_
 refine vc_seq ?_
 refine vc_region hm ?_
 refine gM trivial (.inl rfl) rfl rfl rfl ?_
 refine gI trivial rfl rfl rfl rfl rfl rfl ?_
 refine rg_nil nofun ?_
 refine cF rfl (decide_eq_false (by omega)) ?_
 refine vc_skip ?_
 refine vc_seq ?_
 refine vc_region hm ?_
 refine gF trivial rfl rfl rfl rfl rfl ?_
 refine gL trivial rfl rfl rfl rfl rfl rfl rfl rfl ?_
 refine gM trivial (.inl rfl) rfl rfl rfl ?_
 refine gC0 [1] (heldS_c (n:=s.sure.length) (k:=(mk1 k s)) z1 (by omega) (by omega)) trivial rfl rfl rfl rfl ⟨rFlat (rS_flat _) rfl (.inl rfl) rfl,trivial⟩ rfl rfl rfl rfl rfl ?_
 refine gM trivial (.inr rfl) rfl rfl rfl ?_
 refine rg_nil nofun ?_
 refine vc_seq ?_
 refine vc_seq ?_
 refine vc_region hm ?_
 refine gM trivial (.inl rfl) rfl rfl rfl ?_
 refine gI trivial rfl rfl rfl rfl rfl rfl ?_
 refine rg_nil nofun ?_
 refine cF rfl (decide_eq_false (by omega)) ?_
 refine vc_skip ?_
 refine vc_seq ?_
 refine vc_region hm ?_
 refine gF trivial rfl rfl rfl rfl rfl ?_
 refine gL trivial rfl rfl rfl rfl rfl rfl rfl rfl ?_
 refine gM trivial (.inl rfl) rfl rfl rfl ?_
 refine gC0 [2] (heldI_c (n:=s.last.length) (k:=(mk2 k s)) z2 (by omega) (by omega)) trivial rfl rfl rfl rfl ⟨rFlat (rI_flat _) rfl (.inl rfl) rfl,trivial⟩ rfl rfl rfl rfl rfl ?_
 refine gM trivial (.inr rfl) rfl rfl rfl ?_
 refine rg_nil nofun ?_
 refine vc_seq ?_
 refine vc_seq ?_
 refine vc_region hm ?_
 refine gM trivial (.inl rfl) rfl rfl rfl ?_
 refine gI trivial rfl rfl rfl rfl rfl rfl ?_
 refine rg_nil nofun ?_
 refine cF rfl (decide_eq_false (by omega)) ?_
 refine vc_skip ?_
 refine vc_seq ?_
 refine vc_region hm ?_
 refine gF trivial rfl rfl rfl rfl rfl ?_
 refine gL trivial rfl rfl rfl rfl rfl rfl rfl rfl ?_
 refine gM trivial (.inl rfl) rfl rfl rfl ?_
 refine gC0 [3] (heldI_c (n:=s.slast.length) (k:=(mk3 k s)) z3 (by omega) (by omega)) trivial rfl rfl rfl rfl ⟨rFlat (rI_flat _) rfl (.inl rfl) rfl,trivial⟩ rfl rfl rfl rfl rfl ?_
 refine gM trivial (.inr rfl) rfl rfl rfl ?_
 refine rg_nil nofun ?_
 refine vc_seq ?_
 refine vc_seq ?_
 refine vc_region hm ?_
 refine gM trivial (.inl rfl) rfl rfl rfl ?_
 refine gI trivial rfl rfl rfl rfl rfl rfl ?_
 refine rg_nil nofun ?_
 refine cF rfl (decide_eq_false (by omega)) ?_
 refine vc_skip ?_
 refine vc_seq ?_
 refine vc_region hm ?_
 refine gF trivial rfl rfl rfl rfl rfl ?_
 refine gL trivial rfl rfl rfl rfl rfl rfl rfl rfl ?_
 refine gM trivial (.inl rfl) rfl rfl rfl ?_
 refine gC0 [4] (heldI_c (n:=s.fl.length) (k:=(mk4 k s)) z4 (by omega) (by omega)) trivial rfl rfl rfl rfl ⟨rFlat (rI_flat _) rfl (.inl rfl) rfl,trivial⟩ rfl rfl rfl rfl rfl ?_
 refine gM trivial (.inr rfl) rfl rfl rfl ?_
 refine rg_nil nofun ?_
 refine vc_seq ?_
 refine vc_seq ?_
 refine vc_region hm ?_
 refine gM trivial (.inl rfl) rfl rfl rfl ?_
 refine gI trivial rfl rfl rfl rfl rfl rfl ?_
 refine rg_nil nofun ?_
 refine cF rfl (decide_eq_false (by omega)) ?_
 refine vc_skip ?_
 refine vc_seq ?_
 refine vc_region hm ?_
 refine gM trivial (.inl rfl) rfl rfl rfl ?_
 refine gM trivial (.inr rfl) rfl rfl rfl ?_
 refine rg_nil nofun ?_
 refine vc_ret ?_
 exact ⟨idm,ends0 (.inr rfl) rfl rfl rfl rfl rfl⟩
theorem markStringS_n {k:Int}:FDoes Try.prog 46 [.slice none 0 0,.int .i64 k] (hp []) { v:=.int .i64 k }:=by
 have hm:Try.prog.follows .mixedOrders=true:=by kernel_rfl
 have hd_:∀ x ∈ ([]:List (Nat × Bool × Fam)),∀ k y,x.2.2 k=some y→DetB (lt 0) y:=fun x_ hx=>(by cases hx)
 refine fn_exact (u0:=0) Try.func46 rfl rfl (gets rfl rfl rfl hd_ rfl) ?_
 clear hd_
 refine vc_seq ?_
 refine vc_region hm ?_
 refine gM trivial (.inr rfl) rfl rfl rfl ?_
 refine rg_nil nofun ?_
 refine vc_seq ?_
 refine vc_seq ?_
 refine vc_region hm ?_
 refine gM trivial (.inr rfl) rfl rfl rfl ?_
 refine rg_nil nofun ?_
 refine vc_block ?_
 refine vc_loop' (fun n_ S_=>∃ (j:Nat),j=0∧n_=0∧S_=⟨0,[(0,.slice none 0 0),(1,.int .i64 k),(5,.int .i64 j)],[]⟩) (m0:=idm) ⟨0,rfl,rfl,rfl⟩ (le_mk rfl ⟨⟨rfl,rfl⟩,⟨rfl,rfl⟩,⟨rfl,rfl⟩,trivial⟩ trivial rfl (fun _ _=>rfl)) ?_
 rintro n_ S_ ⟨j,hj,rfl,rfl⟩
 refine vc_seq ?_
 refine vc_seq ?_
 refine vc_region hm ?_
 refine gM trivial (.inl rfl) rfl rfl rfl ?_
 refine gM trivial (.inl rfl) rfl rfl rfl ?_
 refine gKN trivial rfl rfl rfl rfl rfl ?_
 refine gI trivial rfl rfl rfl rfl rfl rfl ?_
 refine rg_nil nofun ?_
 refine cF rfl (decide_eq_false (by omega)) ?_
 refine vc_exit ?_
 refine vc_seq ?_
 refine vc_region hm ?_
 refine gM trivial (.inl rfl) rfl rfl rfl ?_
 refine gM trivial (.inr rfl) rfl rfl rfl ?_
 refine rg_nil nofun ?_
 refine vc_ret ?_
 exact ⟨idm,ends0 (.inr rfl) rfl rfl rfl rfl rfl⟩
theorem markIntS_n {k:Int}:FDoes Try.prog 39 [.slice none 0 0,.int .i64 k] (hp []) { v:=.int .i64 k }:=by
 have hm:Try.prog.follows .mixedOrders=true:=by kernel_rfl
 have hd_:∀ x ∈ ([]:List (Nat × Bool × Fam)),∀ k y,x.2.2 k=some y→DetB (lt 0) y:=fun x_ hx=>(by cases hx)
 refine fn_exact (u0:=0) Try.func39 rfl rfl (gets rfl rfl rfl hd_ rfl) ?_
 clear hd_
 refine vc_seq ?_
 refine vc_region hm ?_
 refine gM trivial (.inr rfl) rfl rfl rfl ?_
 refine rg_nil nofun ?_
 refine vc_seq ?_
 refine vc_seq ?_
 refine vc_region hm ?_
 refine gM trivial (.inr rfl) rfl rfl rfl ?_
 refine rg_nil nofun ?_
 refine vc_block ?_
 refine vc_loop' (fun n_ S_=>∃ (j:Nat),j=0∧n_=0∧S_=⟨0,[(0,.slice none 0 0),(1,.int .i64 k),(5,.int .i64 j)],[]⟩) (m0:=idm) ⟨0,rfl,rfl,rfl⟩ (le_mk rfl ⟨⟨rfl,rfl⟩,⟨rfl,rfl⟩,⟨rfl,rfl⟩,trivial⟩ trivial rfl (fun _ _=>rfl)) ?_
 rintro n_ S_ ⟨j,hj,rfl,rfl⟩
 refine vc_seq ?_
 refine vc_seq ?_
 refine vc_region hm ?_
 refine gM trivial (.inl rfl) rfl rfl rfl ?_
 refine gM trivial (.inl rfl) rfl rfl rfl ?_
 refine gKN trivial rfl rfl rfl rfl rfl ?_
 refine gI trivial rfl rfl rfl rfl rfl rfl ?_
 refine rg_nil nofun ?_
 refine cF rfl (decide_eq_false (by omega)) ?_
 refine vc_exit ?_
 refine vc_seq ?_
 refine vc_region hm ?_
 refine gM trivial (.inl rfl) rfl rfl rfl ?_
 refine gM trivial (.inr rfl) rfl rfl rfl ?_
 refine rg_nil nofun ?_
 refine vc_ret ?_
 exact ⟨idm,ends0 (.inr rfl) rfl rfl rfl rfl rfl⟩
theorem heldStringS_n {k:Int}:FDoes Try.prog 47 [.slice none 0 0,.int .i64 k] (hp []) { v:=.int .i64 k }:=by
 have hm:Try.prog.follows .mixedOrders=true:=by kernel_rfl
 have hd_:∀ x ∈ ([]:List (Nat × Bool × Fam)),∀ k y,x.2.2 k=some y→DetB (lt 0) y:=fun x_ hx=>(by cases hx)
 refine fn_exact (u0:=0) Try.func47 rfl rfl (gets rfl rfl rfl hd_ rfl) ?_
 clear hd_
 refine vc_seq ?_
 refine vc_region hm ?_
 refine gM trivial (.inr rfl) rfl rfl rfl ?_
 refine rg_nil nofun ?_
 refine vc_seq ?_
 refine vc_seq ?_
 refine vc_region hm ?_
 refine gM trivial (.inr rfl) rfl rfl rfl ?_
 refine rg_nil nofun ?_
 refine vc_block ?_
 refine vc_loop' (fun n_ S_=>∃ (j:Nat),j=0∧n_=0∧S_=⟨0,[(0,.slice none 0 0),(1,.int .i64 k),(5,.int .i64 j)],[]⟩) (m0:=idm) ⟨0,rfl,rfl,rfl⟩ (le_mk rfl ⟨⟨rfl,rfl⟩,⟨rfl,rfl⟩,⟨rfl,rfl⟩,trivial⟩ trivial rfl (fun _ _=>rfl)) ?_
 rintro n_ S_ ⟨j,hj,rfl,rfl⟩
 refine vc_seq ?_
 refine vc_seq ?_
 refine vc_region hm ?_
 refine gM trivial (.inl rfl) rfl rfl rfl ?_
 refine gM trivial (.inl rfl) rfl rfl rfl ?_
 refine gKN trivial rfl rfl rfl rfl rfl ?_
 refine gI trivial rfl rfl rfl rfl rfl rfl ?_
 refine rg_nil nofun ?_
 refine cF rfl (decide_eq_false (by omega)) ?_
 refine vc_exit ?_
 refine vc_seq ?_
 refine vc_region hm ?_
 refine gM trivial (.inl rfl) rfl rfl rfl ?_
 refine gM trivial (.inr rfl) rfl rfl rfl ?_
 refine rg_nil nofun ?_
 refine vc_ret ?_
 exact ⟨idm,ends0 (.inr rfl) rfl rfl rfl rfl rfl⟩
theorem heldIntS_n {k:Int}:FDoes Try.prog 40 [.slice none 0 0,.int .i64 k] (hp []) { v:=.int .i64 k }:=by
 have hm:Try.prog.follows .mixedOrders=true:=by kernel_rfl
 have hd_:∀ x ∈ ([]:List (Nat × Bool × Fam)),∀ k y,x.2.2 k=some y→DetB (lt 0) y:=fun x_ hx=>(by cases hx)
 refine fn_exact (u0:=0) Try.func40 rfl rfl (gets rfl rfl rfl hd_ rfl) ?_
 clear hd_
 refine vc_seq ?_
 refine vc_region hm ?_
 refine gM trivial (.inr rfl) rfl rfl rfl ?_
 refine rg_nil nofun ?_
 refine vc_seq ?_
 refine vc_seq ?_
 refine vc_region hm ?_
 refine gM trivial (.inr rfl) rfl rfl rfl ?_
 refine rg_nil nofun ?_
 refine vc_block ?_
 refine vc_loop' (fun n_ S_=>∃ (j:Nat),j=0∧n_=0∧S_=⟨0,[(0,.slice none 0 0),(1,.int .i64 k),(5,.int .i64 j)],[]⟩) (m0:=idm) ⟨0,rfl,rfl,rfl⟩ (le_mk rfl ⟨⟨rfl,rfl⟩,⟨rfl,rfl⟩,⟨rfl,rfl⟩,trivial⟩ trivial rfl (fun _ _=>rfl)) ?_
 rintro n_ S_ ⟨j,hj,rfl,rfl⟩
 refine vc_seq ?_
 refine vc_seq ?_
 refine vc_region hm ?_
 refine gM trivial (.inl rfl) rfl rfl rfl ?_
 refine gM trivial (.inl rfl) rfl rfl rfl ?_
 refine gKN trivial rfl rfl rfl rfl rfl ?_
 refine gI trivial rfl rfl rfl rfl rfl rfl ?_
 refine rg_nil nofun ?_
 refine cF rfl (decide_eq_false (by omega)) ?_
 refine vc_exit ?_
 refine vc_seq ?_
 refine vc_region hm ?_
 refine gM trivial (.inl rfl) rfl rfl rfl ?_
 refine gM trivial (.inr rfl) rfl rfl rfl ?_
 refine rg_nil nofun ?_
 refine vc_ret ?_
 exact ⟨idm,ends0 (.inr rfl) rfl rfl rfl rfl rfl⟩
theorem markStore_n {k:Int} (hk:0≤k):FDoes Try.prog 15 [.agg #[.slice none 0 0,.slice none 0 0,.slice none 0 0,.slice none 0 0,.slice none 0 0],.int .i64 k] (hp []) { v:=.int .i64 k }:=by
 have hm:Try.prog.follows .mixedOrders=true:=by kernel_rfl
 have hd_:∀ x ∈ ([]:List (Nat × Bool × Fam)),∀ k y,x.2.2 k=some y→DetB (lt 0) y:=fun x_ hx=>(by cases hx)
 refine fn_exact (u0:=0) Try.func15 rfl rfl (gets rfl rfl rfl hd_ rfl) ?_
 clear hd_
 refine vc_seq ?_
 refine vc_region hm ?_
 refine gB (u':=1) trivial rfl rfl rfl rfl rfl rfl rfl rfl ?_
 refine gM trivial (.inr rfl) rfl rfl rfl ?_
 refine rg_nil nofun ?_
 refine vc_seq ?_
 refine vc_region hm ?_
 refine gF trivial rfl rfl rfl rfl rfl ?_
 refine gL trivial rfl rfl rfl rfl rfl rfl rfl rfl ?_
 refine gM trivial (.inl rfl) rfl rfl rfl ?_
 refine gC0 [] (markStringS_n (k:=k)) trivial rfl rfl rfl rfl (by trivial) rfl rfl rfl rfl rfl ?_
 refine gM trivial (.inr rfl) rfl rfl rfl ?_
 refine rg_nil nofun ?_
 refine vc_seq ?_
 refine vc_region hm ?_
 refine gF trivial rfl rfl rfl rfl rfl ?_
 refine gL trivial rfl rfl rfl rfl rfl rfl rfl rfl ?_
 refine gM trivial (.inl rfl) rfl rfl rfl ?_
 refine gC0 [] (markStringS_n (k:=k)) trivial rfl rfl rfl rfl (by trivial) rfl rfl rfl rfl rfl ?_
 refine gM trivial (.inr rfl) rfl rfl rfl ?_
 refine rg_nil nofun ?_
 refine vc_seq ?_
 refine vc_region hm ?_
 refine gF trivial rfl rfl rfl rfl rfl ?_
 refine gL trivial rfl rfl rfl rfl rfl rfl rfl rfl ?_
 refine gM trivial (.inl rfl) rfl rfl rfl ?_
 refine gC0 [] (markIntS_n (k:=k)) trivial rfl rfl rfl rfl (by trivial) rfl rfl rfl rfl rfl ?_
 refine gM trivial (.inr rfl) rfl rfl rfl ?_
 refine rg_nil nofun ?_
 refine vc_seq ?_
 refine vc_region hm ?_
 refine gF trivial rfl rfl rfl rfl rfl ?_
 refine gL trivial rfl rfl rfl rfl rfl rfl rfl rfl ?_
 refine gM trivial (.inl rfl) rfl rfl rfl ?_
 refine gC0 [] (markIntS_n (k:=k)) trivial rfl rfl rfl rfl (by trivial) rfl rfl rfl rfl rfl ?_
 refine gM trivial (.inr rfl) rfl rfl rfl ?_
 refine rg_nil nofun ?_
 refine vc_seq ?_
 refine vc_region hm ?_
 refine gF trivial rfl rfl rfl rfl rfl ?_
 refine gL trivial rfl rfl rfl rfl rfl rfl rfl rfl ?_
 refine gM trivial (.inl rfl) rfl rfl rfl ?_
 refine gC0 [] (markIntS_n (k:=k)) trivial rfl rfl rfl rfl (by trivial) rfl rfl rfl rfl rfl ?_
 refine gM trivial (.inr rfl) rfl rfl rfl ?_
 refine rg_nil nofun ?_
 refine vc_seq ?_
 refine vc_region hm ?_
 refine gM trivial (.inl rfl) rfl rfl rfl ?_
 refine gM trivial (.inr rfl) rfl rfl rfl ?_
 refine rg_nil nofun ?_
 refine vc_ret ?_
 exact ⟨idm,ends0 (.inr rfl) rfl rfl rfl rfl rfl⟩
theorem heldStore_n {k:Int} (hk:0≤k):FDoes Try.prog 16 [.agg #[.slice none 0 0,.slice none 0 0,.slice none 0 0,.slice none 0 0,.slice none 0 0],.int .i64 k] (hp []) { v:=.int .i64 k }:=by
 have hm:Try.prog.follows .mixedOrders=true:=by kernel_rfl
 have hd_:∀ x ∈ ([]:List (Nat × Bool × Fam)),∀ k y,x.2.2 k=some y→DetB (lt 0) y:=fun x_ hx=>(by cases hx)
 refine fn_exact (u0:=0) Try.func16 rfl rfl (gets rfl rfl rfl hd_ rfl) ?_
 clear hd_
 refine vc_seq ?_
 refine vc_region hm ?_
 refine gB (u':=1) trivial rfl rfl rfl rfl rfl rfl rfl rfl ?_
 refine gM trivial (.inr rfl) rfl rfl rfl ?_
 refine rg_nil nofun ?_
 refine vc_seq ?_
 refine vc_region hm ?_
 refine gF trivial rfl rfl rfl rfl rfl ?_
 refine gL trivial rfl rfl rfl rfl rfl rfl rfl rfl ?_
 refine gM trivial (.inl rfl) rfl rfl rfl ?_
 refine gC0 [] (heldStringS_n (k:=k)) trivial rfl rfl rfl rfl (by trivial) rfl rfl rfl rfl rfl ?_
 refine gM trivial (.inr rfl) rfl rfl rfl ?_
 refine rg_nil nofun ?_
 refine vc_seq ?_
 refine vc_seq ?_
 refine vc_region hm ?_
 refine gM trivial (.inl rfl) rfl rfl rfl ?_
 refine gI trivial rfl rfl rfl rfl rfl rfl ?_
 refine rg_nil nofun ?_
 refine cF rfl (decide_eq_false (by omega)) ?_
 refine vc_skip ?_
 refine vc_seq ?_
 refine vc_region hm ?_
 refine gF trivial rfl rfl rfl rfl rfl ?_
 refine gL trivial rfl rfl rfl rfl rfl rfl rfl rfl ?_
 refine gM trivial (.inl rfl) rfl rfl rfl ?_
 refine gC0 [] (heldStringS_n (k:=k)) trivial rfl rfl rfl rfl (by trivial) rfl rfl rfl rfl rfl ?_
 refine gM trivial (.inr rfl) rfl rfl rfl ?_
 refine rg_nil nofun ?_
 refine vc_seq ?_
 refine vc_seq ?_
 refine vc_region hm ?_
 refine gM trivial (.inl rfl) rfl rfl rfl ?_
 refine gI trivial rfl rfl rfl rfl rfl rfl ?_
 refine rg_nil nofun ?_
 refine cF rfl (decide_eq_false (by omega)) ?_
 refine vc_skip ?_
 refine vc_seq ?_
 refine vc_region hm ?_
 refine gF trivial rfl rfl rfl rfl rfl ?_
 refine gL trivial rfl rfl rfl rfl rfl rfl rfl rfl ?_
 refine gM trivial (.inl rfl) rfl rfl rfl ?_
 refine gC0 [] (heldIntS_n (k:=k)) trivial rfl rfl rfl rfl (by trivial) rfl rfl rfl rfl rfl ?_
 refine gM trivial (.inr rfl) rfl rfl rfl ?_
 refine rg_nil nofun ?_
 refine vc_seq ?_
 refine vc_seq ?_
 refine vc_region hm ?_
 refine gM trivial (.inl rfl) rfl rfl rfl ?_
 refine gI trivial rfl rfl rfl rfl rfl rfl ?_
 refine rg_nil nofun ?_
 refine cF rfl (decide_eq_false (by omega)) ?_
 refine vc_skip ?_
 refine vc_seq ?_
 refine vc_region hm ?_
 refine gF trivial rfl rfl rfl rfl rfl ?_
 refine gL trivial rfl rfl rfl rfl rfl rfl rfl rfl ?_
 refine gM trivial (.inl rfl) rfl rfl rfl ?_
 refine gC0 [] (heldIntS_n (k:=k)) trivial rfl rfl rfl rfl (by trivial) rfl rfl rfl rfl rfl ?_
 refine gM trivial (.inr rfl) rfl rfl rfl ?_
 refine rg_nil nofun ?_
 refine vc_seq ?_
 refine vc_seq ?_
 refine vc_region hm ?_
 refine gM trivial (.inl rfl) rfl rfl rfl ?_
 refine gI trivial rfl rfl rfl rfl rfl rfl ?_
 refine rg_nil nofun ?_
 refine cF rfl (decide_eq_false (by omega)) ?_
 refine vc_skip ?_
 refine vc_seq ?_
 refine vc_region hm ?_
 refine gF trivial rfl rfl rfl rfl rfl ?_
 refine gL trivial rfl rfl rfl rfl rfl rfl rfl rfl ?_
 refine gM trivial (.inl rfl) rfl rfl rfl ?_
 refine gC0 [] (heldIntS_n (k:=k)) trivial rfl rfl rfl rfl (by trivial) rfl rfl rfl rfl rfl ?_
 refine gM trivial (.inr rfl) rfl rfl rfl ?_
 refine rg_nil nofun ?_
 refine vc_seq ?_
 refine vc_seq ?_
 refine vc_region hm ?_
 refine gM trivial (.inl rfl) rfl rfl rfl ?_
 refine gI trivial rfl rfl rfl rfl rfl rfl ?_
 refine rg_nil nofun ?_
 refine cF rfl (decide_eq_false (by omega)) ?_
 refine vc_skip ?_
 refine vc_seq ?_
 refine vc_region hm ?_
 refine gM trivial (.inl rfl) rfl rfl rfl ?_
 refine gM trivial (.inr rfl) rfl rfl rfl ?_
 refine rg_nil nofun ?_
 refine vc_ret ?_
 exact ⟨idm,ends0 (.inr rfl) rfl rfl rfl rfl rfl⟩
theorem eqS_nn : FDoes Try.prog 45 [.slice none 0 0,.slice none 0 0] (hp []) { v:=.bool true }:=by
 have hm:Try.prog.follows .mixedOrders=true:=by kernel_rfl
 have hd_:∀ x ∈ ([]:List (Nat × Bool × Fam)),∀ k y,x.2.2 k=some y→DetB (lt 0) y:=fun x_ hx=>(by cases hx)
 refine fn_exact (u0:=0) Try.func45 rfl rfl (gets rfl rfl rfl hd_ rfl) ?_
 clear hd_
 refine vc_seq ?_
 refine vc_region hm ?_
 refine gM trivial (.inr rfl) rfl rfl rfl ?_
 refine rg_nil nofun ?_
 refine vc_seq ?_
 refine vc_seq ?_
 refine vc_region hm ?_
 refine gM trivial (.inl rfl) rfl rfl rfl ?_
 refine gKN trivial rfl rfl rfl rfl rfl ?_
 refine gM trivial (.inl rfl) rfl rfl rfl ?_
 refine gKN trivial rfl rfl rfl rfl rfl ?_
 refine gI trivial rfl rfl rfl rfl rfl rfl ?_
 refine rg_nil nofun ?_
 refine cF rfl rfl ?_
 refine vc_skip ?_
 refine vc_seq ?_
 refine vc_seq ?_
 refine vc_region hm ?_
 refine gM trivial (.inr rfl) rfl rfl rfl ?_
 refine rg_nil nofun ?_
 refine vc_block ?_
 refine vc_loop' (fun n_ S_=>∃ (j:Nat),j=0∧n_=0∧S_=⟨0,[(0,.slice none 0 0),(1,.slice none 0 0),(5,.int .i64 j)],[]⟩) (m0:=idm) ⟨0,rfl,rfl,rfl⟩ (le_mk rfl ⟨⟨rfl,rfl⟩,⟨rfl,rfl⟩,⟨rfl,rfl⟩,trivial⟩ trivial rfl (fun _ _=>rfl)) ?_
 rintro n_ S_ ⟨j,hj,rfl,rfl⟩
 refine vc_seq ?_
 refine vc_seq ?_
 refine vc_region hm ?_
 refine gM trivial (.inl rfl) rfl rfl rfl ?_
 refine gM trivial (.inl rfl) rfl rfl rfl ?_
 refine gKN trivial rfl rfl rfl rfl rfl ?_
 refine gI trivial rfl rfl rfl rfl rfl rfl ?_
 refine rg_nil nofun ?_
 refine cF rfl (decide_eq_false (by omega)) ?_
 refine vc_exit ?_
 refine vc_seq ?_
 refine vc_region hm ?_
 refine gM trivial (.inr rfl) rfl rfl rfl ?_
 refine rg_nil nofun ?_
 refine vc_ret ?_
 exact ⟨idm,ends0 (.inr rfl) rfl (eqB rfl) rfl rfl rfl⟩
theorem eqI_nn : FDoes Try.prog 36 [.slice none 0 0,.slice none 0 0] (hp []) { v:=.bool true }:=by
 have hm:Try.prog.follows .mixedOrders=true:=by kernel_rfl
 have hd_:∀ x ∈ ([]:List (Nat × Bool × Fam)),∀ k y,x.2.2 k=some y→DetB (lt 0) y:=fun x_ hx=>(by cases hx)
 refine fn_exact (u0:=0) Try.func36 rfl rfl (gets rfl rfl rfl hd_ rfl) ?_
 clear hd_
 refine vc_seq ?_
 refine vc_region hm ?_
 refine gM trivial (.inr rfl) rfl rfl rfl ?_
 refine rg_nil nofun ?_
 refine vc_seq ?_
 refine vc_seq ?_
 refine vc_region hm ?_
 refine gM trivial (.inl rfl) rfl rfl rfl ?_
 refine gKN trivial rfl rfl rfl rfl rfl ?_
 refine gM trivial (.inl rfl) rfl rfl rfl ?_
 refine gKN trivial rfl rfl rfl rfl rfl ?_
 refine gI trivial rfl rfl rfl rfl rfl rfl ?_
 refine rg_nil nofun ?_
 refine cF rfl rfl ?_
 refine vc_skip ?_
 refine vc_seq ?_
 refine vc_seq ?_
 refine vc_region hm ?_
 refine gM trivial (.inr rfl) rfl rfl rfl ?_
 refine rg_nil nofun ?_
 refine vc_block ?_
 refine vc_loop' (fun n_ S_=>∃ (j:Nat),j=0∧n_=0∧S_=⟨0,[(0,.slice none 0 0),(1,.slice none 0 0),(5,.int .i64 j)],[]⟩) (m0:=idm) ⟨0,rfl,rfl,rfl⟩ (le_mk rfl ⟨⟨rfl,rfl⟩,⟨rfl,rfl⟩,⟨rfl,rfl⟩,trivial⟩ trivial rfl (fun _ _=>rfl)) ?_
 rintro n_ S_ ⟨j,hj,rfl,rfl⟩
 refine vc_seq ?_
 refine vc_seq ?_
 refine vc_region hm ?_
 refine gM trivial (.inl rfl) rfl rfl rfl ?_
 refine gM trivial (.inl rfl) rfl rfl rfl ?_
 refine gKN trivial rfl rfl rfl rfl rfl ?_
 refine gI trivial rfl rfl rfl rfl rfl rfl ?_
 refine rg_nil nofun ?_
 refine cF rfl (decide_eq_false (by omega)) ?_
 refine vc_exit ?_
 refine vc_seq ?_
 refine vc_region hm ?_
 refine gM trivial (.inr rfl) rfl rfl rfl ?_
 refine rg_nil nofun ?_
 refine vc_ret ?_
 exact ⟨idm,ends0 (.inr rfl) rfl (eqB rfl) rfl rfl rfl⟩
theorem eqI_n : FDoes Try.prog 36 [.slice none 0 0,.slice (some ⟨0,0,none⟩) 0 0] (hp [(0,false,one ⟨rI [],3,0⟩)]) { v:=.bool true,rd:=[0] }:=by
 have hm:Try.prog.follows .mixedOrders=true:=by kernel_rfl
 have hd_:∀ x_ ∈ ([(0,false,one ⟨rI [],3,0⟩)]:List (Nat × Bool × Fam)),∀ k_ y_,x_.2.2 k_=some y_→DetB (lt 1) y_:=by
  intro x_ hx k_ y_ e
  simp only [List.mem_cons,List.not_mem_nil,or_false] at hx
  subst hx
  exact det_row (rI_flat []) e
 refine fn_exact (u0:=1) Try.func36 rfl rfl (gets rfl rfl rfl hd_ rfl) ?_
 clear hd_
 refine vc_seq ?_
 refine vc_region hm ?_
 refine gM trivial (.inr rfl) rfl rfl rfl ?_
 refine rg_nil nofun ?_
 refine vc_seq ?_
 refine vc_seq ?_
 refine vc_region hm ?_
 refine gM trivial (.inl rfl) rfl rfl rfl ?_
 refine gKN trivial rfl rfl rfl rfl rfl ?_
 refine gM trivial (.inl rfl) rfl rfl rfl ?_
 refine gK trivial rfl rfl rfl rfl rfl rfl rI_nil ?_
 refine gI trivial rfl rfl rfl rfl rfl rfl ?_
 refine rg_nil nofun ?_
 refine cF rfl rfl ?_
 refine vc_skip ?_
 refine vc_seq ?_
 refine vc_seq ?_
 refine vc_region hm ?_
 refine gM trivial (.inr rfl) rfl rfl rfl ?_
 refine rg_nil nofun ?_
 refine vc_block ?_
 refine vc_loop' (fun n_ S_=>∃ (j:Nat),j=0∧n_=0∧S_=⟨1,[(0,.slice none 0 0),(1,.slice (some ⟨0,0,none⟩) 0 0),(5,.int .i64 j)],[(0,false,one ⟨rI [],3,0⟩)]⟩) (m0:=idm) ⟨0,rfl,rfl,rfl⟩ (le_mk rfl ⟨⟨rfl,rfl⟩,⟨rfl,rfl⟩,⟨rfl,rfl⟩,trivial⟩ ⟨kFlat (rI_flat []) rfl id rfl,trivial⟩ rfl (fun _ _=>rfl)) ?_
 rintro n_ S_ ⟨j,hj,rfl,rfl⟩
 refine vc_seq ?_
 refine vc_seq ?_
 refine vc_region hm ?_
 refine gM trivial (.inl rfl) rfl rfl rfl ?_
 refine gM trivial (.inl rfl) rfl rfl rfl ?_
 refine gKN trivial rfl rfl rfl rfl rfl ?_
 refine gI trivial rfl rfl rfl rfl rfl rfl ?_
 refine rg_nil nofun ?_
 refine cF rfl (decide_eq_false (by omega)) ?_
 refine vc_exit ?_
 refine vc_seq ?_
 refine vc_region hm ?_
 refine gM trivial (.inr rfl) rfl rfl rfl ?_
 refine rg_nil nofun ?_
 refine vc_ret ?_
 exact ⟨idm,ends0 (.inr rfl) rfl (eqB rfl) rfl rfl rfl⟩
theorem eqStore_nn : FDoes Try.prog 14 [.agg #[.slice none 0 0,.slice none 0 0,.slice none 0 0,.slice none 0 0,.slice none 0 0],.agg #[.slice none 0 0,.slice none 0 0,.slice none 0 0,.slice none 0 0,.slice none 0 0]] (hp []) { v:=.bool true }:=by
 have hm:Try.prog.follows .mixedOrders=true:=by kernel_rfl
 have hd_:∀ x ∈ ([]:List (Nat × Bool × Fam)),∀ k y,x.2.2 k=some y→DetB (lt 0) y:=fun x_ hx=>(by cases hx)
 refine fn_exact (u0:=0) Try.func14 rfl rfl (gets rfl rfl rfl hd_ rfl) ?_
 clear hd_
 refine vc_seq ?_
 refine vc_region hm ?_
 refine gB (u':=1) trivial rfl rfl rfl rfl rfl rfl rfl rfl ?_
 refine gB (u':=2) trivial rfl rfl rfl rfl rfl rfl rfl rfl ?_
 refine gM trivial (.inr rfl) rfl rfl rfl ?_
 refine rg_nil nofun ?_
 refine vc_seq ?_
 refine vc_seq ?_
 refine vc_region hm ?_
 refine gF trivial rfl rfl rfl rfl rfl ?_
 refine gL trivial rfl rfl rfl rfl rfl rfl rfl rfl ?_
 refine gF trivial rfl rfl rfl rfl rfl ?_
 refine gL trivial rfl rfl rfl rfl rfl rfl rfl rfl ?_
 refine gC0 [] (eqS_nn) trivial rfl rfl rfl rfl (by trivial) rfl rfl rfl rfl rfl ?_
 refine gN trivial rfl rfl rfl rfl ?_
 refine rg_nil nofun ?_
 refine cF rfl (notT rfl) ?_
 refine vc_skip ?_
 refine vc_seq ?_
 refine vc_seq ?_
 refine vc_region hm ?_
 refine gF trivial rfl rfl rfl rfl rfl ?_
 refine gL trivial rfl rfl rfl rfl rfl rfl rfl rfl ?_
 refine gF trivial rfl rfl rfl rfl rfl ?_
 refine gL trivial rfl rfl rfl rfl rfl rfl rfl rfl ?_
 refine gC0 [] (eqS_nn) trivial rfl rfl rfl rfl (by trivial) rfl rfl rfl rfl rfl ?_
 refine gN trivial rfl rfl rfl rfl ?_
 refine rg_nil nofun ?_
 refine cF rfl (notT rfl) ?_
 refine vc_skip ?_
 refine vc_seq ?_
 refine vc_seq ?_
 refine vc_region hm ?_
 refine gF trivial rfl rfl rfl rfl rfl ?_
 refine gL trivial rfl rfl rfl rfl rfl rfl rfl rfl ?_
 refine gF trivial rfl rfl rfl rfl rfl ?_
 refine gL trivial rfl rfl rfl rfl rfl rfl rfl rfl ?_
 refine gC0 [] (eqI_nn) trivial rfl rfl rfl rfl (by trivial) rfl rfl rfl rfl rfl ?_
 refine gN trivial rfl rfl rfl rfl ?_
 refine rg_nil nofun ?_
 refine cF rfl (notT rfl) ?_
 refine vc_skip ?_
 refine vc_seq ?_
 refine vc_seq ?_
 refine vc_region hm ?_
 refine gF trivial rfl rfl rfl rfl rfl ?_
 refine gL trivial rfl rfl rfl rfl rfl rfl rfl rfl ?_
 refine gF trivial rfl rfl rfl rfl rfl ?_
 refine gL trivial rfl rfl rfl rfl rfl rfl rfl rfl ?_
 refine gC0 [] (eqI_nn) trivial rfl rfl rfl rfl (by trivial) rfl rfl rfl rfl rfl ?_
 refine gN trivial rfl rfl rfl rfl ?_
 refine rg_nil nofun ?_
 refine cF rfl (notT rfl) ?_
 refine vc_skip ?_
 refine vc_seq ?_
 refine vc_seq ?_
 refine vc_region hm ?_
 refine gF trivial rfl rfl rfl rfl rfl ?_
 refine gL trivial rfl rfl rfl rfl rfl rfl rfl rfl ?_
 refine gF trivial rfl rfl rfl rfl rfl ?_
 refine gL trivial rfl rfl rfl rfl rfl rfl rfl rfl ?_
 refine gC0 [] (eqI_nn) trivial rfl rfl rfl rfl (by trivial) rfl rfl rfl rfl rfl ?_
 refine gN trivial rfl rfl rfl rfl ?_
 refine rg_nil nofun ?_
 refine cF rfl (notT rfl) ?_
 refine vc_skip ?_
 refine vc_seq ?_
 refine vc_region hm ?_
 refine gM trivial (.inr rfl) rfl rfl rfl ?_
 refine rg_nil nofun ?_
 refine vc_ret ?_
 exact ⟨idm,ends0 (.inr rfl) rfl (eqB rfl) rfl rfl rfl⟩
def PartL (l M:List Rq) (o:Nat):Prop:=o + l.length≤M.length∧∀ i:Nat,(i:Int)<l.length→at_ l (i:Int)=at_ M ((o + i:Nat):Int)
theorem part_0 (l:List Rq):PartL l l 0:=⟨by omega,fun i _=>by rw [Nat.zero_add]⟩
theorem aRqP {l M:List Rq} {o:Nat} {i:Int} (hM:PartL l M o) (h0:0≤i) (h1:i<l.length):varV true 6 (rRq M) (o * 6 + i.toNat * 6)=some (vRq (at_ l i)):=by
 have h2:=hM.2 i.toNat (by omega)
 have h3:=hM.1
 have:=aRq (xs:=M) (i:=((o + i.toNat:Nat):Int)) (by omega) (by omega)
 rw [show 0 + ((o + i.toNat:Nat):Int).toNat * 6=o * 6 + i.toNat * 6 by omega,← h2,show ((i.toNat:Nat):Int)=i by omega] at this
 exact this
theorem rI_snoc {l:List Int} {c:Int}:rI l ++ [.int .i64 c]=rI (l ++ [c]):=by simp [rowL,eI]
theorem all_0 {s:Stv} {l:List Rq}:allSt s (l.take 0)=(s,[]):=by rw [List.take_zero,allSt]
theorem all_s {s x y:Stv} {l:List Rq} {cs:List Int} {c:Int} {j:Nat} (h:allSt s (l.take j)=(x,cs)) (hj:(j:Int)<l.length) (hd:doSt x (at_ l (j:Int))=(y,c)):allSt s (l.take (j + 1))=(y,cs ++ [c]):=by
 rw [all_step1 hj,h]
 show ((doSt x _).1,cs ++ [(doSt x _).2])=_
 rw [hd]
theorem all_k {s x:Stv} {l:List Rq} {cs:List Int} (h:allSt s l=(x,cs)) (hs:stOk s=true):stOk x=true:=by
 have:=all_ok (l:=l) hs
 rwa [h] at this
theorem all_n {s x:Stv} {l:List Rq} {cs:List Int} (h:allSt s l=(x,cs)):cs.length=l.length:=by
 have:=all_len (s:=s) (l:=l)
 rwa [h] at this
theorem all_nj {s x:Stv} {l:List Rq} {cs:List Int} {j:Nat} (h:allSt s (l.take j)=(x,cs)) (hj:j≤l.length):cs.length=j:=by
 rw [all_n h,List.length_take];omega
theorem all_e {s x:Stv} {l:List Rq} {cs:List Int} {j:Nat} (h:allSt s (l.take j)=(x,cs)) (hj:j≤l.length) (h1:¬ (j:Int)<l.length):allSt s l=(x,cs):=by
 rw [List.take_of_length_le (by omega)] at h
 exact h
theorem lq_b {l:List Rq} {j:Nat} (h:∀ q ∈ l,q.d.size≤1048576) (hj:(j:Int)<l.length):(at_ l (j:Int)).d.size≤1048576:=h _ (at_mem (by omega) hj)
theorem spec_StoreAll_c {s:Stv} {l M:List Rq} {kk cc o cl:Nat} (hM:PartL l M o) (h:stOk s=true) (hn:l.length≤1048576) (hq:∀ q ∈ l,q.d.size≤1048576):∃ E,FDoes Try.prog 33 [.agg #[.slice (some ⟨0,kk,none⟩) s.now.length cc,.slice (some ⟨1,0,none⟩) s.sure.length 0,.slice (some ⟨2,0,none⟩) s.last.length 0,.slice (some ⟨3,0,none⟩) s.slast.length 0,.slice (some ⟨4,0,none⟩) s.fl.length 0],.slice (some ⟨5,(o * 6),none⟩) l.length cl] (hp [(0,false,one ⟨hls kk (rS s.now),9,0⟩),(1,false,one ⟨rS s.sure,9,0⟩),(2,false,one ⟨rI s.last,3,0⟩),(3,false,one ⟨rI s.slast,3,0⟩),(4,false,one ⟨rI s.fl,3,0⟩),(5,false,one ⟨rRq M,63,0⟩)]) E∧∃ (x:Stv) (cs:List Int),allSt s l=(x,cs)∧E=mkF (.tuple #[.agg #[.slice (some ⟨6,0,none⟩) x.now.length 0,.slice (some ⟨7,0,none⟩) x.sure.length 0,.slice (some ⟨8,0,none⟩) x.last.length 0,.slice (some ⟨9,0,none⟩) x.slast.length 0,.slice (some ⟨10,0,none⟩) x.fl.length 0],.slice (some ⟨11,0,none⟩) cs.length 0]) [0,1,2,3,4,5] [] [(6,one ⟨rS x.now,9,1⟩),(7,one ⟨rS x.sure,9,1⟩),(8,one ⟨rI x.last,3,1⟩),(9,one ⟨rI x.slast,3,1⟩),(10,one ⟨rI x.fl,3,1⟩),(11,one ⟨rI cs,3,1⟩)]:=by
 have hm:Try.prog.follows .mixedOrders=true:=by kernel_rfl
 have hd_:∀ x_ ∈ ([(0,false,one ⟨hls kk (rS s.now),9,0⟩),(1,false,one ⟨rS s.sure,9,0⟩),(2,false,one ⟨rI s.last,3,0⟩),(3,false,one ⟨rI s.slast,3,0⟩),(4,false,one ⟨rI s.fl,3,0⟩),(5,false,one ⟨rRq M,63,0⟩)]:List (Nat × Bool × Fam)),∀ k_ y_,x_.2.2 k_=some y_→DetB (lt 6) y_:=by
  intro x_ hx k_ y_ e
  simp only [List.mem_cons,List.not_mem_nil,or_false] at hx
  rcases hx with rfl|rfl|rfl|rfl|rfl|rfl
  ·exact det_row (hls_flat (rS_flat s.now)) e
  ·exact det_row (rS_flat s.sure) e
  ·exact det_row (rI_flat s.last) e
  ·exact det_row (rI_flat s.slast) e
  ·exact det_row (rI_flat s.fl) e
  ·exact det_row (rRq_flat M) e
 refine fn_some (u0:=6) Try.func33 rfl rfl (gets rfl rfl rfl hd_ rfl) ?_
 clear hd_
 refine vc_seq ?_
 refine vc_region hm ?_
 refine gB (u':=7) trivial rfl rfl rfl rfl rfl rfl rfl rfl ?_
 refine gZ (u':=8) trivial rfl rfl rfl rfl rfl rfl rfl rfl ?_
 refine gM trivial (.inr rfl) rfl rfl rfl ?_
 refine rg_nil nofun ?_
 refine vc_seq ?_
 refine vc_region hm ?_
 refine gR (u':=9) (out:=rI []) trivial rfl rfl rfl rfl rfl rfl rfl rfl rfl rfl rfl rfl rfl rfl ?_
 refine gM trivial (.inr rfl) rfl rfl rfl ?_
 refine rg_nil nofun ?_
 refine vc_seq ?_
 refine vc_seq ?_
 refine vc_region hm ?_
 refine gL trivial rfl rfl rfl rfl rfl rfl rfl rfl ?_
 refine gC0 [0,1,2,3,4] (spec_StoreOk_c (s:=s) (kk:=kk) (cc:=cc) (sz_ok h)) trivial rfl rfl rfl rfl ⟨rFlat (hls_flat (rS_flat s.now)) rfl (.inl rfl) rfl,rFlat (rS_flat s.sure) rfl (.inl rfl) rfl,rFlat (rI_flat s.last) rfl (.inl rfl) rfl,rFlat (rI_flat s.slast) rfl (.inl rfl) rfl,rFlat (rI_flat s.fl) rfl (.inl rfl) rfl,trivial⟩ rfl rfl rfl rfl rfl ?_
 refine gN trivial rfl rfl rfl rfl ?_
 refine rg_nil nofun ?_
 refine cF rfl (notT h) ?_
 refine vc_skip ?_
 refine vc_seq ?_
 refine vc_region hm ?_
 refine gL trivial rfl rfl rfl rfl rfl rfl rfl rfl ?_
 refine gCn 14 [0,1,2,3,4,9,10,11,12,13] (l5Copy_c (s:=s) (kk:=kk) (cc:=cc) (sz_ok h)) trivial rfl rfl rfl rfl ⟨rFlat (hls_flat (rS_flat s.now)) rfl (.inl rfl) rfl,rFlat (rS_flat s.sure) rfl (.inl rfl) rfl,rFlat (rI_flat s.last) rfl (.inl rfl) rfl,rFlat (rI_flat s.slast) rfl (.inl rfl) rfl,rFlat (rI_flat s.fl) rfl (.inl rfl) rfl,trivial⟩ ⟨rS_flat s.now,rS_flat s.sure,rI_flat s.last,rI_flat s.slast,rI_flat s.fl,trivial⟩ rfl rfl rfl rfl ?_
 refine gZ (u':=15) trivial rfl rfl rfl rfl rfl rfl rfl rfl ?_
 refine gT trivial rfl rfl rfl rfl rfl rfl rfl rfl rfl rfl (Nat.le_of_ble_eq_true rfl) rfl ?_
 refine rg_nil nofun ?_
 refine vc_seq ?_
 refine vc_seq ?_
 refine vc_region hm ?_
 refine gM trivial (.inr rfl) rfl rfl rfl ?_
 refine rg_nil nofun ?_
 refine vc_block ?_
 refine vc_loopT (fun n_ S_=>∃ (j:Nat) (x:Stv) (cs:List Int),j≤l.length∧allSt s (l.take j)=(x,cs)∧n_=l.length - j∧S_=⟨14,[(1,.slice (some ⟨5,(o * 6),none⟩) l.length cl),(4,.pointer (some ⟨6,0,none⟩)),(6,.slice (some ⟨7,0,none⟩) cs.length 0),(7,.pointer (some ⟨13,0,none⟩)),(8,.int .i64 j)],[(0,false,one ⟨hls kk (rS s.now),9,0⟩),(1,false,one ⟨rS s.sure,9,0⟩),(2,false,one ⟨rI s.last,3,0⟩),(3,false,one ⟨rI s.slast,3,0⟩),(4,false,one ⟨rI s.fl,3,0⟩),(5,false,one ⟨rRq M,63,0⟩),(6,true,one ⟨[.slice none 0 0,.slice none 0 0,.slice none 0 0,.slice none 0 0,.slice none 0 0],25,5⟩),(7,true,one ⟨rI cs,3,1⟩),(8,true,one ⟨rS x.now,9,1⟩),(9,true,one ⟨rS x.sure,9,1⟩),(10,true,one ⟨rI x.last,3,1⟩),(11,true,one ⟨rI x.slast,3,1⟩),(12,true,one ⟨rI x.fl,3,1⟩),(13,true,one ⟨[.slice (some ⟨8,0,none⟩) x.now.length 0,.slice (some ⟨9,0,none⟩) x.sure.length 0,.slice (some ⟨10,0,none⟩) x.last.length 0,.slice (some ⟨11,0,none⟩) x.slast.length 0,.slice (some ⟨12,0,none⟩) x.fl.length 0],25,5⟩)]⟩) ⟨0,s,[],(Nat.zero_le _),all_0,rfl,rfl⟩ (re_nil (ms:=[0,1,2,3,4,5,7,8,9,10,11,12,13,14]) (C:=999) rfl ⟨⟨⟨rfl,rfl⟩,rfl⟩,⟨⟨rfl,rfl⟩,rfl⟩,⟨⟨rfl,rfl⟩,rfl⟩,⟨⟨rfl,rfl⟩,rfl⟩,⟨⟨rfl,rfl⟩,rfl⟩,trivial⟩ ⟨ktFlat (hls_flat (rS_flat s.now)) rfl (.inl rfl) id rfl,ktFlat (rS_flat s.sure) rfl (.inl rfl) id rfl,ktFlat (rI_flat s.last) rfl (.inl rfl) id rfl,ktFlat (rI_flat s.slast) rfl (.inl rfl) id rfl,ktFlat (rI_flat s.fl) rfl (.inl rfl) id rfl,ktFlat (rRq_flat _) rfl (.inl rfl) id rfl,ktRow rfl rfl rfl (BlkW.refl _) id rfl,ktFlat (rI_flat _) rfl (.inr (.inl rfl)) id rfl,ktFlat (rS_flat _) rfl (.inr (.inl rfl)) id rfl,ktFlat (rS_flat _) rfl (.inr (.inl rfl)) id rfl,ktFlat (rI_flat _) rfl (.inr (.inl rfl)) id rfl,ktFlat (rI_flat _) rfl (.inr (.inl rfl)) id rfl,ktFlat (rI_flat _) rfl (.inr (.inl rfl)) id rfl,ktRow rfl rfl rfl ⟨.inl rfl,fun _=>rfl,.inr (.inl rfl),fun q=>(by cases q)⟩ id rfl,trivial⟩ rfl rfl (rig_of rfl) rfl) ?_
 rintro n_ S_ ⟨j,x,cs,hj,ha,rfl,rfl⟩
 have hx:stOk x=true:=all_k ha h
 have hcn:=all_nj ha hj
 refine vc_seq ?_
 refine vc_seq ?_
 refine vc_region hm ?_
 refine gM trivial (.inl rfl) rfl rfl rfl ?_
 refine gM trivial (.inl rfl) rfl rfl rfl ?_
 refine gK trivial rfl rfl rfl rfl rfl rfl (fun e=>by have:=rRq_nil e;have:=hM.1;omega) ?_
 refine gI trivial rfl rfl rfl rfl rfl rfl ?_
 refine rg_nil nofun ?_
 refine cI rfl (fun c21=>?_) (fun c21=>?_)
 ·skip
  have p21:=of_decide_eq_true c21
  refine vc_skip ?_
  refine vc_seq ?_
  refine vc_block ?_
  refine vc_seq ?_
  refine vc_region hm ?_
  refine gM trivial (.inr rfl) rfl rfl rfl ?_
  refine rg_nil nofun ?_
  refine vc_seq ?_
  refine vc_region hm ?_
  refine gL trivial rfl rfl rfl rfl rfl rfl rfl rfl ?_
  refine gM trivial (.inl rfl) rfl rfl rfl ?_
  refine gM trivial (.inl rfl) rfl rfl rfl ?_
  refine gX trivial rfl rfl rfl rfl rfl rfl rfl rfl (by omega) p21 (fun h=>rRq_ne (by have:=hM.1;omega)) ?_
  refine gL trivial rfl rfl rfl rfl rfl rfl rfl (aRqP hM (by omega) p21) ?_
  obtain ⟨E2,hE2,x2,c2,d2,rfl⟩:=l5Do_c (s:=x) (q:=at_ l (j:Int)) hx (lq_b hq p21)
  refine gCF (ups':=[(8,one ⟨rS x2.now,9,1⟩),(10,one ⟨rI x2.last,3,1⟩)]) (as':=[]) (v':=.tuple #[.agg #[.slice (some ⟨8,0,none⟩) x2.now.length 0,.slice (some ⟨9,0,none⟩) x2.sure.length 0,.slice (some ⟨10,0,none⟩) x2.last.length 0,.slice (some ⟨11,0,none⟩) x2.slast.length 0,.slice (some ⟨12,0,none⟩) x2.fl.length 0],.int .i64 c2]) 14 [8,9,10,11,12] hE2 trivial rfl rfl rfl rfl ⟨rFlat (rS_flat x.now) rfl (.inr rfl) rfl,rFlat (rS_flat x.sure) rfl (.inl rfl) rfl,rFlat (rI_flat x.last) rfl (.inr rfl) rfl,rFlat (rI_flat x.slast) rfl (.inl rfl) rfl,rFlat (rI_flat x.fl) rfl (.inl rfl) rfl,trivial⟩ ⟨frF (rS_flat _) rfl,frF (rI_flat _) rfl,trivial⟩ trivial rfl rfl (ho2 ⟨_,rfl⟩ ⟨_,rfl⟩) (hu2 rfl rfl) rfl rfl ?_
  refine gM trivial (.inl rfl) rfl rfl rfl ?_
  refine gE trivial rfl rfl rfl rfl rfl rfl ?_
  refine gE trivial rfl rfl rfl rfl rfl rfl ?_
  refine gT trivial rfl rfl rfl rfl rfl rfl rfl rfl rfl rfl (Nat.le_of_ble_eq_true rfl) rfl ?_
  refine gM trivial (.inr rfl) rfl rfl rfl ?_
  refine rg_nil (fun _=>by kernel_rfl) ?_
  refine vc_region hm ?_
  refine gM trivial (.inl rfl) rfl rfl rfl ?_
  refine gM trivial (.inl rfl) rfl rfl rfl ?_
  refine gR (u':=15) trivial rfl rfl rfl rfl rfl rfl rfl rfl rfl rfl rfl rfl rfl rfl ?_
  refine gAp (u':=16) trivial rfl rfl rfl rfl rfl rfl rfl rfl rfl rfl rfl rfl (by rw [rowL_len (n:=1) (fun _=>rfl)]) (Nat.le_refl _) rfl (show (cs.length + 1) * (8 + 1)≤140737488355328 by rw [hcn];omega) rI_snoc rfl ?_
  refine gM trivial (.inr rfl) rfl rfl rfl ?_
  refine rg_nil nofun ?_
  refine vc_region hm ?_
  refine gM trivial (.inl rfl) rfl rfl rfl ?_
  refine gA trivial rfl rfl rfl rfl rfl rfl (by omega) ?_
  refine gM trivial (.inr rfl) rfl rfl rfl ?_
  refine rg_nil nofun ?_
  exact lp_nextT ⟨j + 1,x2,cs ++ [c2],(by omega),(all_s ha p21 d2),rfl,rfl⟩ (by omega) (re_nil (ms:=[0,1,2,3,4,5,6,15,8,9,10,11,12,13]) (C:=999) rfl ⟨⟨⟨rfl,rfl⟩,rfl⟩,⟨⟨rfl,rfl⟩,rfl⟩,⟨⟨rfl,by rw [List.length_append];rfl⟩,rfl⟩,⟨⟨rfl,rfl⟩,rfl⟩,⟨⟨rfl,rfl⟩,rfl⟩,trivial⟩ ⟨ktFlat (hls_flat (rS_flat s.now)) rfl (.inl rfl) id rfl,ktFlat (rS_flat s.sure) rfl (.inl rfl) id rfl,ktFlat (rI_flat s.last) rfl (.inl rfl) id rfl,ktFlat (rI_flat s.slast) rfl (.inl rfl) id rfl,ktFlat (rI_flat s.fl) rfl (.inl rfl) id rfl,ktFlat (rRq_flat _) rfl (.inl rfl) id rfl,ktRow rfl rfl rfl (BlkW.refl _) id rfl,ktFlat (rI_flat _) rfl (.inr (.inl rfl)) id rfl,ktFlat (rS_flat _) rfl (.inr (.inl rfl)) id rfl,(by rw [(do_same d2).1];exact ktFlat (rS_flat _) rfl (.inr (.inl rfl)) id rfl),ktFlat (rI_flat _) rfl (.inr (.inl rfl)) id rfl,(by rw [(do_same d2).2.1];exact ktFlat (rI_flat _) rfl (.inr (.inl rfl)) id rfl),(by rw [(do_same d2).2.2];exact ktFlat (rI_flat _) rfl (.inr (.inl rfl)) id rfl),ktRow rfl rfl rfl ⟨.inl rfl,fun _=>rfl,.inr (.inl rfl),fun q=>(by cases q)⟩ id rfl,trivial⟩ rfl rfl (rig_of rfl) rfl)
 ·skip
  have p21:=of_decide_eq_false c21
  refine vc_exit ?_
  refine vc_seq ?_
  refine vc_region hm ?_
  refine gL trivial rfl rfl rfl rfl rfl rfl rfl rfl ?_
  refine gM trivial (.inl rfl) rfl rfl rfl ?_
  refine gT trivial rfl rfl rfl rfl rfl rfl rfl rfl rfl rfl (Nat.le_of_ble_eq_true rfl) rfl ?_
  refine gM trivial (.inr rfl) rfl rfl rfl ?_
  refine rg_nil nofun ?_
  refine vc_ret ?_
  exact ⟨mkF (.tuple #[.agg #[.slice (some ⟨6,0,none⟩) x.now.length 0,.slice (some ⟨7,0,none⟩) x.sure.length 0,.slice (some ⟨8,0,none⟩) x.last.length 0,.slice (some ⟨9,0,none⟩) x.slast.length 0,.slice (some ⟨10,0,none⟩) x.fl.length 0],.slice (some ⟨11,0,none⟩) cs.length 0]) [0,1,2,3,4,5] [] [(6,one ⟨rS x.now,9,1⟩),(7,one ⟨rS x.sure,9,1⟩),(8,one ⟨rI x.last,3,1⟩),(9,one ⟨rI x.slast,3,1⟩),(10,one ⟨rI x.fl,3,1⟩),(11,one ⟨rI cs,3,1⟩)],_,endsT [(6,8,one ⟨rS x.now,9,1⟩),(7,9,one ⟨rS x.sure,9,1⟩),(8,10,one ⟨rI x.last,3,1⟩),(9,11,one ⟨rI x.slast,3,1⟩),(10,12,one ⟨rI x.fl,3,1⟩),(11,7,one ⟨rI cs,3,1⟩)] (.inr rfl) (.cell rfl rfl rfl rfl rfl (.tmp rfl rfl .nil)) rfl rfl trivial ⟨asFlat rfl (rS_flat x.now),asFlat rfl (rS_flat x.sure),asFlat rfl (rI_flat x.last),asFlat rfl (rI_flat x.slast),asFlat rfl (rI_flat x.fl),asFlat rfl (rI_flat _),trivial⟩ rfl,x,cs,(all_e ha hj p21),rfl⟩
theorem impl_StoreAll_c {s:Stv} {l M:List Rq} {kk cc o cl:Nat} (hM:PartL l M o) (h:stOk s=true) (hn:l.length≤1048576) (hq:∀ q ∈ l,q.d.size≤1048576):∃ E,FDoes Try.prog 35 [.agg #[.slice (some ⟨0,kk,none⟩) s.now.length cc,.slice (some ⟨1,0,none⟩) s.sure.length 0,.slice (some ⟨2,0,none⟩) s.last.length 0,.slice (some ⟨3,0,none⟩) s.slast.length 0,.slice (some ⟨4,0,none⟩) s.fl.length 0],.slice (some ⟨5,(o * 6),none⟩) l.length cl] (hp [(0,false,one ⟨hls kk (rS s.now),9,0⟩),(1,false,one ⟨rS s.sure,9,0⟩),(2,false,one ⟨rI s.last,3,0⟩),(3,false,one ⟨rI s.slast,3,0⟩),(4,false,one ⟨rI s.fl,3,0⟩),(5,false,one ⟨rRq M,63,0⟩)]) E∧∃ (x:Stv) (cs:List Int),allSt s l=(x,cs)∧E=mkF (.tuple #[.agg #[.slice (some ⟨6,0,none⟩) x.now.length 0,.slice (some ⟨7,0,none⟩) x.sure.length 0,.slice (some ⟨8,0,none⟩) x.last.length 0,.slice (some ⟨9,0,none⟩) x.slast.length 0,.slice (some ⟨10,0,none⟩) x.fl.length 0],.slice (some ⟨11,0,none⟩) cs.length 0]) [0,1,2,3,4,5] [] [(6,one ⟨rS x.now,9,1⟩),(7,one ⟨rS x.sure,9,1⟩),(8,one ⟨rI x.last,3,1⟩),(9,one ⟨rI x.slast,3,1⟩),(10,one ⟨rI x.fl,3,1⟩),(11,one ⟨rI cs,3,1⟩)]:=by
 have hm:Try.prog.follows .mixedOrders=true:=by kernel_rfl
 have hd_:∀ x_ ∈ ([(0,false,one ⟨hls kk (rS s.now),9,0⟩),(1,false,one ⟨rS s.sure,9,0⟩),(2,false,one ⟨rI s.last,3,0⟩),(3,false,one ⟨rI s.slast,3,0⟩),(4,false,one ⟨rI s.fl,3,0⟩),(5,false,one ⟨rRq M,63,0⟩)]:List (Nat × Bool × Fam)),∀ k_ y_,x_.2.2 k_=some y_→DetB (lt 6) y_:=by
  intro x_ hx k_ y_ e
  simp only [List.mem_cons,List.not_mem_nil,or_false] at hx
  rcases hx with rfl|rfl|rfl|rfl|rfl|rfl
  ·exact det_row (hls_flat (rS_flat s.now)) e
  ·exact det_row (rS_flat s.sure) e
  ·exact det_row (rI_flat s.last) e
  ·exact det_row (rI_flat s.slast) e
  ·exact det_row (rI_flat s.fl) e
  ·exact det_row (rRq_flat M) e
 refine fn_some (u0:=6) Try.func35 rfl rfl (gets rfl rfl rfl hd_ rfl) ?_
 clear hd_
 refine vc_seq ?_
 refine vc_region hm ?_
 refine gB (u':=7) trivial rfl rfl rfl rfl rfl rfl rfl rfl ?_
 refine gZ (u':=8) trivial rfl rfl rfl rfl rfl rfl rfl rfl ?_
 refine gM trivial (.inr rfl) rfl rfl rfl ?_
 refine rg_nil nofun ?_
 refine vc_seq ?_
 refine vc_seq ?_
 refine vc_region hm ?_
 refine gL trivial rfl rfl rfl rfl rfl rfl rfl rfl ?_
 refine gC0 [0,1,2,3,4] (impl_StoreOk_c (s:=s) (kk:=kk) (cc:=cc) (sz_ok h)) trivial rfl rfl rfl rfl ⟨rFlat (hls_flat (rS_flat s.now)) rfl (.inl rfl) rfl,rFlat (rS_flat s.sure) rfl (.inl rfl) rfl,rFlat (rI_flat s.last) rfl (.inl rfl) rfl,rFlat (rI_flat s.slast) rfl (.inl rfl) rfl,rFlat (rI_flat s.fl) rfl (.inl rfl) rfl,trivial⟩ rfl rfl rfl rfl rfl ?_
 refine gN trivial rfl rfl rfl rfl ?_
 refine rg_nil nofun ?_
 refine cF rfl (notT h) ?_
 refine vc_skip ?_
 refine vc_seq ?_
 refine vc_region hm ?_
 refine gL trivial rfl rfl rfl rfl rfl rfl rfl rfl ?_
 refine gCn 13 [0,1,2,3,4,8,9,10,11,12] (again_c (s:=s) (kk:=kk) (cc:=cc) (sz_ok h) (stOk_in h).1) trivial rfl rfl rfl rfl ⟨rFlat (hls_flat (rS_flat s.now)) rfl (.inl rfl) rfl,rFlat (rS_flat s.sure) rfl (.inl rfl) rfl,rFlat (rI_flat s.last) rfl (.inl rfl) rfl,rFlat (rI_flat s.slast) rfl (.inl rfl) rfl,rFlat (rI_flat s.fl) rfl (.inl rfl) rfl,trivial⟩ ⟨rS_flat s.now,rS_flat s.sure,rI_flat s.last,rI_flat s.slast,rI_flat s.fl,trivial⟩ rfl rfl rfl rfl ?_
 refine gT trivial rfl rfl rfl rfl rfl rfl rfl rfl rfl rfl (Nat.le_of_ble_eq_true rfl) rfl ?_
 refine rg_nil nofun ?_
 refine vc_seq ?_
 refine vc_region hm ?_
 refine gR (u':=14) (out:=rI []) trivial rfl rfl rfl rfl rfl rfl rfl rfl rfl rfl rfl rfl rfl rfl ?_
 refine gM trivial (.inr rfl) rfl rfl rfl ?_
 refine rg_nil nofun ?_
 refine vc_seq ?_
 refine vc_seq ?_
 refine vc_region hm ?_
 refine gM trivial (.inl rfl) rfl rfl rfl ?_
 refine gK trivial rfl rfl rfl rfl rfl rfl (fun e=>by have:=rRq_nil e;have:=hM.1;omega) ?_
 refine gM trivial (.inl rfl) rfl rfl rfl ?_
 refine rg_nil nofun ?_
 refine vc_block ?_
 refine vc_loopT (fun n_ S_=>∃ (j:Nat) (x:Stv) (cs:List Int),j≤l.length∧allSt s (l.take j)=(x,cs)∧n_=l.length - j∧S_=⟨14,[(2,.pointer (some ⟨6,0,none⟩)),(4,.pointer (some ⟨7,0,none⟩)),(6,.slice (some ⟨13,0,none⟩) cs.length 0),(18,.slice (some ⟨5,(o * 6),none⟩) l.length cl),(19,.int .i64 l.length),(20,.int .i64 j)],[(0,false,one ⟨hls kk (rS s.now),9,0⟩),(1,false,one ⟨rS s.sure,9,0⟩),(2,false,one ⟨rI s.last,3,0⟩),(3,false,one ⟨rI s.slast,3,0⟩),(4,false,one ⟨rI s.fl,3,0⟩),(5,false,one ⟨rRq M,63,0⟩),(6,true,one ⟨[.slice (some ⟨8,0,none⟩) x.now.length 0,.slice (some ⟨9,0,none⟩) x.sure.length 0,.slice (some ⟨10,0,none⟩) x.last.length 0,.slice (some ⟨11,0,none⟩) x.slast.length 0,.slice (some ⟨12,0,none⟩) x.fl.length 0],25,5⟩),(7,true,one ⟨[.slice none 0 0,.slice none 0 0,.slice none 0 0,.slice none 0 0,.slice none 0 0],25,5⟩),(8,true,one ⟨rS x.now,9,1⟩),(9,true,one ⟨rS x.sure,9,1⟩),(10,true,one ⟨rI x.last,3,1⟩),(11,true,one ⟨rI x.slast,3,1⟩),(12,true,one ⟨rI x.fl,3,1⟩),(13,true,one ⟨rI cs,3,1⟩)]⟩) ⟨0,s,[],(Nat.zero_le _),all_0,rfl,rfl⟩ (re_nil (ms:=[0,1,2,3,4,5,6,7,8,9,10,11,12,13]) (C:=999) rfl ⟨⟨⟨rfl,rfl⟩,rfl⟩,⟨⟨rfl,rfl⟩,rfl⟩,⟨⟨rfl,rfl⟩,rfl⟩,⟨⟨rfl,rfl⟩,rfl⟩,⟨⟨rfl,rfl⟩,rfl⟩,⟨⟨rfl,rfl⟩,rfl⟩,trivial⟩ ⟨ktFlat (hls_flat (rS_flat s.now)) rfl (.inl rfl) id rfl,ktFlat (rS_flat s.sure) rfl (.inl rfl) id rfl,ktFlat (rI_flat s.last) rfl (.inl rfl) id rfl,ktFlat (rI_flat s.slast) rfl (.inl rfl) id rfl,ktFlat (rI_flat s.fl) rfl (.inl rfl) id rfl,ktFlat (rRq_flat _) rfl (.inl rfl) id rfl,ktRow rfl rfl rfl ⟨.inl rfl,fun _=>rfl,.inr (.inl rfl),fun q=>(by cases q)⟩ id rfl,ktRow rfl rfl rfl (BlkW.refl _) id rfl,ktFlat (rS_flat _) rfl (.inr (.inl rfl)) id rfl,ktFlat (rS_flat _) rfl (.inr (.inl rfl)) id rfl,ktFlat (rI_flat _) rfl (.inr (.inl rfl)) id rfl,ktFlat (rI_flat _) rfl (.inr (.inl rfl)) id rfl,ktFlat (rI_flat _) rfl (.inr (.inl rfl)) id rfl,ktFlat (rI_flat _) rfl (.inr (.inl rfl)) id rfl,trivial⟩ rfl rfl (rig_of rfl) rfl) ?_
 rintro n_ S_ ⟨j,x,cs,hj,ha,rfl,rfl⟩
 have hx:stOk x=true:=all_k ha h
 have hcn:=all_nj ha hj
 refine vc_seq ?_
 refine vc_region hm ?_
 refine gI trivial rfl rfl rfl rfl rfl rfl ?_
 refine rg_nil nofun ?_
 refine vc_seq ?_
 refine cI rfl (fun c21=>?_) (fun c21=>?_)
 ·skip
  have p21:=of_decide_eq_true c21
  refine vc_skip ?_
  refine vc_seq ?_
  refine vc_block ?_
  refine vc_seq ?_
  refine vc_region hm ?_
  refine gX trivial rfl rfl rfl rfl rfl rfl rfl rfl (by omega) p21 (fun h=>rRq_ne (by have:=hM.1;omega)) ?_
  refine gL trivial rfl rfl rfl rfl rfl rfl rfl (aRqP hM (by omega) p21) ?_
  refine gZ (u':=15) trivial rfl rfl rfl rfl rfl rfl rfl rfl ?_
  refine gT trivial rfl rfl rfl rfl rfl rfl rfl rfl rfl rfl (Nat.le_of_ble_eq_true rfl) rfl ?_
  refine rg_nil nofun ?_
  refine vc_seq ?_
  refine vc_region hm ?_
  refine gL trivial rfl rfl rfl rfl rfl rfl rfl rfl ?_
  refine gL trivial rfl rfl rfl rfl rfl rfl rfl rfl ?_
  obtain ⟨E2,hE2,x2,c2,d2,rfl⟩:=impl_StoreDo_c (s:=x) (q:=at_ l (j:Int)) (kk:=0) (cc:=0) hx (lq_b hq p21)
  refine gCF (ups':=[]) (as':=[(15,one ⟨rS x2.now,9,1⟩),(16,one ⟨rS x2.sure,9,1⟩),(17,one ⟨rI x2.last,3,1⟩),(18,one ⟨rI x2.slast,3,1⟩),(19,one ⟨rI x2.fl,3,1⟩)]) (v':=.tuple #[.agg #[.slice (some ⟨15,0,none⟩) x2.now.length 0,.slice (some ⟨16,0,none⟩) x2.sure.length 0,.slice (some ⟨17,0,none⟩) x2.last.length 0,.slice (some ⟨18,0,none⟩) x2.slast.length 0,.slice (some ⟨19,0,none⟩) x2.fl.length 0],.int .i64 c2]) 20 [8,9,10,11,12,15,16,17,18,19] hE2 trivial rfl rfl rfl rfl ⟨rFlat (rS_flat x.now) rfl (.inl rfl) rfl,rFlat (rS_flat x.sure) rfl (.inl rfl) rfl,rFlat (rI_flat x.last) rfl (.inl rfl) rfl,rFlat (rI_flat x.slast) rfl (.inl rfl) rfl,rFlat (rI_flat x.fl) rfl (.inl rfl) rfl,trivial⟩ trivial ⟨frF (rS_flat x2.now) rfl,frF (rS_flat x2.sure) rfl,frF (rI_flat x2.last) rfl,frF (rI_flat x2.slast) rfl,frF (rI_flat x2.fl) rfl,trivial⟩ rfl rfl (fun x hx=>nomatch hx) (fun x hx=>nomatch hx) rfl rfl ?_
  refine gM trivial (.inl rfl) rfl rfl rfl ?_
  refine gE trivial rfl rfl rfl rfl rfl rfl ?_
  refine gE trivial rfl rfl rfl rfl rfl rfl ?_
  refine gZ (u':=21) trivial rfl rfl rfl rfl rfl rfl rfl rfl ?_
  refine gT trivial rfl rfl rfl rfl rfl rfl rfl rfl rfl rfl (Nat.le_of_ble_eq_true rfl) rfl ?_
  refine gM trivial (.inr rfl) rfl rfl rfl ?_
  refine rg_nil nofun ?_
  refine vc_seq ?_
  refine vc_region hm ?_
  refine gL trivial rfl rfl rfl rfl rfl rfl rfl rfl ?_
  refine gT trivial rfl rfl rfl rfl rfl rfl rfl rfl rfl rfl (Nat.le_of_ble_eq_true rfl) rfl ?_
  refine rg_nil nofun ?_
  refine vc_region hm ?_
  refine gM trivial (.inl rfl) rfl rfl rfl ?_
  refine gM trivial (.inl rfl) rfl rfl rfl ?_
  refine gR (u':=22) trivial rfl rfl rfl rfl rfl rfl rfl rfl rfl rfl rfl rfl rfl rfl ?_
  refine gAp (u':=23) trivial rfl rfl rfl rfl rfl rfl rfl rfl rfl rfl rfl rfl (by rw [rowL_len (n:=1) (fun _=>rfl)]) (Nat.le_refl _) rfl (show (cs.length + 1) * (8 + 1)≤140737488355328 by rw [hcn];omega) rI_snoc rfl ?_
  refine gM trivial (.inr rfl) rfl rfl rfl ?_
  refine rg_nil nofun ?_
  refine vc_region hm ?_
  refine gA trivial rfl rfl rfl rfl rfl rfl (by omega) ?_
  refine gM trivial (.inl rfl) rfl rfl rfl ?_
  refine rg_nil nofun ?_
  exact lp_nextT ⟨j + 1,x2,cs ++ [c2],(by omega),(all_s ha p21 d2),rfl,rfl⟩ (by omega) (re_nil (ms:=[0,1,2,3,4,5,6,7,15,16,17,18,19,22]) (C:=999) rfl ⟨⟨⟨rfl,rfl⟩,rfl⟩,⟨⟨rfl,rfl⟩,rfl⟩,⟨⟨rfl,by rw [List.length_append];rfl⟩,rfl⟩,⟨⟨rfl,rfl⟩,rfl⟩,⟨⟨rfl,rfl⟩,rfl⟩,⟨⟨rfl,rfl⟩,rfl⟩,trivial⟩ ⟨ktFlat (hls_flat (rS_flat s.now)) rfl (.inl rfl) id rfl,ktFlat (rS_flat s.sure) rfl (.inl rfl) id rfl,ktFlat (rI_flat s.last) rfl (.inl rfl) id rfl,ktFlat (rI_flat s.slast) rfl (.inl rfl) id rfl,ktFlat (rI_flat s.fl) rfl (.inl rfl) id rfl,ktFlat (rRq_flat _) rfl (.inl rfl) id rfl,ktRow rfl rfl rfl ⟨.inl rfl,fun _=>rfl,.inr (.inl rfl),fun q=>(by cases q)⟩ id rfl,ktRow rfl rfl rfl (BlkW.refl _) id rfl,ktFlat (rS_flat _) rfl (.inr (.inl rfl)) id rfl,ktFlat (rS_flat _) rfl (.inr (.inl rfl)) id rfl,ktFlat (rI_flat _) rfl (.inr (.inl rfl)) id rfl,ktFlat (rI_flat _) rfl (.inr (.inl rfl)) id rfl,ktFlat (rI_flat _) rfl (.inr (.inl rfl)) id rfl,ktFlat (rI_flat _) rfl (.inr (.inl rfl)) id rfl,trivial⟩ rfl rfl (rig_of rfl) rfl)
 ·skip
  have p21:=of_decide_eq_false c21
  refine vc_exit ?_
  refine vc_seq ?_
  refine vc_region hm ?_
  refine gL trivial rfl rfl rfl rfl rfl rfl rfl rfl ?_
  refine gM trivial (.inl rfl) rfl rfl rfl ?_
  refine gT trivial rfl rfl rfl rfl rfl rfl rfl rfl rfl rfl (Nat.le_of_ble_eq_true rfl) rfl ?_
  refine gM trivial (.inr rfl) rfl rfl rfl ?_
  refine rg_nil nofun ?_
  refine vc_ret ?_
  exact ⟨mkF (.tuple #[.agg #[.slice (some ⟨6,0,none⟩) x.now.length 0,.slice (some ⟨7,0,none⟩) x.sure.length 0,.slice (some ⟨8,0,none⟩) x.last.length 0,.slice (some ⟨9,0,none⟩) x.slast.length 0,.slice (some ⟨10,0,none⟩) x.fl.length 0],.slice (some ⟨11,0,none⟩) cs.length 0]) [0,1,2,3,4,5] [] [(6,one ⟨rS x.now,9,1⟩),(7,one ⟨rS x.sure,9,1⟩),(8,one ⟨rI x.last,3,1⟩),(9,one ⟨rI x.slast,3,1⟩),(10,one ⟨rI x.fl,3,1⟩),(11,one ⟨rI cs,3,1⟩)],_,endsT [(6,8,one ⟨rS x.now,9,1⟩),(7,9,one ⟨rS x.sure,9,1⟩),(8,10,one ⟨rI x.last,3,1⟩),(9,11,one ⟨rI x.slast,3,1⟩),(10,12,one ⟨rI x.fl,3,1⟩),(11,13,one ⟨rI cs,3,1⟩)] (.inr rfl) (.cell rfl rfl rfl rfl rfl (.tmp rfl rfl .nil)) rfl rfl trivial ⟨asFlat rfl (rS_flat x.now),asFlat rfl (rS_flat x.sure),asFlat rfl (rI_flat x.last),asFlat rfl (rI_flat x.slast),asFlat rfl (rI_flat x.fl),asFlat rfl (rI_flat _),trivial⟩ rfl,x,cs,(all_e ha hj p21),rfl⟩
theorem impl_StoreAll_n {s:Stv} {l M:List Rq} {kk cc o cl:Nat} (hz:StSz s) (h:stOk s=false):FDoes Try.prog 35 [.agg #[.slice (some ⟨0,kk,none⟩) s.now.length cc,.slice (some ⟨1,0,none⟩) s.sure.length 0,.slice (some ⟨2,0,none⟩) s.last.length 0,.slice (some ⟨3,0,none⟩) s.slast.length 0,.slice (some ⟨4,0,none⟩) s.fl.length 0],.slice (some ⟨5,(o * 6),none⟩) l.length cl] (hp [(0,false,one ⟨hls kk (rS s.now),9,0⟩),(1,false,one ⟨rS s.sure,9,0⟩),(2,false,one ⟨rI s.last,3,0⟩),(3,false,one ⟨rI s.slast,3,0⟩),(4,false,one ⟨rI s.fl,3,0⟩),(5,false,one ⟨rRq M,63,0⟩)]) { v:=.tuple #[.agg #[.slice none 0 0,.slice none 0 0,.slice none 0 0,.slice none 0 0,.slice none 0 0],.slice none 0 0],rd:=[0,1,2,3,4,5] }:=by
 have hm:Try.prog.follows .mixedOrders=true:=by kernel_rfl
 have hd_:∀ x_ ∈ ([(0,false,one ⟨hls kk (rS s.now),9,0⟩),(1,false,one ⟨rS s.sure,9,0⟩),(2,false,one ⟨rI s.last,3,0⟩),(3,false,one ⟨rI s.slast,3,0⟩),(4,false,one ⟨rI s.fl,3,0⟩),(5,false,one ⟨rRq M,63,0⟩)]:List (Nat × Bool × Fam)),∀ k_ y_,x_.2.2 k_=some y_→DetB (lt 6) y_:=by
  intro x_ hx k_ y_ e
  simp only [List.mem_cons,List.not_mem_nil,or_false] at hx
  rcases hx with rfl|rfl|rfl|rfl|rfl|rfl
  ·exact det_row (hls_flat (rS_flat s.now)) e
  ·exact det_row (rS_flat s.sure) e
  ·exact det_row (rI_flat s.last) e
  ·exact det_row (rI_flat s.slast) e
  ·exact det_row (rI_flat s.fl) e
  ·exact det_row (rRq_flat M) e
 refine fn_exact (u0:=6) Try.func35 rfl rfl (gets rfl rfl rfl hd_ rfl) ?_
 clear hd_
 refine vc_seq ?_
 refine vc_region hm ?_
 refine gB (u':=7) trivial rfl rfl rfl rfl rfl rfl rfl rfl ?_
 refine gZ (u':=8) trivial rfl rfl rfl rfl rfl rfl rfl rfl ?_
 refine gM trivial (.inr rfl) rfl rfl rfl ?_
 refine rg_nil nofun ?_
 refine vc_seq ?_
 refine vc_seq ?_
 refine vc_region hm ?_
 refine gL trivial rfl rfl rfl rfl rfl rfl rfl rfl ?_
 refine gC0 [0,1,2,3,4] (impl_StoreOk_c (s:=s) (kk:=kk) (cc:=cc) hz) trivial rfl rfl rfl rfl ⟨rFlat (hls_flat (rS_flat s.now)) rfl (.inl rfl) rfl,rFlat (rS_flat s.sure) rfl (.inl rfl) rfl,rFlat (rI_flat s.last) rfl (.inl rfl) rfl,rFlat (rI_flat s.slast) rfl (.inl rfl) rfl,rFlat (rI_flat s.fl) rfl (.inl rfl) rfl,trivial⟩ rfl rfl rfl rfl rfl ?_
 refine gN trivial rfl rfl rfl rfl ?_
 refine rg_nil nofun ?_
 refine cT rfl (notF h) ?_
 refine vc_seq ?_
 refine vc_region hm ?_
 refine gU trivial rfl rfl rfl rfl rfl rfl rfl rfl ?_
 refine gT trivial rfl rfl rfl rfl rfl rfl rfl rfl rfl rfl (Nat.le_of_ble_eq_true rfl) rfl ?_
 refine gM trivial (.inr rfl) rfl rfl rfl ?_
 refine rg_nil nofun ?_
 refine vc_ret ?_
 exact ⟨idm,endsF (.inr rfl) (.cell rfl rfl rfl rfl rfl (.tmp rfl rfl .nil)) rfl rfl rfl⟩
theorem spec_StoreAll_n {s:Stv} {l M:List Rq} {kk cc o cl:Nat} (hz:StSz s) (h:stOk s=false):FDoes Try.prog 33 [.agg #[.slice (some ⟨0,kk,none⟩) s.now.length cc,.slice (some ⟨1,0,none⟩) s.sure.length 0,.slice (some ⟨2,0,none⟩) s.last.length 0,.slice (some ⟨3,0,none⟩) s.slast.length 0,.slice (some ⟨4,0,none⟩) s.fl.length 0],.slice (some ⟨5,(o * 6),none⟩) l.length cl] (hp [(0,false,one ⟨hls kk (rS s.now),9,0⟩),(1,false,one ⟨rS s.sure,9,0⟩),(2,false,one ⟨rI s.last,3,0⟩),(3,false,one ⟨rI s.slast,3,0⟩),(4,false,one ⟨rI s.fl,3,0⟩),(5,false,one ⟨rRq M,63,0⟩)]) (mkE (.tuple #[.agg #[.slice none 0 0,.slice none 0 0,.slice none 0 0,.slice none 0 0,.slice none 0 0],.slice (some ⟨6,0,none⟩) 0 0]) [0,1,2,3,4,5] [] [(6,⟨rI [],3,1⟩)]):=by
 have hm:Try.prog.follows .mixedOrders=true:=by kernel_rfl
 have hd_:∀ x_ ∈ ([(0,false,one ⟨hls kk (rS s.now),9,0⟩),(1,false,one ⟨rS s.sure,9,0⟩),(2,false,one ⟨rI s.last,3,0⟩),(3,false,one ⟨rI s.slast,3,0⟩),(4,false,one ⟨rI s.fl,3,0⟩),(5,false,one ⟨rRq M,63,0⟩)]:List (Nat × Bool × Fam)),∀ k_ y_,x_.2.2 k_=some y_→DetB (lt 6) y_:=by
  intro x_ hx k_ y_ e
  simp only [List.mem_cons,List.not_mem_nil,or_false] at hx
  rcases hx with rfl|rfl|rfl|rfl|rfl|rfl
  ·exact det_row (hls_flat (rS_flat s.now)) e
  ·exact det_row (rS_flat s.sure) e
  ·exact det_row (rI_flat s.last) e
  ·exact det_row (rI_flat s.slast) e
  ·exact det_row (rI_flat s.fl) e
  ·exact det_row (rRq_flat M) e
 refine fn_exact (u0:=6) Try.func33 rfl rfl (gets rfl rfl rfl hd_ rfl) ?_
 clear hd_
 refine vc_seq ?_
 refine vc_region hm ?_
 refine gB (u':=7) trivial rfl rfl rfl rfl rfl rfl rfl rfl ?_
 refine gZ (u':=8) trivial rfl rfl rfl rfl rfl rfl rfl rfl ?_
 refine gM trivial (.inr rfl) rfl rfl rfl ?_
 refine rg_nil nofun ?_
 refine vc_seq ?_
 refine vc_region hm ?_
 refine gR (u':=9) (out:=rI []) trivial rfl rfl rfl rfl rfl rfl rfl rfl rfl rfl rfl rfl rfl rfl ?_
 refine gM trivial (.inr rfl) rfl rfl rfl ?_
 refine rg_nil nofun ?_
 refine vc_seq ?_
 refine vc_seq ?_
 refine vc_region hm ?_
 refine gL trivial rfl rfl rfl rfl rfl rfl rfl rfl ?_
 refine gC0 [0,1,2,3,4] (spec_StoreOk_c (s:=s) (kk:=kk) (cc:=cc) hz) trivial rfl rfl rfl rfl ⟨rFlat (hls_flat (rS_flat s.now)) rfl (.inl rfl) rfl,rFlat (rS_flat s.sure) rfl (.inl rfl) rfl,rFlat (rI_flat s.last) rfl (.inl rfl) rfl,rFlat (rI_flat s.slast) rfl (.inl rfl) rfl,rFlat (rI_flat s.fl) rfl (.inl rfl) rfl,trivial⟩ rfl rfl rfl rfl rfl ?_
 refine gN trivial rfl rfl rfl rfl ?_
 refine rg_nil nofun ?_
 refine cT rfl (notF h) ?_
 refine vc_seq ?_
 refine vc_region hm ?_
 refine gU trivial rfl rfl rfl rfl rfl rfl rfl rfl ?_
 refine gM trivial (.inl rfl) rfl rfl rfl ?_
 refine gT trivial rfl rfl rfl rfl rfl rfl rfl rfl rfl rfl (Nat.le_of_ble_eq_true rfl) rfl ?_
 refine gM trivial (.inr rfl) rfl rfl rfl ?_
 refine rg_nil nofun ?_
 refine vc_ret ?_
 exact ⟨_,endsG [(6,8,⟨rI [],3,1⟩)] (.inr rfl) (.cell rfl rfl rfl rfl rfl (.tmp rfl rfl .nil)) rfl rfl trivial ⟨⟨rfl,rI_flat _⟩,trivial⟩ rfl⟩

end Go.Proofs.Ytolmblfffnnabaa.A
namespace Go.Proofs.Ytolmblfffnnabaa.A
open Go Go.RowKit
theorem all_inj {s x y:Stv} {l:List Rq} {c e:List Int} (h:allSt s l=(x,c)) (k:allSt s l=(y,e)):x=y∧c=e:=by
 rw [h] at k;cases k;exact ⟨rfl,rfl⟩
end Go.Proofs.Ytolmblfffnnabaa.A
namespace Go.Proofs.Ytolmblfffnnabaa.A
open Go Go.RowKit
open Go.Joins Go.ChangeShapes Go.WideShapes Go.Deep
def RawN (w:World) (v:Value) (N:Nam) (k n:Nat) (cs:List Value):Prop :=
 v=(if N.nil=true then zv N.z else .slice (some ⟨N.blk,k,none⟩) n (N.cap - 0))∧(if N.nil=true then hls k cs = [] else ∃ (c:Array Value) (t:TypeId) (z:Nat × Nat),w.heap[N.blk]?=some (.cells c t z)∧∀ (i:Nat) (x:Value),(hls k cs)[i]?=some x→x ≠ hole→c[i]?=some x)
theorem raw_none {w:World}:RawN w (.slice none 0 0) ⟨0,0,true,none⟩ 0 0 []:=⟨rfl,rfl⟩
theorem raw_of' {α:Type} {enc:α→List Value} {m:Nat} (he:∀ x,(enc x).length=m) (hm:0<m) {w:World} {a:Addr} {cap:Nat} {l:List α} (h:∀ i x,(rowL enc l)[i]?=some x→w.cell? (a.add i)=some x):∃ N k,RawN w (.slice (some a) l.length cap) N k l.length (rowL enc l)∧(N.nil=false→N.cap=cap):=by
 rcases l with _|⟨x,xs⟩
 ·exact ⟨⟨0,0,true,some (a,cap)⟩,0,⟨rfl,rfl⟩,fun q=>(by cases q)⟩
 ·have hp0:0<(rowL enc (x :: xs)).length:=by rw [rowL_len he,List.length_cons];exact Nat.mul_pos (Nat.succ_pos _) hm
  have h0:=h 0 _ (List.getElem?_eq_getElem hp0)
  have h1:∃ c t z,w.heap[a.block]?=some (.cells c t z)∧a.spot=none:=by
   have e:a.add 0=a:=by simp [Addr.add]
   unfold World.cell? at h0
   rw [e] at h0
   split at h0
   ·rename_i c t z hh
    refine ⟨c,t,z,hh,?_⟩
    split at h0
    ·cases h0
    ·rename_i hs;simpa using hs
   ·cases h0
  obtain ⟨c,t,z,hh,hs⟩:=h1
  obtain ⟨b,off,sp⟩:=a
  simp only at hs hh
  subst hs
  refine ⟨⟨b,cap,false,none⟩,off,⟨rfl,(if_neg Bool.false_ne_true).mpr ⟨c,t,z,hh,fun i v hv hne=>?_⟩⟩,fun _=>rfl⟩
  unfold hls at hv
  by_cases hi:i<off
  ·rw [List.getElem?_append_left (by simpa using hi)] at hv
   have:=List.mem_of_getElem? hv
   exact absurd (List.eq_of_mem_replicate this) hne
  ·rw [List.getElem?_append_right (by simpa using hi),List.length_replicate] at hv
   have:=h (i - off) v hv
   rw [add_eq,cell_eq hh] at this
   rw [← this]
   congr 1
   omega
theorem raw_of {α:Type} {enc:α→List Value} {m:Nat} (he:∀ x,(enc x).length=m) (hm:0<m) {w:World} {a:Addr} {cap:Nat} {l:List α} (h:∀ i x,(rowL enc l)[i]?=some x→w.cell? (a.add i)=some x):∃ N k,RawN w (.slice (some a) l.length cap) N k l.length (rowL enc l):=by
 obtain ⟨N,k,h1,_⟩:=raw_of' he hm (cap:=cap) h
 exact ⟨N,k,h1⟩
def envL (l:List Nam):Env:=fun n=>(l[n % 1000]?).getD ⟨0,0,true,none⟩
theorem raw_atR {w:World} {v:Value} {N:Nam} {k n:Nat} {cs:List Value} {t:TypeId} {l:List Nam} {b:Nat} (h:RawN w v N k n cs) (hf:cs.all flat1=true) (hb:l[b]?=some N) (hb':b<1000) (ht:N.nil=false→t - capT≤N.cap):famAt (envL l) w b (one ⟨hls k cs,t,0⟩):=by
 intro k' x e
 obtain ⟨rfl,rfl⟩:=one_some e
 have e1:envL l (nm b 0)=N:=by unfold envL;rw [nm_mod hb',hb];rfl
 unfold blkAt
 rw [e1]
 have h2:=h.2
 cases hn:N.nil with
 | true=>rw [hn,if_pos rfl] at h2;rw [if_pos rfl];exact ⟨h2,fun q=>absurd rfl q,(by decide:0<100)⟩
 | false =>
  rw [hn,if_neg (by decide)] at h2
  rw [if_neg (by decide),if_pos rfl]
  obtain ⟨c,t',z,h3,h4⟩:=h2
  refine ⟨c,t',z,h3,fun i v hv hne=>?_,ht hn⟩
  rw [r1_flat (List.all_eq_true.1 (hls_flat (k:=k) hf) v (List.mem_of_getElem? hv))]
  exact h4 i v hv hne
theorem raw_at {w:World} {v:Value} {N:Nam} {k n:Nat} {cs:List Value} {t:TypeId} {l:List Nam} {b:Nat} (h:RawN w v N k n cs) (hf:cs.all flat1=true) (hb:l[b]?=some N) (hb':b<1000) (ht:Nat.ble t capT=true:=by rfl):famAt (envL l) w b (one ⟨hls k cs,t,0⟩):=raw_atR h hf hb hb' fun _=>by rw [Nat.sub_eq_zero_of_le (Nat.le_of_ble_eq_true ht)];exact Nat.zero_le _
theorem raw_r1 {w:World} {v:Value} {N:Nam} {k n:Nat} {cs:List Value} {l:List Nam} {b:Nat} (h:RawN w v N k n cs) (hb:l[b]?=some N) (hb':b<1000):r1 (envL l) (.slice (some ⟨b,k,none⟩) n 0)=v:=by
 show (if (envL l b).nil=true then zv (envL l b).z else .slice (some ⟨(envL l b).blk,k,none⟩) n ((envL l b).cap - 0))=v
 have e1:envL l b=N:=by unfold envL;rw [Nat.mod_eq_of_lt hb',hb];rfl
 rw [e1,h.1]
def AtL (ρ:Env) (w:World):List (Nat × Bool × Fam)→Prop
 | []=>True
 | x :: l=>famAt ρ w x.1 x.2.2∧AtL ρ w l
theorem atL_mem {ρ:Env} {w:World}:∀ {l:List (Nat × Bool × Fam)},AtL ρ w l→∀ b o F,l.lookup b=some (o,F)→famAt ρ w b F
 | x :: l,h,b,o,F,e=>by
  obtain ⟨c,y⟩:=x
  rw [List.lookup_cons] at e
  by_cases hb:b=c
  ·subst hb
   simp at e
   subst e
   exact h.1
  ·have:(b == c)=false:=by simpa using hb
   rw [this] at e
   exact atL_mem h.2 b o F e
theorem law_done {P:Program} {f:FuncId} {args:List Value} {hl:List (Nat × Bool × Fam)} {rd:List Nat} {ρ:Env} {w:World} {vs:Array Value} (h:FDoes P f args (hp hl) { v:=.bool true,rd:=rd }) (ha:(args.map (r3 ρ)).toArray=vs) (hr:AtL ρ w hl) :
  Calls P f vs w fun e w'=>e = .returned (.bool true)∧Below w.heap.size w w':=by
 subst ha
 refine (h.run ρ w ⟨fun b _ o F e=>atL_mem hr b o F e,fun b hb=>(by cases hb)⟩).mono fun e w' ⟨ρ',hB,he⟩=>⟨he,?_⟩
 have hf:=hB.frm
 exact Frm.below ⟨hf.os,hf.tape,hf.output,hf.size,fun k hk hn=>hf.block k hk fun ⟨b,hb,_⟩=>(by cases hb)⟩
section
variable {H:Type} {enc:TypeId × Value→H} {P:Program} {w:World} {base:Nat} {spare:Nat→Bool} {held:Bool}
end
section
variable {H:Type} {enc:TypeId × Value→H} {w:World} {base:Nat} {spare:Nat→Bool} {held:Bool}
end
section
variable {H:Type} {enc:TypeId × Value→H} {P:Program} {w:World} {base:Nat} {spare:Nat→Bool} {held:Bool}
theorem open_agg5A {r:Reach} {b0:Nat} {t:TypeId} {f0 f1 f2 f3 f4:Field} {v:Value} {d:DataW H} {p:List MemPlace} (hs:P.underlying t=some (.struct #[f0,f1,f2,f3,f4])) (hone:oneCellFields P #[f0,f1,f2,f3,f4]=true) (hC:P.cellsOf t=5)
  (hv:Value.okWide P w r b0 t v) (h:DataW.Trod enc P w base spare held t v d p) :
  ∃ (v0 v1 v2 v3 v4:Value) (y0 y1 y2 y3 y4:DataW H × List MemPlace) (n:Nat),v = .agg #[v0,v1,v2,v3,v4] ∧
   DataW.trod enc P w base spare held n f0.type [v0]=some y0∧DataW.trod enc P w base spare held n f1.type [v1]=some y1∧DataW.trod enc P w base spare held n f2.type [v2]=some y2∧DataW.trod enc P w base spare held n f3.type [v3]=some y3∧DataW.trod enc P w base spare held n f4.type [v4]=some y4:=by
 obtain ⟨cs,rfl,hsz⟩:=okWide_struct hs hv
 obtain ⟨l⟩:=cs
 match l,hsz.trans hC with
 | [c0,c1,c2,c3,c4],_ =>
  obtain ⟨fuel,hf⟩:=h
  obtain ⟨xs,n,_,hx,_,hlen,hg⟩:=DataW.trod_struct hs hf
  obtain ⟨o0,k0⟩:=hone_of hone 0 f0 rfl
  obtain ⟨o1,k1⟩:=hone_of hone 1 f1 rfl
  obtain ⟨o2,k2⟩:=hone_of hone 2 f2 rfl
  obtain ⟨o3,k3⟩:=hone_of hone 3 f3 rfl
  obtain ⟨o4,k4⟩:=hone_of hone 4 f4 rfl
  match xs,hlen with
  | [y0,y1,y2,y3,y4],_ =>
   exact ⟨c0,c1,c2,c3,c4,y0,y1,y2,y3,y4,n,rfl,by simpa [Value.cells,o0,k0] using hg 0 f0 rfl,by simpa [Value.cells,o1,k1] using hg 1 f1 rfl,by simpa [Value.cells,o2,k2] using hg 2 f2 rfl,by simpa [Value.cells,o3,k3] using hg 3 f3 rfl,by simpa [Value.cells,o4,k4] using hg 4 f4 rfl⟩
theorem rd_strA {t e:TypeId} {fuel:Nat} {v:Value} {x:DataW H × List MemPlace} (ht:P.underlying t=some (.slice e)) (he:P.underlying e=some .string) (hc:P.cellsOf e=1) (h:DataW.trod enc P w base spare held fuel t [v]=some x) :
  ∃ (l:List ByteArray) (N:Nam) (k:Nat),RawN w v N k l.length (rS l)∧l.length≤9223372036854775807∧∀ s ∈ l,s.size≤9223372036854775807:=by
 rcases open_strings ht he hc h with ⟨h1,_⟩|⟨a,len,cap,ss,h1,_,hl,hm,hz,_,hcell,hws⟩
 ·simp only [List.cons.injEq,_root_.and_true] at h1
  subst h1
  exact ⟨[],_,_,raw_none,by decide,fun s hs=>(nomatch hs)⟩
 ·simp only [List.cons.injEq,_root_.and_true] at h1
  subst h1
  unfold maxLen at hm hws
  have hlz:len≤ss.length:=by rw [hz];split <;> omega
  have hn:(ss.take len).length=len:=by rw [List.length_take,Nat.min_eq_left hlz]
  have key:∀ i x,(rS (ss.take len))[i]?=some x→w.cell? (a.add i)=some x:=fun i x hx=>by
   have hi:=(List.getElem?_eq_some_iff.1 hx).1
   rw [rowL_len (n:=1) (fun _=>rfl),hn,Nat.mul_one] at hi
   have e1:x = .string (ss.getD i ByteArray.empty):=by
    have hg:=rowL_get (enc:=eS) (n:=1) (fun _=>rfl) (ss.take len) i 0 (by rw [hn];exact hi) (by decide)
    rw [Nat.mul_one,Nat.add_zero,hx,List.getElem_take] at hg
    rw [List.getD_eq_getElem?_getD,List.getElem?_eq_getElem (by omega)]
    exact Option.some.inj hg
   rw [e1]
   exact hcell i (by omega)
  obtain ⟨N,k,hr⟩:=raw_of (enc:=eS) (m:=1) (fun _=>rfl) (by decide) (cap:=cap) key
  exact ⟨ss.take len,N,k,by rw [hn] at hr ⊢;exact hr,by rw [hn];omega,fun s hs=>hws s (List.mem_of_mem_take hs)⟩
theorem rd_intA {t e:TypeId} {fuel:Nat} {v:Value} {x:DataW H × List MemPlace} (ht:P.underlying t=some (.slice e)) (he:P.underlying e=some (.int .i64)) (hc:P.cellsOf e=1) (h:DataW.trod enc P w base spare held fuel t [v]=some x) :
  ∃ (l:List Int) (N:Nam) (k:Nat),RawN w v N k l.length (rI l)∧l.length≤9223372036854775807:=by
 rcases open_ints ht he hc h with ⟨h1,_⟩|⟨a,len,cap,zs,h1,_,hl,hm,hz,_,hcell,_⟩
 ·simp only [List.cons.injEq,_root_.and_true] at h1
  subst h1
  exact ⟨[],_,_,raw_none,by decide⟩
 ·simp only [List.cons.injEq,_root_.and_true] at h1
  subst h1
  unfold maxLen at hm
  have hlz:len≤zs.length:=by rw [hz];split <;> omega
  have hn:(zs.take len).length=len:=by rw [List.length_take,Nat.min_eq_left hlz]
  have key:∀ i x,(rI (zs.take len))[i]?=some x→w.cell? (a.add i)=some x:=fun i x hx=>by
   have hi:=(List.getElem?_eq_some_iff.1 hx).1
   rw [rowL_len (n:=1) (fun _=>rfl),hn,Nat.mul_one] at hi
   have e1:x = .int .i64 (zs.getD i 0):=by
    have hg:=rowL_get (enc:=eI) (n:=1) (fun _=>rfl) (zs.take len) i 0 (by rw [hn];exact hi) (by decide)
    rw [Nat.mul_one,Nat.add_zero,hx,List.getElem_take] at hg
    rw [List.getD_eq_getElem?_getD,List.getElem?_eq_getElem (by omega)]
    exact Option.some.inj hg
   rw [e1]
   exact hcell i (by omega)
  obtain ⟨N,k,hr⟩:=raw_of (enc:=eI) (m:=1) (fun _=>rfl) (by decide) (cap:=cap) key
  exact ⟨zs.take len,N,k,by rw [hn] at hr ⊢;exact hr,by rw [hn];omega⟩
end
structure StF where
 s:Stv
 N0:Nam
 k0:Nat
 N1:Nam
 k1:Nat
 N2:Nam
 k2:Nat
 N3:Nam
 k3:Nat
 N4:Nam
 k4:Nat
structure RqF where
 l:List Rq
 N:Nam
 k:Nat
def StoreArg (w:World) (v:Value) (F:StF):Prop :=
 (∃ v0 v1 v2 v3 v4,v = .agg #[v0,v1,v2,v3,v4]∧RawN w v0 F.N0 F.k0 F.s.now.length (rS F.s.now)∧RawN w v1 F.N1 F.k1 F.s.sure.length (rS F.s.sure)∧RawN w v2 F.N2 F.k2 F.s.last.length (rI F.s.last)∧RawN w v3 F.N3 F.k3 F.s.slast.length (rI F.s.slast)∧RawN w v4 F.N4 F.k4 F.s.fl.length (rI F.s.fl)) ∧
  F.s.now.length≤9223372036854775807∧F.s.sure.length≤9223372036854775807∧F.s.last.length≤9223372036854775807∧F.s.slast.length≤9223372036854775807∧F.s.fl.length≤9223372036854775807∧(∀ x ∈ F.s.now,x.size≤9223372036854775807)∧(∀ x ∈ F.s.sure,x.size≤9223372036854775807)
def ReqsArg (w:World) (v:Value) (F:RqF):Prop:=RawN w v F.N F.k F.l.length (rRq F.l)∧F.l.length≤9223372036854775807∧∀ x ∈ F.l,x.d.size≤9223372036854775807
section
variable {w:World} {v:Value} {F:StF} {l:List Nam} {a b c d e t:Nat}
theorem storeArg_r3 (h:StoreArg w v F) (ha:l[a]?=some F.N0) (hb:l[b]?=some F.N1) (hc:l[c]?=some F.N2) (hd:l[d]?=some F.N3) (he:l[e]?=some F.N4) (ha':a<1000) (hb':b<1000) (hc':c<1000) (hd':d<1000) (he':e<1000) :
  r3 (envL l) (.agg #[.slice (some ⟨a,F.k0,none⟩) F.s.now.length 0,.slice (some ⟨b,F.k1,none⟩) F.s.sure.length 0,.slice (some ⟨c,F.k2,none⟩) F.s.last.length 0,.slice (some ⟨d,F.k3,none⟩) F.s.slast.length 0,.slice (some ⟨e,F.k4,none⟩) F.s.fl.length 0])=v:=by
 obtain ⟨⟨v0,v1,v2,v3,v4,rfl,h0,h1,h2,h3,h4⟩,_⟩:=h
 have e0:=raw_r1 h0 ha ha'
 have e1:=raw_r1 h1 hb hb'
 have e2:=raw_r1 h2 hc hc'
 have e3:=raw_r1 h3 hd hd'
 have e4:=raw_r1 h4 he he'
 simp only [r3,r2,List.map_toArray,List.map_cons,List.map_nil,e0,e1,e2,e3,e4]
theorem storeArg_at0 (h:StoreArg w v F) (ha:l[a]?=some F.N0) (ha':a<1000) (ht:Nat.ble t capT=true:=by rfl):famAt (envL l) w a (one ⟨hls F.k0 (rS F.s.now),t,0⟩):=by
 obtain ⟨⟨v0,v1,v2,v3,v4,rfl,h0,h1,h2,h3,h4⟩,_⟩:=h
 exact raw_at h0 (rS_flat _) ha ha' ht
theorem storeArg_at1 (h:StoreArg w v F) (ha:l[a]?=some F.N1) (ha':a<1000) (ht:Nat.ble t capT=true:=by rfl):famAt (envL l) w a (one ⟨hls F.k1 (rS F.s.sure),t,0⟩):=by
 obtain ⟨⟨v0,v1,v2,v3,v4,rfl,h0,h1,h2,h3,h4⟩,_⟩:=h
 exact raw_at h1 (rS_flat _) ha ha' ht
theorem storeArg_at2 (h:StoreArg w v F) (ha:l[a]?=some F.N2) (ha':a<1000) (ht:Nat.ble t capT=true:=by rfl):famAt (envL l) w a (one ⟨hls F.k2 (rI F.s.last),t,0⟩):=by
 obtain ⟨⟨v0,v1,v2,v3,v4,rfl,h0,h1,h2,h3,h4⟩,_⟩:=h
 exact raw_at h2 (rI_flat _) ha ha' ht
theorem storeArg_at3 (h:StoreArg w v F) (ha:l[a]?=some F.N3) (ha':a<1000) (ht:Nat.ble t capT=true:=by rfl):famAt (envL l) w a (one ⟨hls F.k3 (rI F.s.slast),t,0⟩):=by
 obtain ⟨⟨v0,v1,v2,v3,v4,rfl,h0,h1,h2,h3,h4⟩,_⟩:=h
 exact raw_at h3 (rI_flat _) ha ha' ht
theorem storeArg_at4 (h:StoreArg w v F) (ha:l[a]?=some F.N4) (ha':a<1000) (ht:Nat.ble t capT=true:=by rfl):famAt (envL l) w a (one ⟨hls F.k4 (rI F.s.fl),t,0⟩):=by
 obtain ⟨⟨v0,v1,v2,v3,v4,rfl,h0,h1,h2,h3,h4⟩,_⟩:=h
 exact raw_at h4 (rI_flat _) ha ha' ht
end
section
variable {w:World} {v:Value} {F:RqF} {l:List Nam} {a t:Nat}
theorem reqsArg_r3 (h:ReqsArg w v F) (ha:l[a]?=some F.N) (ha':a<1000):r3 (envL l) (.slice (some ⟨a,F.k,none⟩) F.l.length 0)=v:=raw_r1 h.1 ha ha'
theorem reqsArg_at (h:ReqsArg w v F) (ha:l[a]?=some F.N) (ha':a<1000) (ht:Nat.ble t capT=true:=by rfl):famAt (envL l) w a (one ⟨hls F.k (rRq F.l),t,0⟩):=raw_at h.1 (rRq_flat _) ha ha' ht
end
section
variable {H:Type} {enc:TypeId × Value→H} {w:World} {base:Nat} {spare:Nat→Bool} {held:Bool} {r:Reach} {b0:Nat} {v:Value} {d:DataW H} {p:List MemPlace}
theorem open_storeA (hv:Value.okWide Try.prog w r b0 30 v) (h:DataW.Trod enc Try.prog w base spare held 30 v d p):∃ F,StoreArg w v F:=by
 obtain ⟨v0,v1,v2,v3,v4,y0,y1,y2,y3,y4,n,rfl,h0,h1,h2,h3,h4⟩:=open_agg5A Try.underlying30 (by kernel_rfl) (by kernel_rfl) hv h
 have hs:Try.prog.cellsOf 9=1:=by kernel_rfl
 have hi:Try.prog.cellsOf 3=1:=by kernel_rfl
 obtain ⟨l0,N0,k0,q0,z0,x0⟩:=rd_strA Try.underlying22 Try.underlying9 hs h0
 obtain ⟨l1,N1,k1,q1,z1,x1⟩:=rd_strA Try.underlying22 Try.underlying9 hs h1
 obtain ⟨l2,N2,k2,q2,z2⟩:=rd_intA Try.underlying23 Try.underlying3 hi h2
 obtain ⟨l3,N3,k3,q3,z3⟩:=rd_intA Try.underlying23 Try.underlying3 hi h3
 obtain ⟨l4,N4,k4,q4,z4⟩:=rd_intA Try.underlying23 Try.underlying3 hi h4
 exact ⟨⟨⟨l0,l1,l2,l3,l4⟩,N0,k0,N1,k1,N2,k2,N3,k3,N4,k4⟩,⟨v0,v1,v2,v3,v4,rfl,q0,q1,q2,q3,q4⟩,z0,z1,z2,z3,z4,x0,x1⟩
theorem one_req {n:Nat} {a:Addr} {cs:List Value} {y:DataW H × List MemPlace} (hcs:w.cells? base a 6=some cs) (h:DataW.trod enc Try.prog w base spare held n 59 cs=some y):∃ q:Rq,(∀ j,j<6→w.cell? (a.add j)=(eRq q)[j]?)∧q.d.size≤9223372036854775807:=by
 obtain ⟨_,hlen,hcell⟩:=World.cells?_some hcs
 have hone:oneCellFields Try.prog (match Try.prog.underlying 59 with|some (.struct fs)=>fs|_=>#[])=true:=by kernel_rfl
 have hs:=Try.underlying59
 obtain ⟨xs,m,_,hx,_,hl,hg⟩:=DataW.trod_struct hs h
 rw [hs] at hone
 match xs,hl,cs,hlen with
 | [y0,y1,y2,y3,y4,y5],_,[v0,v1,v2,v3,v4,v5],_ =>
  have g0:=hg 0 _ rfl
  have g1:=hg 1 _ rfl
  have g2:=hg 2 _ rfl
  have g3:=hg 3 _ rfl
  have g4:=hg 4 _ rfl
  have g5:=hg 5 _ rfl
  have hs1:Try.prog.cellsOf 9=1:=by kernel_rfl
  have hi1:Try.prog.cellsOf 3=1:=by kernel_rfl
  simp [hi1,hs1] at g0 g1 g2 g3 g4 g5
  obtain ⟨n0,e0,_⟩:=DataW.trod_int Try.underlying3 g0
  obtain ⟨n1,e1,_⟩:=DataW.trod_int Try.underlying3 g1
  obtain ⟨n2,e2,_⟩:=DataW.trod_int Try.underlying3 g2
  obtain ⟨n3,e3,_⟩:=DataW.trod_int Try.underlying3 g3
  obtain ⟨n4,e4,_⟩:=DataW.trod_int Try.underlying3 g4
  obtain ⟨n5,e5,_,w5⟩:=DataW.trod_string Try.underlying9 g5
  simp only [List.cons.injEq,_root_.and_true] at e0 e1 e2 e3 e4 e5
  subst e0 e1 e2 e3 e4 e5
  refine ⟨⟨n0,n1,n2,n3,n4,n5⟩,fun j hj=>?_,w5⟩
  rw [hcell j hj]
  rfl
theorem open_reqsA (hv:Value.okWide Try.prog w r b0 47 v) (h:DataW.Trod enc Try.prog w base spare held 47 v d p):∃ F,ReqsArg w v F:=by
 obtain ⟨a1,len1,cap1,rfl⟩:=okWide_slice Try.underlying47 hv
 obtain ⟨fuel,hf⟩:=h
 have hC:Try.prog.cellsOf 59=6:=by kernel_rfl
 rcases open_slice Try.underlying47 hf with ⟨h1,_⟩|⟨a,len,cap,m,n,D,Pl,h1,_,hl,hm,hmm,_,hx⟩
 ·simp only [Value.cells,List.cons.injEq,_root_.and_true,Value.slice.injEq] at h1
  obtain ⟨rfl,rfl,rfl⟩:=h1
  exact ⟨⟨[],_,_⟩,raw_none,by decide,fun x hx=>(nomatch hx)⟩
 ·simp only [Value.cells,List.cons.injEq,_root_.and_true,Value.slice.injEq] at h1
  obtain ⟨rfl,rfl,rfl⟩:=h1
  unfold maxLen at hm
  have hlm:len1≤m:=by rw [hmm];split <;> omega
  rw [hC] at hx
  obtain ⟨f,hfq⟩:=choose_lt (n:=m) (p:=fun i (q:Rq)=>(∀ j,j<6→w.cell? (a.add (i * 6 + j))=(eRq q)[j]?)∧q.d.size≤9223372036854775807) fun i hi=>by
   obtain ⟨cs',h2,h3⟩:=hx i hi
   obtain ⟨q,hq1,hq2⟩:=one_req h2 h3
   exact ⟨q,fun j hj=>by rw [← hq1 j hj,add_add],hq2⟩
  have hn:((List.range len1).map f).length=len1:=by rw [List.length_map,List.length_range]
  have key:∀ i x,(rRq ((List.range len1).map f))[i]?=some x→w.cell? (a.add i)=some x:=fun i x hx=>by
   have hi:i<len1 * 6:=by
    have:=(List.getElem?_eq_some_iff.1 hx).1
    rw [rowL_len (n:=6) (fun _=>rfl),hn] at this
    exact this
   have hj:i / 6<len1:=by omega
   have hg:=rowL_get (enc:=eRq) (n:=6) (fun _=>rfl) ((List.range len1).map f) (i / 6) (i % 6) (by rw [hn];exact hj) (Nat.mod_lt _ (by decide))
   rw [show i / 6 * 6 + i % 6=i by omega,hx,List.getElem_map,List.getElem_range] at hg
   have:=(hfq (i / 6) (by omega)).1 (i % 6) (Nat.mod_lt _ (by decide))
   rw [show i / 6 * 6 + i % 6=i by omega] at this
   rw [this]
   exact hg.symm
  obtain ⟨N,k,hr⟩:=raw_of (enc:=eRq) (m:=6) (fun _=>rfl) (by decide) (cap:=cap1) key
  refine ⟨⟨(List.range len1).map f,N,k⟩,by show RawN w _ N k ((List.range len1).map f).length _;rw [hn] at hr ⊢;exact hr,by show ((List.range len1).map f).length≤_;rw [hn];omega,fun x hx=>?_⟩
  obtain ⟨i,hi,rfl⟩:=List.mem_map.1 hx
  exact (hfq i (by have:=List.mem_range.1 hi;omega)).2
end
end Go.Proofs.Ytolmblfffnnabaa.A
namespace Go.Proofs.Ytolmblfffnnabaa.A
open Go Go.RowKit
set_option maxHeartbeats 4000000
theorem FnExactStoreAll_c {s:Stv} {l:List Rq} {k0 k1 k2 k3 k4 k5:Nat} (a0:s.now.length≤9223372036854775807) (a1:s.sure.length≤9223372036854775807) (a2:s.last.length≤9223372036854775807) (a3:s.slast.length≤9223372036854775807) (a4:s.fl.length≤9223372036854775807) (b0:∀ x ∈ s.now,x.size≤9223372036854775807) (b1:∀ x ∈ s.sure,x.size≤9223372036854775807) (a5:l.length≤9223372036854775807) (b5:∀ x ∈ l,x.d.size≤9223372036854775807):FDoes Try.prog 10 [.agg #[.slice (some ⟨0,k0,none⟩) s.now.length 0,.slice (some ⟨1,k1,none⟩) s.sure.length 0,.slice (some ⟨2,k2,none⟩) s.last.length 0,.slice (some ⟨3,k3,none⟩) s.slast.length 0,.slice (some ⟨4,k4,none⟩) s.fl.length 0],.slice (some ⟨5,k5,none⟩) l.length 0] (hp [(0,false,one ⟨hls k0 (rS s.now),9,0⟩),(1,false,one ⟨hls k1 (rS s.sure),9,0⟩),(2,false,one ⟨hls k2 (rI s.last),3,0⟩),(3,false,one ⟨hls k3 (rI s.slast),3,0⟩),(4,false,one ⟨hls k4 (rI s.fl),3,0⟩),(5,false,one ⟨hls k5 (rRq l),59,0⟩)]) { v:=.bool true,rd:=[0,1,2,3,4,5] }:=by
 have hm:Try.prog.follows .mixedOrders=true:=by kernel_rfl
 have hd_:∀ x_ ∈ ([(0,false,one ⟨hls k0 (rS s.now),9,0⟩),(1,false,one ⟨hls k1 (rS s.sure),9,0⟩),(2,false,one ⟨hls k2 (rI s.last),3,0⟩),(3,false,one ⟨hls k3 (rI s.slast),3,0⟩),(4,false,one ⟨hls k4 (rI s.fl),3,0⟩),(5,false,one ⟨hls k5 (rRq l),59,0⟩)]:List (Nat × Bool × Fam)),∀ k_ y_,x_.2.2 k_=some y_→DetB (lt 6) y_:=by
  intro x_ hx k_ y_ e
  simp only [List.mem_cons,List.not_mem_nil,or_false] at hx
  rcases hx with rfl|rfl|rfl|rfl|rfl|rfl
  ·exact det_row (hls_flat (rS_flat s.now)) e
  ·exact det_row (hls_flat (rS_flat s.sure)) e
  ·exact det_row (hls_flat (rI_flat s.last)) e
  ·exact det_row (hls_flat (rI_flat s.slast)) e
  ·exact det_row (hls_flat (rI_flat s.fl)) e
  ·exact det_row (hls_flat (rRq_flat l)) e
 refine fn_exact (u0:=6) Try.func10 rfl rfl (gets rfl rfl rfl hd_ rfl) ?_
 clear hd_
 refine vc_seq ?_
 refine vc_region hm ?_
 refine gB (u':=7) trivial rfl rfl rfl rfl rfl rfl rfl rfl ?_
 refine gM trivial (.inr rfl) rfl rfl rfl ?_
 refine rg_nil nofun ?_
 refine vc_seq ?_
 refine vc_region hm ?_
 refine gM trivial (.inr rfl) rfl rfl rfl ?_
 refine rg_nil nofun ?_
 refine vc_seq ?_
 refine vc_region hm ?_
 refine gL trivial rfl rfl rfl rfl rfl rfl rfl rfl ?_
 refine gM trivial (.inl rfl) rfl rfl rfl ?_
 obtain ⟨E1,hE1,r1,q1a,q1b,q1c,rfl⟩:=szStore_c (s:=s) (k0:=k0) (k1:=k1) (k2:=k2) (k3:=k3) (k4:=k4) (left:=1048576) (by decide) (by decide) a0 a1 a2 a3 a4 b0 b1
 refine gCF (ups':=[]) (as':=[]) (v':=.int .i64 r1) 7 [0,1,2,3,4] hE1 trivial rfl rfl rfl rfl ⟨rFlat (hls_flat (rS_flat _)) rfl (.inl rfl) rfl,rFlat (hls_flat (rS_flat _)) rfl (.inl rfl) rfl,rFlat (hls_flat (rI_flat _)) rfl (.inl rfl) rfl,rFlat (hls_flat (rI_flat _)) rfl (.inl rfl) rfl,rFlat (hls_flat (rI_flat _)) rfl (.inl rfl) rfl,trivial⟩ trivial trivial rfl rfl (fun x hx=>nomatch hx) (fun x hx=>nomatch hx) rfl rfl ?_
 refine gM trivial (.inr rfl) rfl rfl rfl ?_
 refine rg_nil nofun ?_
 refine vc_seq ?_
 refine vc_seq ?_
 refine vc_region hm ?_
 refine gM trivial (.inl rfl) rfl rfl rfl ?_
 refine gI trivial rfl rfl rfl rfl rfl rfl ?_
 refine rg_nil nofun ?_
 refine cI rfl (fun c21=>?_) (fun c21=>?_)
 ·skip
  have p21:=of_decide_eq_true c21
  refine vc_seq ?_
  refine vc_region hm ?_
  refine gM trivial (.inr rfl) rfl rfl rfl ?_
  refine rg_nil nofun ?_
  refine vc_ret ?_
  exact ⟨idm,ends0 (.inr rfl) rfl (eqB rfl) rfl rfl rfl⟩
 ·skip
  have p21:=of_decide_eq_false c21
  refine vc_skip ?_
  refine vc_seq ?_
  have hz:=q1c (by omega)
  refine vc_region hm ?_
  refine gM trivial (.inl rfl) rfl rfl rfl ?_
  refine gM trivial (.inl rfl) rfl rfl rfl ?_
  obtain ⟨E3,hE3,r3,q3a,q3b,q3c,rfl⟩:=szReqS_c (l:=l) (k:=k5) (left:=r1) (by omega) (by omega) a5 b5
  refine gCF (ups':=[]) (as':=[]) (v':=.int .i64 r3) 7 [5] hE3 trivial rfl rfl rfl rfl ⟨rFlat (hls_flat (rRq_flat _)) rfl (.inl rfl) rfl,trivial⟩ trivial trivial rfl rfl (fun x hx=>nomatch hx) (fun x hx=>nomatch hx) rfl rfl ?_
  refine gM trivial (.inr rfl) rfl rfl rfl ?_
  refine rg_nil nofun ?_
  refine vc_seq ?_
  refine vc_seq ?_
  refine vc_region hm ?_
  refine gM trivial (.inl rfl) rfl rfl rfl ?_
  refine gI trivial rfl rfl rfl rfl rfl rfl ?_
  refine rg_nil nofun ?_
  refine cI rfl (fun c26=>?_) (fun c26=>?_)
  ·skip
   have p26:=of_decide_eq_true c26
   refine vc_seq ?_
   refine vc_region hm ?_
   refine gM trivial (.inr rfl) rfl rfl rfl ?_
   refine rg_nil nofun ?_
   refine vc_ret ?_
   exact ⟨idm,ends0 (.inr rfl) rfl (eqB rfl) rfl rfl rfl⟩
  ·skip
   have p26:=of_decide_eq_false c26
   refine vc_skip ?_
   refine vc_seq ?_
   rcases Bool.eq_false_or_eq_true (stOk s) with hk|hk
   ·skip
    have hl5:=q3c (by omega)
    have hn:l.length≤1048576:=by omega
    have hQ:∀ q ∈ l,q.d.size≤1048576:=fun q hh=>by have:=hl5.2 q hh;omega
    refine vc_region hm ?_
    refine gL trivial rfl rfl rfl rfl rfl rfl rfl rfl ?_
    refine gCn 12 [0,1,2,3,4,7,8,9,10,11] (toStore_c (s:=s) (k0:=k0) (k1:=k1) (k2:=k2) (k3:=k3) (k4:=k4) hz) trivial rfl rfl rfl rfl ⟨rFlat (hls_flat (rS_flat _)) rfl (.inl rfl) rfl,rFlat (hls_flat (rS_flat _)) rfl (.inl rfl) rfl,rFlat (hls_flat (rI_flat _)) rfl (.inl rfl) rfl,rFlat (hls_flat (rI_flat _)) rfl (.inl rfl) rfl,rFlat (hls_flat (rI_flat _)) rfl (.inl rfl) rfl,trivial⟩ ⟨rS_flat _,rS_flat _,rI_flat _,rI_flat _,rI_flat _,trivial⟩ rfl rfl rfl rfl ?_
    refine gM trivial (.inl rfl) rfl rfl rfl ?_
    refine gCn 13 [5,12] (toRq_c (l:=l) (k:=k5) hn) trivial rfl rfl rfl rfl ⟨rFlat (hls_flat (rRq_flat _)) rfl (.inl rfl) rfl,trivial⟩ ⟨rRq_flat _,trivial⟩ rfl rfl rfl rfl ?_
    obtain ⟨E5,hE5,x5,c5,d5,rfl⟩:=spec_StoreAll_c (s:=s) (l:=l) (M:=l) (kk:=0) (cc:=0) (o:=0) (cl:=0) (part_0 _) hk hn hQ
    refine gCF (ups':=[]) (as':=[(13,one ⟨rS x5.now,9,1⟩),(14,one ⟨rS x5.sure,9,1⟩),(15,one ⟨rI x5.last,3,1⟩),(16,one ⟨rI x5.slast,3,1⟩),(17,one ⟨rI x5.fl,3,1⟩),(18,one ⟨rI c5,3,1⟩)]) (v':=.tuple #[.agg #[.slice (some ⟨13,0,none⟩) x5.now.length 0,.slice (some ⟨14,0,none⟩) x5.sure.length 0,.slice (some ⟨15,0,none⟩) x5.last.length 0,.slice (some ⟨16,0,none⟩) x5.slast.length 0,.slice (some ⟨17,0,none⟩) x5.fl.length 0],.slice (some ⟨18,0,none⟩) c5.length 0]) 19 [7,8,9,10,11,12,13,14,15,16,17,18] hE5 trivial rfl rfl rfl rfl ⟨rFlat (hls_flat (rS_flat s.now)) rfl (.inl rfl) rfl,rFlat (rS_flat s.sure) rfl (.inl rfl) rfl,rFlat (rI_flat s.last) rfl (.inl rfl) rfl,rFlat (rI_flat s.slast) rfl (.inl rfl) rfl,rFlat (rI_flat s.fl) rfl (.inl rfl) rfl,rFlat (rRq_flat _) rfl (.inl rfl) rfl,trivial⟩ trivial ⟨frF (rS_flat x5.now) rfl,frF (rS_flat x5.sure) rfl,frF (rI_flat x5.last) rfl,frF (rI_flat x5.slast) rfl,frF (rI_flat x5.fl) rfl,frF (rI_flat _) rfl,trivial⟩ rfl rfl (fun x hx=>nomatch hx) (fun x hx=>nomatch hx) rfl rfl ?_
    refine gM trivial (.inl rfl) rfl rfl rfl ?_
    refine gE trivial rfl rfl rfl rfl rfl rfl ?_
    refine gE trivial rfl rfl rfl rfl rfl rfl ?_
    refine gZ (u':=20) trivial rfl rfl rfl rfl rfl rfl rfl rfl ?_
    refine gT trivial rfl rfl rfl rfl rfl rfl rfl rfl rfl rfl (Nat.le_of_ble_eq_true rfl) rfl ?_
    refine gM trivial (.inr rfl) rfl rfl rfl ?_
    refine rg_nil nofun ?_
    refine vc_seq ?_
    refine vc_region hm ?_
    refine gL trivial rfl rfl rfl rfl rfl rfl rfl rfl ?_
    refine gCn 25 [0,1,2,3,4,20,21,22,23,24] (toStore_c (s:=s) (k0:=k0) (k1:=k1) (k2:=k2) (k3:=k3) (k4:=k4) hz) trivial rfl rfl rfl rfl ⟨rFlat (hls_flat (rS_flat _)) rfl (.inl rfl) rfl,rFlat (hls_flat (rS_flat _)) rfl (.inl rfl) rfl,rFlat (hls_flat (rI_flat _)) rfl (.inl rfl) rfl,rFlat (hls_flat (rI_flat _)) rfl (.inl rfl) rfl,rFlat (hls_flat (rI_flat _)) rfl (.inl rfl) rfl,trivial⟩ ⟨rS_flat _,rS_flat _,rI_flat _,rI_flat _,rI_flat _,trivial⟩ rfl rfl rfl rfl ?_
    refine gZ (u':=26) trivial rfl rfl rfl rfl rfl rfl rfl rfl ?_
    refine gT trivial rfl rfl rfl rfl rfl rfl rfl rfl rfl rfl (Nat.le_of_ble_eq_true rfl) rfl ?_
    refine rg_nil nofun ?_
    refine vc_seq ?_
    refine vc_region hm ?_
    refine gM trivial (.inl rfl) rfl rfl rfl ?_
    refine gCn 27 [5,26] (toRq_c (l:=l) (k:=k5) hn) trivial rfl rfl rfl rfl ⟨rFlat (hls_flat (rRq_flat _)) rfl (.inl rfl) rfl,trivial⟩ ⟨rRq_flat _,trivial⟩ rfl rfl rfl rfl ?_
    refine gM trivial (.inr rfl) rfl rfl rfl ?_
    refine rg_nil nofun ?_
    refine vc_seq ?_
    refine vc_region hm ?_
    refine gL trivial rfl rfl rfl rfl rfl rfl rfl rfl ?_
    refine gM trivial (.inl rfl) rfl rfl rfl ?_
    obtain ⟨E6,hE6,x6,c6,d6,rfl⟩:=impl_StoreAll_c (s:=s) (l:=l) (M:=l) (kk:=0) (cc:=0) (o:=0) (cl:=0) (part_0 _) hk hn hQ
    refine gCF (ups':=[]) (as':=[(27,one ⟨rS x6.now,9,1⟩),(28,one ⟨rS x6.sure,9,1⟩),(29,one ⟨rI x6.last,3,1⟩),(30,one ⟨rI x6.slast,3,1⟩),(31,one ⟨rI x6.fl,3,1⟩),(32,one ⟨rI c6,3,1⟩)]) (v':=.tuple #[.agg #[.slice (some ⟨27,0,none⟩) x6.now.length 0,.slice (some ⟨28,0,none⟩) x6.sure.length 0,.slice (some ⟨29,0,none⟩) x6.last.length 0,.slice (some ⟨30,0,none⟩) x6.slast.length 0,.slice (some ⟨31,0,none⟩) x6.fl.length 0],.slice (some ⟨32,0,none⟩) c6.length 0]) 33 [20,21,22,23,24,26,27,28,29,30,31,32] hE6 trivial rfl rfl rfl rfl ⟨rFlat (hls_flat (rS_flat s.now)) rfl (.inl rfl) rfl,rFlat (rS_flat s.sure) rfl (.inl rfl) rfl,rFlat (rI_flat s.last) rfl (.inl rfl) rfl,rFlat (rI_flat s.slast) rfl (.inl rfl) rfl,rFlat (rI_flat s.fl) rfl (.inl rfl) rfl,rFlat (rRq_flat _) rfl (.inl rfl) rfl,trivial⟩ trivial ⟨frF (rS_flat x6.now) rfl,frF (rS_flat x6.sure) rfl,frF (rI_flat x6.last) rfl,frF (rI_flat x6.slast) rfl,frF (rI_flat x6.fl) rfl,frF (rI_flat _) rfl,trivial⟩ rfl rfl (fun x hx=>nomatch hx) (fun x hx=>nomatch hx) rfl rfl ?_
    obtain ⟨rfl,rfl⟩:=all_inj d5 d6
    refine gM trivial (.inl rfl) rfl rfl rfl ?_
    refine gE trivial rfl rfl rfl rfl rfl rfl ?_
    refine gE trivial rfl rfl rfl rfl rfl rfl ?_
    refine gZ (u':=34) trivial rfl rfl rfl rfl rfl rfl rfl rfl ?_
    refine gT trivial rfl rfl rfl rfl rfl rfl rfl rfl rfl rfl (Nat.le_of_ble_eq_true rfl) rfl ?_
    refine gM trivial (.inr rfl) rfl rfl rfl ?_
    refine rg_nil nofun ?_
    refine vc_seq ?_
    refine vc_seq ?_
    refine vc_region hm ?_
    refine gL trivial rfl rfl rfl rfl rfl rfl rfl rfl ?_
    refine gL trivial rfl rfl rfl rfl rfl rfl rfl rfl ?_
    refine gC0 [27,28,29,30,31,13,14,15,16,17] (eqStore_c (a:=x5) (b:=x5) (sz_ok (all_k d5 hk))) trivial rfl rfl rfl rfl ⟨rFlat (rS_flat _) rfl (.inl rfl) rfl,rFlat (rS_flat _) rfl (.inl rfl) rfl,rFlat (rI_flat _) rfl (.inl rfl) rfl,rFlat (rI_flat _) rfl (.inl rfl) rfl,rFlat (rI_flat _) rfl (.inl rfl) rfl,rFlat (rS_flat _) rfl (.inl rfl) rfl,rFlat (rS_flat _) rfl (.inl rfl) rfl,rFlat (rI_flat _) rfl (.inl rfl) rfl,rFlat (rI_flat _) rfl (.inl rfl) rfl,rFlat (rI_flat _) rfl (.inl rfl) rfl,trivial⟩ rfl rfl rfl rfl rfl ?_
    refine gN trivial rfl rfl rfl rfl ?_
    refine gM trivial (.inl rfl) rfl rfl rfl ?_
    refine gM ⟨_,_,rfl,rfl,(notT (decide_eq_true rfl))⟩ (.inl rfl) rfl rfl rfl ?_
    refine gM ⟨_,_,rfl,rfl,(notT (decide_eq_true rfl))⟩ (.inl rfl) rfl rfl rfl ?_
    refine gC0 [32,18] (eqI5_c (a:=c5) (b:=c5) (by rw [all_n d5];exact hn)) ⟨_,_,rfl,rfl,(notT (decide_eq_true rfl))⟩ rfl rfl rfl rfl ⟨rFlat (rI_flat _) rfl (.inl rfl) rfl,rFlat (rI_flat _) rfl (.inl rfl) rfl,trivial⟩ rfl rfl rfl rfl rfl ?_
    refine gN ⟨_,_,rfl,rfl,(notT (decide_eq_true rfl))⟩ rfl rfl rfl rfl ?_
    refine gPF trivial rfl rfl (notT (decide_eq_true rfl)) rfl rfl rfl ?_
    refine rg_nil nofun ?_
    refine cF rfl (notT (decide_eq_true rfl)) ?_
    refine vc_skip ?_
    refine vc_seq ?_
    refine vc_seq ?_
    refine vc_region hm ?_
    refine gL trivial rfl rfl rfl rfl rfl rfl rfl rfl ?_
    refine gL trivial rfl rfl rfl rfl rfl rfl rfl rfl ?_
    refine gCn 39 [0,1,2,3,4,34,35,36,37,38] (toStore_c (s:=s) (k0:=k0) (k1:=k1) (k2:=k2) (k3:=k3) (k4:=k4) hz) trivial rfl rfl rfl rfl ⟨rFlat (hls_flat (rS_flat _)) rfl (.inl rfl) rfl,rFlat (hls_flat (rS_flat _)) rfl (.inl rfl) rfl,rFlat (hls_flat (rI_flat _)) rfl (.inl rfl) rfl,rFlat (hls_flat (rI_flat _)) rfl (.inl rfl) rfl,rFlat (hls_flat (rI_flat _)) rfl (.inl rfl) rfl,trivial⟩ ⟨rS_flat _,rS_flat _,rI_flat _,rI_flat _,rI_flat _,trivial⟩ rfl rfl rfl rfl ?_
    refine gC0 [20,21,22,23,24,34,35,36,37,38] (eqStore_c (a:=s) (b:=s) hz) trivial rfl rfl rfl rfl ⟨rFlat (rS_flat _) rfl (.inl rfl) rfl,rFlat (rS_flat _) rfl (.inl rfl) rfl,rFlat (rI_flat _) rfl (.inl rfl) rfl,rFlat (rI_flat _) rfl (.inl rfl) rfl,rFlat (rI_flat _) rfl (.inl rfl) rfl,rFlat (rS_flat _) rfl (.inl rfl) rfl,rFlat (rS_flat _) rfl (.inl rfl) rfl,rFlat (rI_flat _) rfl (.inl rfl) rfl,rFlat (rI_flat _) rfl (.inl rfl) rfl,rFlat (rI_flat _) rfl (.inl rfl) rfl,trivial⟩ rfl rfl rfl rfl rfl ?_
    refine gN trivial rfl rfl rfl rfl ?_
    refine rg_nil (fun _=>by kernel_rfl) ?_
    refine cF rfl (notT (decide_eq_true rfl)) ?_
    refine vc_skip ?_
    refine vc_seq ?_
    refine vc_seq ?_
    refine vc_region hm ?_
    refine gM trivial (.inl rfl) rfl rfl rfl ?_
    refine gM trivial (.inl rfl) rfl rfl rfl ?_
    refine gCn 40 [5,39] (toRq_c (l:=l) (k:=k5) hn) trivial rfl rfl rfl rfl ⟨rFlat (hls_flat (rRq_flat _)) rfl (.inl rfl) rfl,trivial⟩ ⟨rRq_flat _,trivial⟩ rfl rfl rfl rfl ?_
    refine gC0 [26,39] (eqReqS_c (l:=l) hn) trivial rfl rfl rfl rfl ⟨rFlat (rRq_flat _) rfl (.inl rfl) rfl,rFlat (rRq_flat _) rfl (.inl rfl) rfl,trivial⟩ rfl rfl rfl rfl rfl ?_
    refine gN trivial rfl rfl rfl rfl ?_
    refine rg_nil nofun ?_
    refine cF rfl (notT rfl) ?_
    refine vc_skip ?_
    refine vc_seq ?_
    refine vc_region hm ?_
    refine gM trivial (.inr rfl) rfl rfl rfl ?_
    refine rg_nil nofun ?_
    refine vc_seq ?_
    refine vc_region hm ?_
    refine gL trivial rfl rfl rfl rfl rfl rfl rfl rfl ?_
    refine gM trivial (.inl rfl) rfl rfl rfl ?_
    have r5:=mk5_rng (k:=1) hz (by decide)
    refine gCG 40 [20,21,22,23,24] (markStore_101 (s:=s) (k:=1) hz (by decide) (by decide)) trivial rfl rfl rfl rfl ⟨rFlat (rS_flat _) rfl (.inr rfl) rfl,rFlat (rS_flat _) rfl (.inr rfl) rfl,rFlat (rI_flat _) rfl (.inr rfl) rfl,rFlat (rI_flat _) rfl (.inr rfl) rfl,rFlat (rI_flat _) rfl (.inr rfl) rfl,trivial⟩ ⟨rS_flat _,rS_flat _,rI_flat _,rI_flat _,rI_flat _,trivial⟩ trivial rfl rfl (by intro x hx;simp only [List.mem_cons,List.not_mem_nil,or_false] at hx;rcases hx with rfl|rfl|rfl|rfl|rfl <;> exact ⟨_,rfl⟩) (by intro x hx;simp only [List.mem_cons,List.not_mem_nil,or_false] at hx;rcases hx with rfl|rfl|rfl|rfl|rfl <;> exact ⟨_,_,rfl⟩) rfl rfl ?_
    refine gM trivial (.inr rfl) rfl rfl rfl ?_
    refine rg_nil nofun ?_
    refine vc_seq ?_
    refine vc_region hm ?_
    refine gM trivial (.inl rfl) rfl rfl rfl ?_
    refine gM trivial (.inl rfl) rfl rfl rfl ?_
    obtain ⟨E7,hE7,Y7,y7,rfl⟩:=markRq_c (l:=l) (k:=mk5 1 s) hn (by omega) (by omega)
    refine gCF (ups':=[(26,one ⟨rRq Y7,63,106⟩)]) (as':=[]) (v':=.int .i64 (mk5 1 s + 6 * (l.length:Int))) 40 [26] hE7 trivial rfl rfl rfl rfl ⟨rFlat (rRq_flat _) rfl (.inr rfl) rfl,trivial⟩ ⟨frF (rRq_flat _) rfl,trivial⟩ trivial rfl rfl (hoC ⟨_,rfl⟩ hoN) (huC rfl huN) rfl rfl ?_
    refine gM trivial (.inr rfl) rfl rfl rfl ?_
    refine rg_nil nofun ?_
    refine vc_seq ?_
    refine vc_seq ?_
    refine vc_region hm ?_
    refine gM trivial (.inl rfl) rfl rfl rfl ?_
    refine gI trivial rfl rfl rfl rfl rfl rfl ?_
    refine gM trivial (.inl rfl) rfl rfl rfl ?_
    refine gL ⟨_,_,rfl,rfl,(decide_eq_false (by omega))⟩ rfl rfl rfl rfl rfl rfl rfl rfl ?_
    refine gL ⟨_,_,rfl,rfl,(decide_eq_false (by omega))⟩ rfl rfl rfl rfl rfl rfl rfl rfl ?_
    refine gC0 [27,28,29,30,31,13,14,15,16,17] (eqStore_c (a:=x5) (b:=x5) (sz_ok (all_k d5 hk))) ⟨_,_,rfl,rfl,(decide_eq_false (by omega))⟩ rfl rfl rfl rfl ⟨rFlat (rS_flat _) rfl (.inl rfl) rfl,rFlat (rS_flat _) rfl (.inl rfl) rfl,rFlat (rI_flat _) rfl (.inl rfl) rfl,rFlat (rI_flat _) rfl (.inl rfl) rfl,rFlat (rI_flat _) rfl (.inl rfl) rfl,rFlat (rS_flat _) rfl (.inl rfl) rfl,rFlat (rS_flat _) rfl (.inl rfl) rfl,rFlat (rI_flat _) rfl (.inl rfl) rfl,rFlat (rI_flat _) rfl (.inl rfl) rfl,rFlat (rI_flat _) rfl (.inl rfl) rfl,trivial⟩ rfl rfl rfl rfl rfl ?_
    refine gN ⟨_,_,rfl,rfl,(decide_eq_false (by omega))⟩ rfl rfl rfl rfl ?_
    refine gPF trivial rfl rfl (decide_eq_false (by omega)) rfl rfl rfl ?_
    refine gM trivial (.inl rfl) rfl rfl rfl ?_
    refine gM ⟨_,_,rfl,rfl,(notT (decide_eq_true rfl))⟩ (.inl rfl) rfl rfl rfl ?_
    refine gM ⟨_,_,rfl,rfl,(notT (decide_eq_true rfl))⟩ (.inl rfl) rfl rfl rfl ?_
    refine gC0 [32,18] (eqI5_c (a:=c5) (b:=c5) (by rw [all_n d5];exact hn)) ⟨_,_,rfl,rfl,(notT (decide_eq_true rfl))⟩ rfl rfl rfl rfl ⟨rFlat (rI_flat _) rfl (.inl rfl) rfl,rFlat (rI_flat _) rfl (.inl rfl) rfl,trivial⟩ rfl rfl rfl rfl rfl ?_
    refine gN ⟨_,_,rfl,rfl,(notT (decide_eq_true rfl))⟩ rfl rfl rfl rfl ?_
    refine gPF trivial rfl rfl (notT (decide_eq_true rfl)) rfl rfl rfl ?_
    refine rg_nil nofun ?_
    refine cF rfl (notT (decide_eq_true rfl)) ?_
    refine vc_skip ?_
    refine vc_seq ?_
    refine vc_region hm ?_
    refine gM trivial (.inr rfl) rfl rfl rfl ?_
    refine rg_nil nofun ?_
    refine vc_seq ?_
    refine vc_region hm ?_
    refine gL trivial rfl rfl rfl rfl rfl rfl rfl rfl ?_
    refine gM trivial (.inl rfl) rfl rfl rfl ?_
    have r6:=mk5_rng (k:=1) (sz_ok (all_k d5 hk)) (by decide)
    have r7:=all_n d5
    refine gCG 40 [27,28,29,30,31] (markStore_1 (s:=x5) (k:=1) (sz_ok (all_k d5 hk)) (by decide) (by decide)) trivial rfl rfl rfl rfl ⟨rFlat (rS_flat _) rfl (.inr rfl) rfl,rFlat (rS_flat _) rfl (.inr rfl) rfl,rFlat (rI_flat _) rfl (.inr rfl) rfl,rFlat (rI_flat _) rfl (.inr rfl) rfl,rFlat (rI_flat _) rfl (.inr rfl) rfl,trivial⟩ ⟨rS_flat _,rS_flat _,rI_flat _,rI_flat _,rI_flat _,trivial⟩ trivial rfl rfl (by intro x hx;simp only [List.mem_cons,List.not_mem_nil,or_false] at hx;rcases hx with rfl|rfl|rfl|rfl|rfl <;> exact ⟨_,rfl⟩) (by intro x hx;simp only [List.mem_cons,List.not_mem_nil,or_false] at hx;rcases hx with rfl|rfl|rfl|rfl|rfl <;> exact ⟨_,_,rfl⟩) rfl rfl ?_
    refine gM trivial (.inr rfl) rfl rfl rfl ?_
    refine rg_nil nofun ?_
    refine vc_seq ?_
    refine vc_region hm ?_
    refine gM trivial (.inl rfl) rfl rfl rfl ?_
    refine gM trivial (.inl rfl) rfl rfl rfl ?_
    refine gCG 40 [32] (markI_1 (l:=c5) (k:=mk5 1 x5) (by omega) (by omega) (by omega)) trivial rfl rfl rfl rfl ⟨rFlat (rI_flat _) rfl (.inr rfl) rfl,trivial⟩ ⟨rI_flat _,trivial⟩ trivial rfl rfl (by intro x hx;obtain rfl:=List.mem_singleton.1 hx;exact ⟨_,rfl⟩) (by intro x hx;obtain rfl:=List.mem_singleton.1 hx;exact ⟨_,_,rfl⟩) rfl rfl ?_
    refine gM trivial (.inr rfl) rfl rfl rfl ?_
    refine rg_nil nofun ?_
    refine vc_seq ?_
    refine vc_region hm ?_
    refine gM trivial (.inr rfl) rfl rfl rfl ?_
    refine rg_nil nofun ?_
    refine vc_seq ?_
    refine vc_region hm ?_
    refine gL trivial rfl rfl rfl rfl rfl rfl rfl rfl ?_
    refine gM trivial (.inl rfl) rfl rfl rfl ?_
    refine gC0 [27,28,29,30,31] (heldStore_c (s:=x5) (k:=1) (sz_ok (all_k d5 hk)) (by decide) (by decide)) trivial rfl rfl rfl rfl ⟨rFlat (rS_flat _) rfl (.inl rfl) rfl,rFlat (rS_flat _) rfl (.inl rfl) rfl,rFlat (rI_flat _) rfl (.inl rfl) rfl,rFlat (rI_flat _) rfl (.inl rfl) rfl,rFlat (rI_flat _) rfl (.inl rfl) rfl,trivial⟩ rfl rfl rfl rfl rfl ?_
    refine gM trivial (.inr rfl) rfl rfl rfl ?_
    refine rg_nil nofun ?_
    refine vc_seq ?_
    refine vc_seq ?_
    refine vc_region hm ?_
    refine gM trivial (.inl rfl) rfl rfl rfl ?_
    refine gI trivial rfl rfl rfl rfl rfl rfl ?_
    refine rg_nil nofun ?_
    refine cF rfl (decide_eq_false (by omega)) ?_
    refine vc_skip ?_
    refine vc_seq ?_
    refine vc_region hm ?_
    refine gM trivial (.inl rfl) rfl rfl rfl ?_
    refine gM trivial (.inl rfl) rfl rfl rfl ?_
    refine gC0 [32] (heldI_c (n:=c5.length) (k:=mk5 1 x5) (by omega) (by omega) (by omega)) trivial rfl rfl rfl rfl ⟨rFlat (rI_flat _) rfl (.inl rfl) rfl,trivial⟩ rfl rfl rfl rfl rfl ?_
    refine gM trivial (.inr rfl) rfl rfl rfl ?_
    refine rg_nil nofun ?_
    refine vc_seq ?_
    refine vc_seq ?_
    refine vc_region hm ?_
    refine gM trivial (.inl rfl) rfl rfl rfl ?_
    refine gI trivial rfl rfl rfl rfl rfl rfl ?_
    refine rg_nil nofun ?_
    refine cF rfl (decide_eq_false (by omega)) ?_
    refine vc_skip ?_
    refine vc_seq ?_
    refine vc_seq ?_
    refine vc_region hm ?_
    refine gM trivial (.inl rfl) rfl rfl rfl ?_
    refine gM trivial (.inl rfl) rfl rfl rfl ?_
    refine gI trivial rfl rfl rfl rfl rfl rfl ?_
    refine rg_nil nofun ?_
    refine cF rfl (bne_self_eq_false _) ?_
    refine vc_skip ?_
    refine vc_seq ?_
    refine vc_region hm ?_
    refine gL trivial rfl rfl rfl rfl rfl rfl rfl rfl ?_
    refine gCn 45 [0,1,2,3,4,40,41,42,43,44] (toStore_c (s:=s) (k0:=k0) (k1:=k1) (k2:=k2) (k3:=k3) (k4:=k4) hz) trivial rfl rfl rfl rfl ⟨rFlat (hls_flat (rS_flat _)) rfl (.inl rfl) rfl,rFlat (hls_flat (rS_flat _)) rfl (.inl rfl) rfl,rFlat (hls_flat (rI_flat _)) rfl (.inl rfl) rfl,rFlat (hls_flat (rI_flat _)) rfl (.inl rfl) rfl,rFlat (hls_flat (rI_flat _)) rfl (.inl rfl) rfl,trivial⟩ ⟨rS_flat _,rS_flat _,rI_flat _,rI_flat _,rI_flat _,trivial⟩ rfl rfl rfl rfl ?_
    refine gM trivial (.inl rfl) rfl rfl rfl ?_
    refine gCn 46 [5,45] (toRq_c (l:=l) (k:=k5) hn) trivial rfl rfl rfl rfl ⟨rFlat (hls_flat (rRq_flat _)) rfl (.inl rfl) rfl,trivial⟩ ⟨rRq_flat _,trivial⟩ rfl rfl rfl rfl ?_
    obtain ⟨E12,hE12,x12,c12,d12,rfl⟩:=impl_StoreAll_c (s:=s) (l:=l) (M:=l) (kk:=0) (cc:=0) (o:=0) (cl:=0) (part_0 _) hk hn hQ
    refine gCF (ups':=[]) (as':=[(46,one ⟨rS x12.now,9,1⟩),(47,one ⟨rS x12.sure,9,1⟩),(48,one ⟨rI x12.last,3,1⟩),(49,one ⟨rI x12.slast,3,1⟩),(50,one ⟨rI x12.fl,3,1⟩),(51,one ⟨rI c12,3,1⟩)]) (v':=.tuple #[.agg #[.slice (some ⟨46,0,none⟩) x12.now.length 0,.slice (some ⟨47,0,none⟩) x12.sure.length 0,.slice (some ⟨48,0,none⟩) x12.last.length 0,.slice (some ⟨49,0,none⟩) x12.slast.length 0,.slice (some ⟨50,0,none⟩) x12.fl.length 0],.slice (some ⟨51,0,none⟩) c12.length 0]) 52 [40,41,42,43,44,45,46,47,48,49,50,51] hE12 trivial rfl rfl rfl rfl ⟨rFlat (hls_flat (rS_flat s.now)) rfl (.inl rfl) rfl,rFlat (rS_flat s.sure) rfl (.inl rfl) rfl,rFlat (rI_flat s.last) rfl (.inl rfl) rfl,rFlat (rI_flat s.slast) rfl (.inl rfl) rfl,rFlat (rI_flat s.fl) rfl (.inl rfl) rfl,rFlat (rRq_flat _) rfl (.inl rfl) rfl,trivial⟩ trivial ⟨frF (rS_flat x12.now) rfl,frF (rS_flat x12.sure) rfl,frF (rI_flat x12.last) rfl,frF (rI_flat x12.slast) rfl,frF (rI_flat x12.fl) rfl,frF (rI_flat _) rfl,trivial⟩ rfl rfl (fun x hx=>nomatch hx) (fun x hx=>nomatch hx) rfl rfl ?_
    obtain ⟨rfl,rfl⟩:=all_inj d5 d12
    refine gM trivial (.inl rfl) rfl rfl rfl ?_
    refine gE trivial rfl rfl rfl rfl rfl rfl ?_
    refine gE trivial rfl rfl rfl rfl rfl rfl ?_
    refine gZ (u':=53) trivial rfl rfl rfl rfl rfl rfl rfl rfl ?_
    refine gT trivial rfl rfl rfl rfl rfl rfl rfl rfl rfl rfl (Nat.le_of_ble_eq_true rfl) rfl ?_
    refine gM trivial (.inr rfl) rfl rfl rfl ?_
    refine rg_nil nofun ?_
    refine vc_seq ?_
    refine vc_seq ?_
    refine vc_region hm ?_
    refine gL trivial rfl rfl rfl rfl rfl rfl rfl rfl ?_
    refine gL trivial rfl rfl rfl rfl rfl rfl rfl rfl ?_
    refine gC0 [46,47,48,49,50,13,14,15,16,17] (eqStore_c (a:=x5) (b:=x5) (sz_ok (all_k d5 hk))) trivial rfl rfl rfl rfl ⟨rFlat (rS_flat _) rfl (.inl rfl) rfl,rFlat (rS_flat _) rfl (.inl rfl) rfl,rFlat (rI_flat _) rfl (.inl rfl) rfl,rFlat (rI_flat _) rfl (.inl rfl) rfl,rFlat (rI_flat _) rfl (.inl rfl) rfl,rFlat (rS_flat _) rfl (.inl rfl) rfl,rFlat (rS_flat _) rfl (.inl rfl) rfl,rFlat (rI_flat _) rfl (.inl rfl) rfl,rFlat (rI_flat _) rfl (.inl rfl) rfl,rFlat (rI_flat _) rfl (.inl rfl) rfl,trivial⟩ rfl rfl rfl rfl rfl ?_
    refine gN trivial rfl rfl rfl rfl ?_
    refine gM trivial (.inl rfl) rfl rfl rfl ?_
    refine gM ⟨_,_,rfl,rfl,(notT (decide_eq_true rfl))⟩ (.inl rfl) rfl rfl rfl ?_
    refine gM ⟨_,_,rfl,rfl,(notT (decide_eq_true rfl))⟩ (.inl rfl) rfl rfl rfl ?_
    refine gC0 [51,18] (eqI5_c (a:=c5) (b:=c5) (by rw [all_n d5];exact hn)) ⟨_,_,rfl,rfl,(notT (decide_eq_true rfl))⟩ rfl rfl rfl rfl ⟨rFlat (rI_flat _) rfl (.inl rfl) rfl,rFlat (rI_flat _) rfl (.inl rfl) rfl,trivial⟩ rfl rfl rfl rfl rfl ?_
    refine gN ⟨_,_,rfl,rfl,(notT (decide_eq_true rfl))⟩ rfl rfl rfl rfl ?_
    refine gPF trivial rfl rfl (notT (decide_eq_true rfl)) rfl rfl rfl ?_
    refine rg_nil nofun ?_
    refine cF rfl (notT (decide_eq_true rfl)) ?_
    refine vc_skip ?_
    refine vc_seq ?_
    refine vc_region hm ?_
    refine gM trivial (.inr rfl) rfl rfl rfl ?_
    refine rg_nil nofun ?_
    refine vc_seq ?_
    refine vc_region hm ?_
    refine gL trivial rfl rfl rfl rfl rfl rfl rfl rfl ?_
    refine gM trivial (.inl rfl) rfl rfl rfl ?_
    refine gC0 [27,28,29,30,31] (heldStore_c (s:=x5) (k:=1) (sz_ok (all_k d5 hk)) (by decide) (by decide)) trivial rfl rfl rfl rfl ⟨rFlat (rS_flat _) rfl (.inl rfl) rfl,rFlat (rS_flat _) rfl (.inl rfl) rfl,rFlat (rI_flat _) rfl (.inl rfl) rfl,rFlat (rI_flat _) rfl (.inl rfl) rfl,rFlat (rI_flat _) rfl (.inl rfl) rfl,trivial⟩ rfl rfl rfl rfl rfl ?_
    refine gM trivial (.inr rfl) rfl rfl rfl ?_
    refine rg_nil nofun ?_
    refine vc_seq ?_
    refine vc_seq ?_
    refine vc_region hm ?_
    refine gM trivial (.inl rfl) rfl rfl rfl ?_
    refine gI trivial rfl rfl rfl rfl rfl rfl ?_
    refine rg_nil nofun ?_
    refine cF rfl (decide_eq_false (by omega)) ?_
    refine vc_skip ?_
    refine vc_seq ?_
    refine vc_region hm ?_
    refine gM trivial (.inl rfl) rfl rfl rfl ?_
    refine gM trivial (.inl rfl) rfl rfl rfl ?_
    refine gC0 [32] (heldI_c (n:=c5.length) (k:=mk5 1 x5) (by omega) (by omega) (by omega)) trivial rfl rfl rfl rfl ⟨rFlat (rI_flat _) rfl (.inl rfl) rfl,trivial⟩ rfl rfl rfl rfl rfl ?_
    refine gM trivial (.inr rfl) rfl rfl rfl ?_
    refine rg_nil nofun ?_
    refine vc_seq ?_
    refine vc_seq ?_
    refine vc_region hm ?_
    refine gM trivial (.inl rfl) rfl rfl rfl ?_
    refine gI trivial rfl rfl rfl rfl rfl rfl ?_
    refine rg_nil nofun ?_
    refine cF rfl (decide_eq_false (by omega)) ?_
    refine vc_skip ?_
    refine vc_seq ?_
    refine vc_seq ?_
    refine vc_region hm ?_
    refine gM trivial (.inl rfl) rfl rfl rfl ?_
    refine gM trivial (.inl rfl) rfl rfl rfl ?_
    refine gI trivial rfl rfl rfl rfl rfl rfl ?_
    refine rg_nil nofun ?_
    refine cF rfl (bne_self_eq_false _) ?_
    refine vc_skip ?_
    refine vc_seq ?_
    refine vc_region hm ?_
    refine gM trivial (.inr rfl) rfl rfl rfl ?_
    refine rg_nil nofun ?_
    refine vc_ret ?_
    exact ⟨idm,ends0 (.inr rfl) rfl (eqB rfl) rfl rfl rfl⟩
   ·skip
    have hl5:=q3c (by omega)
    have hn:l.length≤1048576:=by omega
    have hQ:∀ q ∈ l,q.d.size≤1048576:=fun q hh=>by have:=hl5.2 q hh;omega
    refine vc_region hm ?_
    refine gL trivial rfl rfl rfl rfl rfl rfl rfl rfl ?_
    refine gCn 12 [0,1,2,3,4,7,8,9,10,11] (toStore_c (s:=s) (k0:=k0) (k1:=k1) (k2:=k2) (k3:=k3) (k4:=k4) hz) trivial rfl rfl rfl rfl ⟨rFlat (hls_flat (rS_flat _)) rfl (.inl rfl) rfl,rFlat (hls_flat (rS_flat _)) rfl (.inl rfl) rfl,rFlat (hls_flat (rI_flat _)) rfl (.inl rfl) rfl,rFlat (hls_flat (rI_flat _)) rfl (.inl rfl) rfl,rFlat (hls_flat (rI_flat _)) rfl (.inl rfl) rfl,trivial⟩ ⟨rS_flat _,rS_flat _,rI_flat _,rI_flat _,rI_flat _,trivial⟩ rfl rfl rfl rfl ?_
    refine gM trivial (.inl rfl) rfl rfl rfl ?_
    refine gCn 13 [5,12] (toRq_c (l:=l) (k:=k5) hn) trivial rfl rfl rfl rfl ⟨rFlat (hls_flat (rRq_flat _)) rfl (.inl rfl) rfl,trivial⟩ ⟨rRq_flat _,trivial⟩ rfl rfl rfl rfl ?_
    refine gCn 14 [7,8,9,10,11,12,13] (spec_StoreAll_n (s:=s) (l:=l) (M:=l) (kk:=0) (cc:=0) (o:=0) (cl:=0) hz hk) trivial rfl rfl rfl rfl ⟨rFlat (hls_flat (rS_flat s.now)) rfl (.inl rfl) rfl,rFlat (rS_flat s.sure) rfl (.inl rfl) rfl,rFlat (rI_flat s.last) rfl (.inl rfl) rfl,rFlat (rI_flat s.slast) rfl (.inl rfl) rfl,rFlat (rI_flat s.fl) rfl (.inl rfl) rfl,rFlat (rRq_flat _) rfl (.inl rfl) rfl,trivial⟩ ⟨rI_flat _,trivial⟩ rfl rfl rfl rfl ?_
    refine gM trivial (.inl rfl) rfl rfl rfl ?_
    refine gE trivial rfl rfl rfl rfl rfl rfl ?_
    refine gE trivial rfl rfl rfl rfl rfl rfl ?_
    refine gZ (u':=15) trivial rfl rfl rfl rfl rfl rfl rfl rfl ?_
    refine gT trivial rfl rfl rfl rfl rfl rfl rfl rfl rfl rfl (Nat.le_of_ble_eq_true rfl) rfl ?_
    refine gM trivial (.inr rfl) rfl rfl rfl ?_
    refine rg_nil nofun ?_
    refine vc_seq ?_
    refine vc_region hm ?_
    refine gL trivial rfl rfl rfl rfl rfl rfl rfl rfl ?_
    refine gCn 20 [0,1,2,3,4,15,16,17,18,19] (toStore_c (s:=s) (k0:=k0) (k1:=k1) (k2:=k2) (k3:=k3) (k4:=k4) hz) trivial rfl rfl rfl rfl ⟨rFlat (hls_flat (rS_flat _)) rfl (.inl rfl) rfl,rFlat (hls_flat (rS_flat _)) rfl (.inl rfl) rfl,rFlat (hls_flat (rI_flat _)) rfl (.inl rfl) rfl,rFlat (hls_flat (rI_flat _)) rfl (.inl rfl) rfl,rFlat (hls_flat (rI_flat _)) rfl (.inl rfl) rfl,trivial⟩ ⟨rS_flat _,rS_flat _,rI_flat _,rI_flat _,rI_flat _,trivial⟩ rfl rfl rfl rfl ?_
    refine gZ (u':=21) trivial rfl rfl rfl rfl rfl rfl rfl rfl ?_
    refine gT trivial rfl rfl rfl rfl rfl rfl rfl rfl rfl rfl (Nat.le_of_ble_eq_true rfl) rfl ?_
    refine rg_nil nofun ?_
    refine vc_seq ?_
    refine vc_region hm ?_
    refine gM trivial (.inl rfl) rfl rfl rfl ?_
    refine gCn 22 [5,21] (toRq_c (l:=l) (k:=k5) hn) trivial rfl rfl rfl rfl ⟨rFlat (hls_flat (rRq_flat _)) rfl (.inl rfl) rfl,trivial⟩ ⟨rRq_flat _,trivial⟩ rfl rfl rfl rfl ?_
    refine gM trivial (.inr rfl) rfl rfl rfl ?_
    refine rg_nil nofun ?_
    refine vc_seq ?_
    refine vc_region hm ?_
    refine gL trivial rfl rfl rfl rfl rfl rfl rfl rfl ?_
    refine gM trivial (.inl rfl) rfl rfl rfl ?_
    refine gC0 [15,16,17,18,19,21] (impl_StoreAll_n (s:=s) (l:=l) (M:=l) (kk:=0) (cc:=0) (o:=0) (cl:=0) hz hk) trivial rfl rfl rfl rfl ⟨rFlat (hls_flat (rS_flat s.now)) rfl (.inl rfl) rfl,rFlat (rS_flat s.sure) rfl (.inl rfl) rfl,rFlat (rI_flat s.last) rfl (.inl rfl) rfl,rFlat (rI_flat s.slast) rfl (.inl rfl) rfl,rFlat (rI_flat s.fl) rfl (.inl rfl) rfl,rFlat (rRq_flat _) rfl (.inl rfl) rfl,trivial⟩ rfl rfl rfl rfl rfl ?_
    refine gM trivial (.inl rfl) rfl rfl rfl ?_
    refine gE trivial rfl rfl rfl rfl rfl rfl ?_
    refine gE trivial rfl rfl rfl rfl rfl rfl ?_
    refine gZ (u':=23) trivial rfl rfl rfl rfl rfl rfl rfl rfl ?_
    refine gT trivial rfl rfl rfl rfl rfl rfl rfl rfl rfl rfl (Nat.le_of_ble_eq_true rfl) rfl ?_
    refine gM trivial (.inr rfl) rfl rfl rfl ?_
    refine rg_nil nofun ?_
    refine vc_seq ?_
    refine vc_seq ?_
    refine vc_region hm ?_
    refine gL trivial rfl rfl rfl rfl rfl rfl rfl rfl ?_
    refine gL trivial rfl rfl rfl rfl rfl rfl rfl rfl ?_
    refine gC0 [] (eqStore_nn) trivial rfl rfl rfl rfl (by trivial) rfl rfl rfl rfl rfl ?_
    refine gN trivial rfl rfl rfl rfl ?_
    refine gM trivial (.inl rfl) rfl rfl rfl ?_
    refine gM ⟨_,_,rfl,rfl,(notT rfl)⟩ (.inl rfl) rfl rfl rfl ?_
    refine gM ⟨_,_,rfl,rfl,(notT rfl)⟩ (.inl rfl) rfl rfl rfl ?_
    refine gC0 [13] (eqI_n) ⟨_,_,rfl,rfl,(notT rfl)⟩ rfl rfl rfl rfl ⟨rFlat (rI_flat []) rfl (.inl rfl) rfl,trivial⟩ rfl rfl rfl rfl rfl ?_
    refine gN ⟨_,_,rfl,rfl,(notT rfl)⟩ rfl rfl rfl rfl ?_
    refine gPF trivial rfl rfl (notT rfl) rfl rfl rfl ?_
    refine rg_nil nofun ?_
    refine cF rfl (notT rfl) ?_
    refine vc_skip ?_
    refine vc_seq ?_
    refine vc_seq ?_
    refine vc_region hm ?_
    refine gL trivial rfl rfl rfl rfl rfl rfl rfl rfl ?_
    refine gL trivial rfl rfl rfl rfl rfl rfl rfl rfl ?_
    refine gCn 28 [0,1,2,3,4,23,24,25,26,27] (toStore_c (s:=s) (k0:=k0) (k1:=k1) (k2:=k2) (k3:=k3) (k4:=k4) hz) trivial rfl rfl rfl rfl ⟨rFlat (hls_flat (rS_flat _)) rfl (.inl rfl) rfl,rFlat (hls_flat (rS_flat _)) rfl (.inl rfl) rfl,rFlat (hls_flat (rI_flat _)) rfl (.inl rfl) rfl,rFlat (hls_flat (rI_flat _)) rfl (.inl rfl) rfl,rFlat (hls_flat (rI_flat _)) rfl (.inl rfl) rfl,trivial⟩ ⟨rS_flat _,rS_flat _,rI_flat _,rI_flat _,rI_flat _,trivial⟩ rfl rfl rfl rfl ?_
    refine gC0 [15,16,17,18,19,23,24,25,26,27] (eqStore_c (a:=s) (b:=s) hz) trivial rfl rfl rfl rfl ⟨rFlat (rS_flat _) rfl (.inl rfl) rfl,rFlat (rS_flat _) rfl (.inl rfl) rfl,rFlat (rI_flat _) rfl (.inl rfl) rfl,rFlat (rI_flat _) rfl (.inl rfl) rfl,rFlat (rI_flat _) rfl (.inl rfl) rfl,rFlat (rS_flat _) rfl (.inl rfl) rfl,rFlat (rS_flat _) rfl (.inl rfl) rfl,rFlat (rI_flat _) rfl (.inl rfl) rfl,rFlat (rI_flat _) rfl (.inl rfl) rfl,rFlat (rI_flat _) rfl (.inl rfl) rfl,trivial⟩ rfl rfl rfl rfl rfl ?_
    refine gN trivial rfl rfl rfl rfl ?_
    refine rg_nil (fun _=>by kernel_rfl) ?_
    refine cF rfl (notT (decide_eq_true rfl)) ?_
    refine vc_skip ?_
    refine vc_seq ?_
    refine vc_seq ?_
    refine vc_region hm ?_
    refine gM trivial (.inl rfl) rfl rfl rfl ?_
    refine gM trivial (.inl rfl) rfl rfl rfl ?_
    refine gCn 29 [5,28] (toRq_c (l:=l) (k:=k5) hn) trivial rfl rfl rfl rfl ⟨rFlat (hls_flat (rRq_flat _)) rfl (.inl rfl) rfl,trivial⟩ ⟨rRq_flat _,trivial⟩ rfl rfl rfl rfl ?_
    refine gC0 [21,28] (eqReqS_c (l:=l) hn) trivial rfl rfl rfl rfl ⟨rFlat (rRq_flat _) rfl (.inl rfl) rfl,rFlat (rRq_flat _) rfl (.inl rfl) rfl,trivial⟩ rfl rfl rfl rfl rfl ?_
    refine gN trivial rfl rfl rfl rfl ?_
    refine rg_nil nofun ?_
    refine cF rfl (notT rfl) ?_
    refine vc_skip ?_
    refine vc_seq ?_
    refine vc_region hm ?_
    refine gM trivial (.inr rfl) rfl rfl rfl ?_
    refine rg_nil nofun ?_
    refine vc_seq ?_
    refine vc_region hm ?_
    refine gL trivial rfl rfl rfl rfl rfl rfl rfl rfl ?_
    refine gM trivial (.inl rfl) rfl rfl rfl ?_
    have r5:=mk5_rng (k:=1) hz (by decide)
    refine gCG 29 [15,16,17,18,19] (markStore_101 (s:=s) (k:=1) hz (by decide) (by decide)) trivial rfl rfl rfl rfl ⟨rFlat (rS_flat _) rfl (.inr rfl) rfl,rFlat (rS_flat _) rfl (.inr rfl) rfl,rFlat (rI_flat _) rfl (.inr rfl) rfl,rFlat (rI_flat _) rfl (.inr rfl) rfl,rFlat (rI_flat _) rfl (.inr rfl) rfl,trivial⟩ ⟨rS_flat _,rS_flat _,rI_flat _,rI_flat _,rI_flat _,trivial⟩ trivial rfl rfl (by intro x hx;simp only [List.mem_cons,List.not_mem_nil,or_false] at hx;rcases hx with rfl|rfl|rfl|rfl|rfl <;> exact ⟨_,rfl⟩) (by intro x hx;simp only [List.mem_cons,List.not_mem_nil,or_false] at hx;rcases hx with rfl|rfl|rfl|rfl|rfl <;> exact ⟨_,_,rfl⟩) rfl rfl ?_
    refine gM trivial (.inr rfl) rfl rfl rfl ?_
    refine rg_nil nofun ?_
    refine vc_seq ?_
    refine vc_region hm ?_
    refine gM trivial (.inl rfl) rfl rfl rfl ?_
    refine gM trivial (.inl rfl) rfl rfl rfl ?_
    obtain ⟨E16,hE16,Y16,y16,rfl⟩:=markRq_c (l:=l) (k:=mk5 1 s) hn (by omega) (by omega)
    refine gCF (ups':=[(21,one ⟨rRq Y16,63,106⟩)]) (as':=[]) (v':=.int .i64 (mk5 1 s + 6 * (l.length:Int))) 29 [21] hE16 trivial rfl rfl rfl rfl ⟨rFlat (rRq_flat _) rfl (.inr rfl) rfl,trivial⟩ ⟨frF (rRq_flat _) rfl,trivial⟩ trivial rfl rfl (hoC ⟨_,rfl⟩ hoN) (huC rfl huN) rfl rfl ?_
    refine gM trivial (.inr rfl) rfl rfl rfl ?_
    refine rg_nil nofun ?_
    refine vc_seq ?_
    refine vc_seq ?_
    refine vc_region hm ?_
    refine gM trivial (.inl rfl) rfl rfl rfl ?_
    refine gI trivial rfl rfl rfl rfl rfl rfl ?_
    refine gM trivial (.inl rfl) rfl rfl rfl ?_
    refine gL ⟨_,_,rfl,rfl,(decide_eq_false (by omega))⟩ rfl rfl rfl rfl rfl rfl rfl rfl ?_
    refine gL ⟨_,_,rfl,rfl,(decide_eq_false (by omega))⟩ rfl rfl rfl rfl rfl rfl rfl rfl ?_
    refine gC0 [] (eqStore_nn) ⟨_,_,rfl,rfl,(decide_eq_false (by omega))⟩ rfl rfl rfl rfl (by trivial) rfl rfl rfl rfl rfl ?_
    refine gN ⟨_,_,rfl,rfl,(decide_eq_false (by omega))⟩ rfl rfl rfl rfl ?_
    refine gPF trivial rfl rfl (decide_eq_false (by omega)) rfl rfl rfl ?_
    refine gM trivial (.inl rfl) rfl rfl rfl ?_
    refine gM ⟨_,_,rfl,rfl,(notT rfl)⟩ (.inl rfl) rfl rfl rfl ?_
    refine gM ⟨_,_,rfl,rfl,(notT rfl)⟩ (.inl rfl) rfl rfl rfl ?_
    refine gC0 [13] (eqI_n) ⟨_,_,rfl,rfl,(notT rfl)⟩ rfl rfl rfl rfl ⟨rFlat (rI_flat []) rfl (.inl rfl) rfl,trivial⟩ rfl rfl rfl rfl rfl ?_
    refine gN ⟨_,_,rfl,rfl,(notT rfl)⟩ rfl rfl rfl rfl ?_
    refine gPF trivial rfl rfl (notT rfl) rfl rfl rfl ?_
    refine rg_nil nofun ?_
    refine cF rfl (notT rfl) ?_
    refine vc_skip ?_
    refine vc_seq ?_
    refine vc_region hm ?_
    refine gM trivial (.inr rfl) rfl rfl rfl ?_
    refine rg_nil nofun ?_
    refine vc_seq ?_
    refine vc_region hm ?_
    refine gL trivial rfl rfl rfl rfl rfl rfl rfl rfl ?_
    refine gM trivial (.inl rfl) rfl rfl rfl ?_
    refine gC0 [] (markStore_n (k:=1) (by decide)) trivial rfl rfl rfl rfl (by trivial) rfl rfl rfl rfl rfl ?_
    refine gM trivial (.inr rfl) rfl rfl rfl ?_
    refine rg_nil nofun ?_
    refine vc_seq ?_
    refine vc_region hm ?_
    refine gM trivial (.inl rfl) rfl rfl rfl ?_
    refine gM trivial (.inl rfl) rfl rfl rfl ?_
    refine gC0 [] (markIntS_n (k:=1)) trivial rfl rfl rfl rfl (by trivial) rfl rfl rfl rfl rfl ?_
    refine gM trivial (.inr rfl) rfl rfl rfl ?_
    refine rg_nil nofun ?_
    refine vc_seq ?_
    refine vc_region hm ?_
    refine gM trivial (.inr rfl) rfl rfl rfl ?_
    refine rg_nil nofun ?_
    refine vc_seq ?_
    refine vc_region hm ?_
    refine gL trivial rfl rfl rfl rfl rfl rfl rfl rfl ?_
    refine gM trivial (.inl rfl) rfl rfl rfl ?_
    refine gC0 [] (heldStore_n (k:=1) (by decide)) trivial rfl rfl rfl rfl (by trivial) rfl rfl rfl rfl rfl ?_
    refine gM trivial (.inr rfl) rfl rfl rfl ?_
    refine rg_nil nofun ?_
    refine vc_seq ?_
    refine vc_seq ?_
    refine vc_region hm ?_
    refine gM trivial (.inl rfl) rfl rfl rfl ?_
    refine gI trivial rfl rfl rfl rfl rfl rfl ?_
    refine rg_nil nofun ?_
    refine cF rfl (decide_eq_false (by omega)) ?_
    refine vc_skip ?_
    refine vc_seq ?_
    refine vc_region hm ?_
    refine gM trivial (.inl rfl) rfl rfl rfl ?_
    refine gM trivial (.inl rfl) rfl rfl rfl ?_
    refine gC0 [] (heldIntS_n (k:=1)) trivial rfl rfl rfl rfl (by trivial) rfl rfl rfl rfl rfl ?_
    refine gM trivial (.inr rfl) rfl rfl rfl ?_
    refine rg_nil nofun ?_
    refine vc_seq ?_
    refine vc_seq ?_
    refine vc_region hm ?_
    refine gM trivial (.inl rfl) rfl rfl rfl ?_
    refine gI trivial rfl rfl rfl rfl rfl rfl ?_
    refine rg_nil nofun ?_
    refine cF rfl (decide_eq_false (by omega)) ?_
    refine vc_skip ?_
    refine vc_seq ?_
    refine vc_seq ?_
    refine vc_region hm ?_
    refine gM trivial (.inl rfl) rfl rfl rfl ?_
    refine gM trivial (.inl rfl) rfl rfl rfl ?_
    refine gI trivial rfl rfl rfl rfl rfl rfl ?_
    refine rg_nil nofun ?_
    refine cF rfl (bne_self_eq_false _) ?_
    refine vc_skip ?_
    refine vc_seq ?_
    refine vc_region hm ?_
    refine gL trivial rfl rfl rfl rfl rfl rfl rfl rfl ?_
    refine gCn 34 [0,1,2,3,4,29,30,31,32,33] (toStore_c (s:=s) (k0:=k0) (k1:=k1) (k2:=k2) (k3:=k3) (k4:=k4) hz) trivial rfl rfl rfl rfl ⟨rFlat (hls_flat (rS_flat _)) rfl (.inl rfl) rfl,rFlat (hls_flat (rS_flat _)) rfl (.inl rfl) rfl,rFlat (hls_flat (rI_flat _)) rfl (.inl rfl) rfl,rFlat (hls_flat (rI_flat _)) rfl (.inl rfl) rfl,rFlat (hls_flat (rI_flat _)) rfl (.inl rfl) rfl,trivial⟩ ⟨rS_flat _,rS_flat _,rI_flat _,rI_flat _,rI_flat _,trivial⟩ rfl rfl rfl rfl ?_
    refine gM trivial (.inl rfl) rfl rfl rfl ?_
    refine gCn 35 [5,34] (toRq_c (l:=l) (k:=k5) hn) trivial rfl rfl rfl rfl ⟨rFlat (hls_flat (rRq_flat _)) rfl (.inl rfl) rfl,trivial⟩ ⟨rRq_flat _,trivial⟩ rfl rfl rfl rfl ?_
    refine gC0 [29,30,31,32,33,34] (impl_StoreAll_n (s:=s) (l:=l) (M:=l) (kk:=0) (cc:=0) (o:=0) (cl:=0) hz hk) trivial rfl rfl rfl rfl ⟨rFlat (hls_flat (rS_flat s.now)) rfl (.inl rfl) rfl,rFlat (rS_flat s.sure) rfl (.inl rfl) rfl,rFlat (rI_flat s.last) rfl (.inl rfl) rfl,rFlat (rI_flat s.slast) rfl (.inl rfl) rfl,rFlat (rI_flat s.fl) rfl (.inl rfl) rfl,rFlat (rRq_flat _) rfl (.inl rfl) rfl,trivial⟩ rfl rfl rfl rfl rfl ?_
    refine gM trivial (.inl rfl) rfl rfl rfl ?_
    refine gE trivial rfl rfl rfl rfl rfl rfl ?_
    refine gE trivial rfl rfl rfl rfl rfl rfl ?_
    refine gZ (u':=36) trivial rfl rfl rfl rfl rfl rfl rfl rfl ?_
    refine gT trivial rfl rfl rfl rfl rfl rfl rfl rfl rfl rfl (Nat.le_of_ble_eq_true rfl) rfl ?_
    refine gM trivial (.inr rfl) rfl rfl rfl ?_
    refine rg_nil nofun ?_
    refine vc_seq ?_
    refine vc_seq ?_
    refine vc_region hm ?_
    refine gL trivial rfl rfl rfl rfl rfl rfl rfl rfl ?_
    refine gL trivial rfl rfl rfl rfl rfl rfl rfl rfl ?_
    refine gC0 [] (eqStore_nn) trivial rfl rfl rfl rfl (by trivial) rfl rfl rfl rfl rfl ?_
    refine gN trivial rfl rfl rfl rfl ?_
    refine gM trivial (.inl rfl) rfl rfl rfl ?_
    refine gM ⟨_,_,rfl,rfl,(notT rfl)⟩ (.inl rfl) rfl rfl rfl ?_
    refine gM ⟨_,_,rfl,rfl,(notT rfl)⟩ (.inl rfl) rfl rfl rfl ?_
    refine gC0 [13] (eqI_n) ⟨_,_,rfl,rfl,(notT rfl)⟩ rfl rfl rfl rfl ⟨rFlat (rI_flat []) rfl (.inl rfl) rfl,trivial⟩ rfl rfl rfl rfl rfl ?_
    refine gN ⟨_,_,rfl,rfl,(notT rfl)⟩ rfl rfl rfl rfl ?_
    refine gPF trivial rfl rfl (notT rfl) rfl rfl rfl ?_
    refine rg_nil nofun ?_
    refine cF rfl (notT rfl) ?_
    refine vc_skip ?_
    refine vc_seq ?_
    refine vc_region hm ?_
    refine gM trivial (.inr rfl) rfl rfl rfl ?_
    refine rg_nil nofun ?_
    refine vc_seq ?_
    refine vc_region hm ?_
    refine gL trivial rfl rfl rfl rfl rfl rfl rfl rfl ?_
    refine gM trivial (.inl rfl) rfl rfl rfl ?_
    refine gC0 [] (heldStore_n (k:=1) (by decide)) trivial rfl rfl rfl rfl (by trivial) rfl rfl rfl rfl rfl ?_
    refine gM trivial (.inr rfl) rfl rfl rfl ?_
    refine rg_nil nofun ?_
    refine vc_seq ?_
    refine vc_seq ?_
    refine vc_region hm ?_
    refine gM trivial (.inl rfl) rfl rfl rfl ?_
    refine gI trivial rfl rfl rfl rfl rfl rfl ?_
    refine rg_nil nofun ?_
    refine cF rfl (decide_eq_false (by omega)) ?_
    refine vc_skip ?_
    refine vc_seq ?_
    refine vc_region hm ?_
    refine gM trivial (.inl rfl) rfl rfl rfl ?_
    refine gM trivial (.inl rfl) rfl rfl rfl ?_
    refine gC0 [] (heldIntS_n (k:=1)) trivial rfl rfl rfl rfl (by trivial) rfl rfl rfl rfl rfl ?_
    refine gM trivial (.inr rfl) rfl rfl rfl ?_
    refine rg_nil nofun ?_
    refine vc_seq ?_
    refine vc_seq ?_
    refine vc_region hm ?_
    refine gM trivial (.inl rfl) rfl rfl rfl ?_
    refine gI trivial rfl rfl rfl rfl rfl rfl ?_
    refine rg_nil nofun ?_
    refine cF rfl (decide_eq_false (by omega)) ?_
    refine vc_skip ?_
    refine vc_seq ?_
    refine vc_seq ?_
    refine vc_region hm ?_
    refine gM trivial (.inl rfl) rfl rfl rfl ?_
    refine gM trivial (.inl rfl) rfl rfl rfl ?_
    refine gI trivial rfl rfl rfl rfl rfl rfl ?_
    refine rg_nil nofun ?_
    refine cF rfl (bne_self_eq_false _) ?_
    refine vc_skip ?_
    refine vc_seq ?_
    refine vc_region hm ?_
    refine gM trivial (.inr rfl) rfl rfl rfl ?_
    refine rg_nil nofun ?_
    refine vc_ret ?_
    exact ⟨idm,ends0 (.inr rfl) rfl (eqB rfl) rfl rfl rfl⟩
theorem FnExactStoreAll_walk {w:World} {v0 v1:Value} {F0:StF} {F1:RqF} (h0:StoreArg w v0 F0) (h1:ReqsArg w v1 F1):Calls Try.prog 10 #[v0,v1] w fun e w'=>e = .returned (.bool true)∧Below w.heap.size w w' :=
 law_done (FnExactStoreAll_c (s:=F0.s) (l:=F1.l) (k0:=F0.k0) (k1:=F0.k1) (k2:=F0.k2) (k3:=F0.k3) (k4:=F0.k4) (k5:=F1.k) h0.2.1 h0.2.2.1 h0.2.2.2.1 h0.2.2.2.2.1 h0.2.2.2.2.2.1 h0.2.2.2.2.2.2.1 h0.2.2.2.2.2.2.2 h1.2.1 h1.2.2) (ρ:=envL [F0.N0,F0.N1,F0.N2,F0.N3,F0.N4,F1.N]) (by simp only [List.map_cons,List.map_nil,storeArg_r3 (l:=[F0.N0,F0.N1,F0.N2,F0.N3,F0.N4,F1.N]) (a:=0) (b:=1) (c:=2) (d:=3) (e:=4) h0 rfl rfl rfl rfl rfl (of_blt rfl) (of_blt rfl) (of_blt rfl) (of_blt rfl) (of_blt rfl),reqsArg_r3 (l:=[F0.N0,F0.N1,F0.N2,F0.N3,F0.N4,F1.N]) (a:=5) h1 rfl (of_blt rfl)]) ⟨storeArg_at0 h0 rfl (of_blt rfl),storeArg_at1 h0 rfl (of_blt rfl),storeArg_at2 h0 rfl (of_blt rfl),storeArg_at3 h0 rfl (of_blt rfl),storeArg_at4 h0 rfl (of_blt rfl),reqsArg_at h1 rfl (of_blt rfl),trivial⟩
end Go.Proofs.Ytolmblfffnnabaa.A

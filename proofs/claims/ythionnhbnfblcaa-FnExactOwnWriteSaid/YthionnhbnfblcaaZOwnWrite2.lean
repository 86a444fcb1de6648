/- Part 2 of the proof of FnExactOwnWrite: words, contracts of callees, plain lemmas. -/
import Derived.Test.YthionnhbnfblcaaZOwnWrite1
set_option maxHeartbeats 8000000
set_option maxRecDepth 100000
set_option linter.unusedVariables false
set_option linter.unusedSimpArgs false
namespace Go.Proofs.Ythionnhbnfblcaa.A
open Go Go.RowKit
theorem toList_loop (d:ByteArray):∀ n i (r:List UInt8),i + n=d.size→ByteArray.toList.loop d i r=r.reverse ++ d.data.toList.drop i:=by
 intro n
 induction n with
 | zero =>
  intro i r h
  unfold ByteArray.toList.loop
  rw [if_neg (by omega),List.drop_eq_nil_of_le (by rw [Array.length_toList];show d.size≤i;omega),List.append_nil]
 | succ n ih =>
  intro i r h
  unfold ByteArray.toList.loop
  rw [if_pos (by omega),ih (i + 1) _ (by omega),List.reverse_cons,List.append_assoc]
  have hi:i<d.data.toList.length:=by rw [Array.length_toList];show i<d.size;omega
  rw [List.drop_eq_getElem_cons hi]
  congr 2
  have:i<d.data.size:=by simpa using hi
  simp [ByteArray.get!]
  exact getElem!_pos d.data i this
theorem toList_data (d:ByteArray):d.toList=d.data.toList:=by
 have:=toList_loop d d.size 0 [] (by omega)
 simpa [ByteArray.toList] using this
theorem empty_T {d:ByteArray} (h:(d.toList == (⟨#[]⟩:ByteArray).toList)=true):d.size=0:=by
 rw [beq_iff_eq,toList_data,toList_data] at h
 have:=congrArg List.length h
 rw [Array.length_toList] at this
 exact this
theorem empty_F {d:ByteArray} (h:(d.toList == (⟨#[]⟩:ByteArray).toList)=false):0<d.size:=by
 rcases Nat.eq_zero_or_pos d.size with h0|h0
 ·exfalso
  rw [beq_eq_false_iff_ne,toList_data,toList_data] at h
  refine h ?_
  have h0:d.data.size=0:=h0
  rw [Array.size_eq_zero_iff.1 h0]
 ·exact h0
theorem putL_get:∀ (vs cs:List Value) (k j:Nat),k + vs.length≤cs.length→(putL cs k vs)[j]?=if k≤j∧j<k + vs.length then vs[j - k]? else cs[j]?:=by
 intro vs
 induction vs with
 | nil=>intro cs k j _;rw [if_neg (by simp)];rfl
 | cons v vs ih =>
  intro cs k j h
  simp only [List.length_cons] at h
  rw [putL,ih _ _ _ (by simp;omega)]
  by_cases h1:k + 1≤j∧j<k + 1 + vs.length
  ·rw [if_pos h1,if_pos (by simp;omega),show j - k=(j - (k + 1)) + 1 by omega,List.getElem?_cons_succ]
  ·rw [if_neg h1]
   by_cases h2:j=k
   ·subst h2
    rw [if_pos (by simp),Nat.sub_self,List.getElem?_set_self (by omega)];rfl
   ·rw [if_neg (by simp;omega),List.getElem?_set_ne (by omega)]
def writeF (t d:ByteArray) (a:Int) (x:Nat):Int:=if a≤(x:Int)∧(x:Int)<a + d.size then byteAt d ((x:Int) - a) else byteAt t (x:Int)
theorem write_over {t d:ByteArray} {a:Int} (ht:t.size=48) (h0:0≤a) (h2:a + d.size≤48):overT t a (a + d.size) d=bytesS (fL (writeF t d a)):=over_fL (F:=fun x=>byteAt t (x:Int)) (fun i=>byteAt_rng _ _) (text_fL ht) h0 rfl h2
theorem copy_fL {t d:ByteArray} {a:Int} (ht:t.size=48) (h0:0≤a) (h2:a + d.size≤48):putL (rY (bytesL t)) (a.toNat * 1) (rY (bytesL d))=rY (fL (writeF t d a)):=by
 have l1:(rY (bytesL d)).length=d.size:=by rw [rY_map,List.length_map,bytesL_len]
 have l2:(rY (bytesL t)).length=48:=by rw [rY_map,List.length_map,bytesL_len,ht]
 apply List.ext_getElem?
 intro j
 rw [putL_get _ _ _ _ (by rw [l1,l2];omega),l1,Nat.mul_one]
 by_cases hj:j<48
 ·rw [rY_map (fL _),List.getElem?_map,fL_get hj]
  unfold writeF
  by_cases e:a.toNat≤j∧j<a.toNat + d.size
  ·rw [if_pos e,if_pos (by omega),rY_map,List.getElem?_map,bytesL_get (by omega),show ((j - a.toNat:Nat):Int)=(j:Int) - a by omega]
  ·rw [if_neg e,if_neg (by omega),rY_map,List.getElem?_map,bytesL_get (by omega)]
 ·rw [if_neg (by omega),List.getElem?_eq_none (by rw [l2];omega),List.getElem?_eq_none (by rw [rY_map,List.length_map,fL_len];omega)]
def mayW (a:Int) (d:ByteArray):Bool:=decide (0≤a∧a≤48∧0<d.size∧a + d.size≤48) && textOk d
theorem mayW_in {a:Int} {d:ByteArray} (h:mayW a d=true):(0≤a∧a≤48∧0<d.size∧a + d.size≤48)∧textOk d=true:=by unfold mayW at h;simpa using h
theorem mayW_T {a:Int} {d:ByteArray} (h0:¬ a<0) (h1:¬ a > 48) (h2:(d.toList == (⟨#[]⟩:ByteArray).toList)=false) (h3:textOk d=true) (h4:¬ a + d.size > 48):mayW a d=true:=and_true (decide_eq_true ⟨by omega,by omega,empty_F h2,by omega⟩) h3
theorem mayW_1 {a:Int} {d:ByteArray} (h:a<0):mayW a d=false:=and_false_l (decide_eq_false (by omega))
theorem mayW_2 {a:Int} {d:ByteArray} (h:a > 48):mayW a d=false:=and_false_l (decide_eq_false (by omega))
theorem mayW_3 {a:Int} {d:ByteArray} (h:(d.toList == (⟨#[]⟩:ByteArray).toList)=true):mayW a d=false:=and_false_l (decide_eq_false (by have:=empty_T h;omega))
theorem mayW_4 {a:Int} {d:ByteArray} (h:textOk d=false):mayW a d=false:=and_false_r h
theorem mayW_5 {a:Int} {d:ByteArray} (h:a + d.size > 48):mayW a d=false:=and_false_l (decide_eq_false (by omega))
abbrev partW (a:Int) (d:ByteArray):Sp:=⟨a,a + d.size⟩
theorem partW_ok {a:Int} {d:ByteArray} (h:mayW a d=true):spanOk (partW a d)=true:=decide_eq_true (by have:=(mayW_in h).1;simp only;omega)
abbrev writeX (o:Ow) (a:Int) (d:ByteArray):Ow:=⟨bytesS (fL (writeF o.t d a)),l1ofP (putP (ofP o.h) (ofP [partW a d]) true),l1ofP (putP (ofP o.d) (ofP [partW a d]) true)⟩
theorem mayW_ne {a:Int} {d:ByteArray} (h:mayW a d=true):(d.toList == (⟨#[]⟩:ByteArray).toList)=false:=by
 cases e:(d.toList == (⟨#[]⟩:ByteArray).toList) with
 | false=>rfl
 | true=>have:=empty_T e;have:=(mayW_in h).1;omega
def twS (a:Int) (d:ByteArray):ByteArray:=((⟨#[]⟩:ByteArray) ++ blankT (if a + d.size > ((⟨#[]⟩:ByteArray).size:Int) then a + d.size else ((⟨#[]⟩:ByteArray).size:Int)).toNat).extract (Int.toNat 0) a.toNat ++ d ++ (⟨#[]⟩:ByteArray).extract (if ((⟨#[]⟩:ByteArray).size:Int)<a + d.size then ((⟨#[]⟩:ByteArray).size:Int) else a + d.size).toNat (((⟨#[]⟩:ByteArray).size:Int)).toNat
theorem textOk_none:textOk ⟨#[]⟩=true:=rfl
end Go.Proofs.Ythionnhbnfblcaa.A
namespace Go.Proofs.Ythionnhbnfblcaa.A
open Go Go.RowKit
set_option maxHeartbeats 4000000
theorem spec_l6Over_c {t d:ByteArray} {s:Sp} (h0:0≤s.lo) (h1:s.lo≤s.hi) (h2:s.hi≤t.size) (ht:t.size≤1048576) (hd:d.size≤1048576):FDoes Try.prog 68 [.string t,vSp s,.string d] (hp []) { v:=.string (overT t s.lo s.hi d) }:=by
 have hm:Try.prog.follows .mixedOrders=true:=by kernel_rfl
 have hd_:∀ x ∈ ([]:List (Nat × Bool × Fam)),∀ k y,x.2.2 k=some y→DetB (lt 0) y:=fun x_ hx=>(by cases hx)
 refine fn_exact (u0:=0) Try.func68 rfl rfl (gets rfl rfl rfl hd_ rfl) ?_
 clear hd_
 refine vc_seq ?_
 refine vc_region hm ?_
 refine gB (u':=1) trivial rfl rfl rfl rfl rfl rfl rfl rfl ?_
 refine gM trivial (.inr rfl) rfl rfl rfl ?_
 refine rg_nil nofun ?_
 refine vc_seq ?_
 refine vc_region hm ?_
 refine gM trivial (.inl rfl) rfl rfl rfl ?_
 refine gF trivial rfl rfl rfl rfl rfl ?_
 refine gL trivial rfl rfl rfl rfl rfl rfl rfl rfl ?_
 refine gSx trivial rfl rfl rfl rfl rfl rfl rfl (by omega) (by omega) (by omega) ?_
 refine gM trivial (.inl rfl) rfl rfl rfl ?_
 refine gCat trivial rfl rfl rfl rfl rfl (by first|(rw [ByteArray.size_extract];omega)|(rw [ByteArray.size_append,ByteArray.size_extract,ByteArray.size_extract];omega)) ?_
 refine gM trivial (.inl rfl) rfl rfl rfl ?_
 refine gF trivial rfl rfl rfl rfl rfl ?_
 refine gL trivial rfl rfl rfl rfl rfl rfl rfl rfl ?_
 refine gSx trivial rfl rfl rfl rfl rfl rfl rfl (by omega) (by omega) (by omega) ?_
 refine gCat trivial rfl rfl rfl rfl rfl (by first|(rw [ByteArray.size_extract];omega)|(rw [ByteArray.size_append,ByteArray.size_extract,ByteArray.size_extract];omega)) ?_
 refine gM trivial (.inr rfl) rfl rfl rfl ?_
 refine rg_nil (fun _=>by kernel_rfl) ?_
 refine vc_ret ?_
 exact ⟨idm,ends0 (.inr rfl) rfl (eqT rfl) rfl rfl rfl⟩
theorem impl_SpanOk_c (s:Sp):FDoes Try.prog 56 [vSp s] (hp []) { v:=.bool (spanOk s) }:=by
 have hm:Try.prog.follows .mixedOrders=true:=by kernel_rfl
 have hd_:∀ x ∈ ([]:List (Nat × Bool × Fam)),∀ k y,x.2.2 k=some y→DetB (lt 0) y:=fun x_ hx=>(by cases hx)
 refine fn_exact (u0:=0) Try.func56 rfl rfl (gets rfl rfl rfl hd_ rfl) ?_
 clear hd_
 refine vc_seq ?_
 refine vc_region hm ?_
 refine gB (u':=1) trivial rfl rfl rfl rfl rfl rfl rfl rfl ?_
 refine gM trivial (.inr rfl) rfl rfl rfl ?_
 refine rg_nil nofun ?_
 refine vc_seq ?_
 refine vc_region hm ?_
 refine gF trivial rfl rfl rfl rfl rfl ?_
 refine gL trivial rfl rfl rfl rfl rfl rfl rfl rfl ?_
 refine gI trivial rfl rfl rfl rfl rfl rfl ?_
 refine gM trivial (.inl rfl) rfl rfl rfl ?_
 refine gI2 (d:=6) rfl (fun c6=>?_) (fun c6=>?_)
 ·skip
  have p6:=of_decide_eq_true c6
  refine gF ⟨_,_,rfl,rfl,c6⟩ rfl rfl rfl rfl rfl ?_
  refine gL ⟨_,_,rfl,rfl,c6⟩ rfl rfl rfl rfl rfl rfl rfl rfl ?_
  refine gF ⟨_,_,rfl,rfl,c6⟩ rfl rfl rfl rfl rfl ?_
  refine gL ⟨_,_,rfl,rfl,c6⟩ rfl rfl rfl rfl rfl rfl rfl rfl ?_
  refine gI ⟨_,_,rfl,rfl,c6⟩ rfl rfl rfl rfl rfl rfl ?_
  refine gPT trivial rfl rfl c6 rfl rfl rfl ?_
  refine gM trivial (.inl rfl) rfl rfl rfl ?_
  refine gI2 (d:=13) rfl (fun c13=>?_) (fun c13=>?_)
  ·skip
   have p13:=of_decide_eq_true c13
   refine gF ⟨_,_,rfl,rfl,c13⟩ rfl rfl rfl rfl rfl ?_
   refine gL ⟨_,_,rfl,rfl,c13⟩ rfl rfl rfl rfl rfl rfl rfl rfl ?_
   refine gI ⟨_,_,rfl,rfl,c13⟩ rfl rfl rfl rfl rfl rfl ?_
   refine gPT trivial rfl rfl c13 rfl rfl rfl ?_
   refine gM trivial (.inr rfl) rfl rfl rfl ?_
   refine rg_nil nofun ?_
   refine vc_ret ?_
   exact ⟨idm,ends0 (.inr rfl) rfl (eqB (by first|rfl|exact decide_eq_true (by omega)|exact decide_eq_false (by omega)|exact decide_eq_decide.2 (by omega))) rfl rfl rfl⟩
  ·skip
   have p13:=of_decide_eq_false c13
   refine gO ⟨_,_,rfl,rfl,c13⟩ rfl rfl ?_
   refine gO ⟨_,_,rfl,rfl,c13⟩ rfl rfl ?_
   refine gO ⟨_,_,rfl,rfl,c13⟩ rfl rfl ?_
   refine gPF trivial rfl rfl c13 rfl rfl rfl ?_
   refine gM trivial (.inr rfl) rfl rfl rfl ?_
   refine rg_nil nofun ?_
   refine vc_ret ?_
   exact ⟨idm,ends0 (.inr rfl) rfl (eqB (by first|rfl|exact decide_eq_true (by omega)|exact decide_eq_false (by omega)|exact decide_eq_decide.2 (by omega))) rfl rfl rfl⟩
 ·skip
  have p6:=of_decide_eq_false c6
  refine gO ⟨_,_,rfl,rfl,c6⟩ rfl rfl ?_
  refine gO ⟨_,_,rfl,rfl,c6⟩ rfl rfl ?_
  refine gO ⟨_,_,rfl,rfl,c6⟩ rfl rfl ?_
  refine gO ⟨_,_,rfl,rfl,c6⟩ rfl rfl ?_
  refine gO ⟨_,_,rfl,rfl,c6⟩ rfl rfl ?_
  refine gPF trivial rfl rfl c6 rfl rfl rfl ?_
  refine gM trivial (.inl rfl) rfl rfl rfl ?_
  refine gO ⟨_,_,rfl,rfl,rfl⟩ rfl rfl ?_
  refine gO ⟨_,_,rfl,rfl,rfl⟩ rfl rfl ?_
  refine gO ⟨_,_,rfl,rfl,rfl⟩ rfl rfl ?_
  refine gPF trivial rfl rfl rfl rfl rfl rfl ?_
  refine gM trivial (.inr rfl) rfl rfl rfl ?_
  refine rg_nil nofun ?_
  refine vc_ret ?_
  exact ⟨idm,ends0 (.inr rfl) rfl (eqB (by first|rfl|exact decide_eq_true (by omega)|exact decide_eq_false (by omega)|exact decide_eq_decide.2 (by omega))) rfl rfl rfl⟩
theorem spec_SpanOk_c (s:Sp):FDoes Try.prog 38 [vSp s] (hp []) { v:=.bool (spanOk s) }:=by
 have hm:Try.prog.follows .mixedOrders=true:=by kernel_rfl
 have hd_:∀ x ∈ ([]:List (Nat × Bool × Fam)),∀ k y,x.2.2 k=some y→DetB (lt 0) y:=fun x_ hx=>(by cases hx)
 refine fn_exact (u0:=0) Try.func38 rfl rfl (gets rfl rfl rfl hd_ rfl) ?_
 clear hd_
 refine vc_seq ?_
 refine vc_region hm ?_
 refine gB (u':=1) trivial rfl rfl rfl rfl rfl rfl rfl rfl ?_
 refine gM trivial (.inr rfl) rfl rfl rfl ?_
 refine rg_nil nofun ?_
 refine vc_seq ?_
 refine vc_region hm ?_
 refine gF trivial rfl rfl rfl rfl rfl ?_
 refine gL trivial rfl rfl rfl rfl rfl rfl rfl rfl ?_
 refine gI trivial rfl rfl rfl rfl rfl rfl ?_
 refine gM trivial (.inl rfl) rfl rfl rfl ?_
 refine gI2 (d:=6) rfl (fun c6=>?_) (fun c6=>?_)
 ·skip
  have p6:=of_decide_eq_true c6
  refine gF ⟨_,_,rfl,rfl,c6⟩ rfl rfl rfl rfl rfl ?_
  refine gL ⟨_,_,rfl,rfl,c6⟩ rfl rfl rfl rfl rfl rfl rfl rfl ?_
  refine gF ⟨_,_,rfl,rfl,c6⟩ rfl rfl rfl rfl rfl ?_
  refine gL ⟨_,_,rfl,rfl,c6⟩ rfl rfl rfl rfl rfl rfl rfl rfl ?_
  refine gI ⟨_,_,rfl,rfl,c6⟩ rfl rfl rfl rfl rfl rfl ?_
  refine gPT trivial rfl rfl c6 rfl rfl rfl ?_
  refine gM trivial (.inl rfl) rfl rfl rfl ?_
  refine gI2 (d:=13) rfl (fun c13=>?_) (fun c13=>?_)
  ·skip
   have p13:=of_decide_eq_true c13
   refine gF ⟨_,_,rfl,rfl,c13⟩ rfl rfl rfl rfl rfl ?_
   refine gL ⟨_,_,rfl,rfl,c13⟩ rfl rfl rfl rfl rfl rfl rfl rfl ?_
   refine gI ⟨_,_,rfl,rfl,c13⟩ rfl rfl rfl rfl rfl rfl ?_
   refine gPT trivial rfl rfl c13 rfl rfl rfl ?_
   refine gM trivial (.inr rfl) rfl rfl rfl ?_
   refine rg_nil nofun ?_
   refine vc_ret ?_
   exact ⟨idm,ends0 (.inr rfl) rfl (eqB (by first|rfl|exact decide_eq_true (by omega)|exact decide_eq_false (by omega)|exact decide_eq_decide.2 (by omega))) rfl rfl rfl⟩
  ·skip
   have p13:=of_decide_eq_false c13
   refine gO ⟨_,_,rfl,rfl,c13⟩ rfl rfl ?_
   refine gO ⟨_,_,rfl,rfl,c13⟩ rfl rfl ?_
   refine gO ⟨_,_,rfl,rfl,c13⟩ rfl rfl ?_
   refine gPF trivial rfl rfl c13 rfl rfl rfl ?_
   refine gM trivial (.inr rfl) rfl rfl rfl ?_
   refine rg_nil nofun ?_
   refine vc_ret ?_
   exact ⟨idm,ends0 (.inr rfl) rfl (eqB (by first|rfl|exact decide_eq_true (by omega)|exact decide_eq_false (by omega)|exact decide_eq_decide.2 (by omega))) rfl rfl rfl⟩
 ·skip
  have p6:=of_decide_eq_false c6
  refine gO ⟨_,_,rfl,rfl,c6⟩ rfl rfl ?_
  refine gO ⟨_,_,rfl,rfl,c6⟩ rfl rfl ?_
  refine gO ⟨_,_,rfl,rfl,c6⟩ rfl rfl ?_
  refine gO ⟨_,_,rfl,rfl,c6⟩ rfl rfl ?_
  refine gO ⟨_,_,rfl,rfl,c6⟩ rfl rfl ?_
  refine gPF trivial rfl rfl c6 rfl rfl rfl ?_
  refine gM trivial (.inl rfl) rfl rfl rfl ?_
  refine gO ⟨_,_,rfl,rfl,rfl⟩ rfl rfl ?_
  refine gO ⟨_,_,rfl,rfl,rfl⟩ rfl rfl ?_
  refine gO ⟨_,_,rfl,rfl,rfl⟩ rfl rfl ?_
  refine gPF trivial rfl rfl rfl rfl rfl rfl ?_
  refine gM trivial (.inr rfl) rfl rfl rfl ?_
  refine rg_nil nofun ?_
  refine vc_ret ?_
  exact ⟨idm,ends0 (.inr rfl) rfl (eqB (by first|rfl|exact decide_eq_true (by omega)|exact decide_eq_false (by omega)|exact decide_eq_decide.2 (by omega))) rfl rfl rfl⟩
theorem spec_l2Byte_c {n:Int}:FDoes Try.prog 82 [.int .u8 n] (hp []) { v:=.bool (byteOk n) }:=by
 have hm:Try.prog.follows .mixedOrders=true:=by kernel_rfl
 have hd_:∀ x ∈ ([]:List (Nat × Bool × Fam)),∀ k y,x.2.2 k=some y→DetB (lt 0) y:=fun x_ hx=>(by cases hx)
 refine fn_exact (u0:=0) Try.func82 rfl rfl (gets rfl rfl rfl hd_ rfl) ?_
 clear hd_
 refine vc_seq ?_
 refine vc_region hm ?_
 refine gM trivial (.inr rfl) rfl rfl rfl ?_
 refine rg_nil nofun ?_
 refine vc_seq ?_
 refine vc_region hm ?_
 refine gM trivial (.inl rfl) rfl rfl rfl ?_
 refine gI trivial rfl rfl rfl rfl rfl rfl ?_
 refine gM trivial (.inl rfl) rfl rfl rfl ?_
 refine gI2 (d:=5) rfl (fun c5=>?_) (fun c5=>?_)
 ·skip
  have p5:=eq_of_beq c5
  refine gO ⟨_,_,rfl,rfl,c5⟩ rfl rfl ?_
  refine gO ⟨_,_,rfl,rfl,c5⟩ rfl rfl ?_
  refine gO ⟨_,_,rfl,rfl,c5⟩ rfl rfl ?_
  refine gO ⟨_,_,rfl,rfl,trivial⟩ rfl rfl ?_
  refine gO ⟨_,_,rfl,rfl,trivial⟩ rfl rfl ?_
  refine gO ⟨_,_,rfl,rfl,c5⟩ rfl rfl ?_
  refine gPT trivial rfl rfl c5 rfl rfl rfl ?_
  refine gM trivial (.inl rfl) rfl rfl rfl ?_
  refine gO ⟨_,_,rfl,rfl,rfl⟩ rfl rfl ?_
  refine gO ⟨_,_,rfl,rfl,rfl⟩ rfl rfl ?_
  refine gO ⟨_,_,rfl,rfl,rfl⟩ rfl rfl ?_
  refine gO ⟨_,_,rfl,rfl,trivial⟩ rfl rfl ?_
  refine gO ⟨_,_,rfl,rfl,trivial⟩ rfl rfl ?_
  refine gO ⟨_,_,rfl,rfl,rfl⟩ rfl rfl ?_
  refine gPT trivial rfl rfl rfl rfl rfl rfl ?_
  refine gM trivial (.inr rfl) rfl rfl rfl ?_
  refine rg_nil nofun ?_
  refine vc_ret ?_
  exact ⟨idm,ends0 (.inr rfl) rfl (eqB (by first|rfl|exact decide_eq_true (by omega)|exact decide_eq_false (by omega)|exact decide_eq_decide.2 (by omega))) rfl rfl rfl⟩
 ·skip
  have p5:=ne_of_beq_false c5
  refine gM ⟨_,_,rfl,rfl,c5⟩ (.inl rfl) rfl rfl rfl ?_
  refine gI ⟨_,_,rfl,rfl,c5⟩ rfl rfl rfl rfl rfl rfl ?_
  refine gM ⟨_,_,rfl,rfl,c5⟩ (.inl rfl) rfl rfl rfl ?_
  refine gI2 (d:=8) rfl (fun c8=>?_) (fun c8=>?_)
  ·skip
   have p8:=of_decide_eq_true c8
   refine gM ⟨_,_,rfl,rfl,c8⟩ (.inl rfl) rfl rfl rfl ?_
   refine gI ⟨_,_,rfl,rfl,c8⟩ rfl rfl rfl rfl rfl rfl ?_
   refine gPT ⟨_,_,rfl,rfl,c5⟩ rfl rfl c8 rfl rfl rfl ?_
   refine gPF trivial rfl rfl c5 rfl rfl rfl ?_
   refine gM trivial (.inl rfl) rfl rfl rfl ?_
   refine gI2 (d:=13) rfl (fun c13=>?_) (fun c13=>?_)
   ·skip
    have p13:=of_decide_eq_true c13
    refine gO ⟨_,_,rfl,rfl,c13⟩ rfl rfl ?_
    refine gO ⟨_,_,rfl,rfl,c13⟩ rfl rfl ?_
    refine gO ⟨_,_,rfl,rfl,c13⟩ rfl rfl ?_
    refine gO ⟨_,_,rfl,rfl,trivial⟩ rfl rfl ?_
    refine gO ⟨_,_,rfl,rfl,trivial⟩ rfl rfl ?_
    refine gO ⟨_,_,rfl,rfl,c13⟩ rfl rfl ?_
    refine gPT trivial rfl rfl c13 rfl rfl rfl ?_
    refine gM trivial (.inr rfl) rfl rfl rfl ?_
    refine rg_nil nofun ?_
    refine vc_ret ?_
    exact ⟨idm,ends0 (.inr rfl) rfl (eqB (by first|rfl|exact decide_eq_true (by omega)|exact decide_eq_false (by omega)|exact decide_eq_decide.2 (by omega))) rfl rfl rfl⟩
   ·skip
    have p13:=of_decide_eq_false c13
    refine gM ⟨_,_,rfl,rfl,c13⟩ (.inl rfl) rfl rfl rfl ?_
    refine gI ⟨_,_,rfl,rfl,c13⟩ rfl rfl rfl rfl rfl rfl ?_
    refine gM ⟨_,_,rfl,rfl,c13⟩ (.inl rfl) rfl rfl rfl ?_
    refine gI2 (d:=16) rfl (fun c16=>?_) (fun c16=>?_)
    ·skip
     have p16:=of_decide_eq_true c16
     refine gM ⟨_,_,rfl,rfl,c16⟩ (.inl rfl) rfl rfl rfl ?_
     refine gI ⟨_,_,rfl,rfl,c16⟩ rfl rfl rfl rfl rfl rfl ?_
     refine gPT ⟨_,_,rfl,rfl,c13⟩ rfl rfl c16 rfl rfl rfl ?_
     refine gPF trivial rfl rfl c13 rfl rfl rfl ?_
     refine gM trivial (.inr rfl) rfl rfl rfl ?_
     refine rg_nil nofun ?_
     refine vc_ret ?_
     exact ⟨idm,ends0 (.inr rfl) rfl (eqB (by first|rfl|exact decide_eq_true (by omega)|exact decide_eq_false (by omega)|exact decide_eq_decide.2 (by omega))) rfl rfl rfl⟩
    ·skip
     have p16:=of_decide_eq_false c16
     refine gO ⟨_,_,rfl,rfl,c16⟩ rfl rfl ?_
     refine gO ⟨_,_,rfl,rfl,c16⟩ rfl rfl ?_
     refine gPF ⟨_,_,rfl,rfl,c13⟩ rfl rfl c16 rfl rfl rfl ?_
     refine gPF trivial rfl rfl c13 rfl rfl rfl ?_
     refine gM trivial (.inr rfl) rfl rfl rfl ?_
     refine rg_nil nofun ?_
     refine vc_ret ?_
     exact ⟨idm,ends0 (.inr rfl) rfl (eqB (by first|rfl|exact decide_eq_true (by omega)|exact decide_eq_false (by omega)|exact decide_eq_decide.2 (by omega))) rfl rfl rfl⟩
  ·skip
   have p8:=of_decide_eq_false c8
   refine gO ⟨_,_,rfl,rfl,c8⟩ rfl rfl ?_
   refine gO ⟨_,_,rfl,rfl,c8⟩ rfl rfl ?_
   refine gPF ⟨_,_,rfl,rfl,c5⟩ rfl rfl c8 rfl rfl rfl ?_
   refine gPF trivial rfl rfl c5 rfl rfl rfl ?_
   refine gM trivial (.inl rfl) rfl rfl rfl ?_
   refine gM ⟨_,_,rfl,rfl,rfl⟩ (.inl rfl) rfl rfl rfl ?_
   refine gI ⟨_,_,rfl,rfl,rfl⟩ rfl rfl rfl rfl rfl rfl ?_
   refine gM ⟨_,_,rfl,rfl,rfl⟩ (.inl rfl) rfl rfl rfl ?_
   refine gI2 (d:=16) rfl (fun c16=>?_) (fun c16=>?_)
   ·skip
    have p16:=of_decide_eq_true c16
    refine gM ⟨_,_,rfl,rfl,c16⟩ (.inl rfl) rfl rfl rfl ?_
    refine gI ⟨_,_,rfl,rfl,c16⟩ rfl rfl rfl rfl rfl rfl ?_
    refine gPT ⟨_,_,rfl,rfl,rfl⟩ rfl rfl c16 rfl rfl rfl ?_
    refine gPF trivial rfl rfl rfl rfl rfl rfl ?_
    refine gM trivial (.inr rfl) rfl rfl rfl ?_
    refine rg_nil nofun ?_
    refine vc_ret ?_
    exact ⟨idm,ends0 (.inr rfl) rfl (eqB (by first|rfl|exact decide_eq_true (by omega)|exact decide_eq_false (by omega)|exact decide_eq_decide.2 (by omega))) rfl rfl rfl⟩
   ·skip
    have p16:=of_decide_eq_false c16
    refine gO ⟨_,_,rfl,rfl,c16⟩ rfl rfl ?_
    refine gO ⟨_,_,rfl,rfl,c16⟩ rfl rfl ?_
    refine gPF ⟨_,_,rfl,rfl,rfl⟩ rfl rfl c16 rfl rfl rfl ?_
    refine gPF trivial rfl rfl rfl rfl rfl rfl ?_
    refine gM trivial (.inr rfl) rfl rfl rfl ?_
    refine rg_nil nofun ?_
    refine vc_ret ?_
    exact ⟨idm,ends0 (.inr rfl) rfl (eqB (by first|rfl|exact decide_eq_true (by omega)|exact decide_eq_false (by omega)|exact decide_eq_decide.2 (by omega))) rfl rfl rfl⟩
theorem spec_TextOk_c {s:ByteArray} (hs:s.size≤4294967296):FDoes Try.prog 47 [.string s] (hp []) { v:=.bool (textOk s) }:=by
 have hm:Try.prog.follows .mixedOrders=true:=by kernel_rfl
 have hd_:∀ x ∈ ([]:List (Nat × Bool × Fam)),∀ k y,x.2.2 k=some y→DetB (lt 0) y:=fun x_ hx=>(by cases hx)
 refine fn_exact (u0:=0) Try.func47 rfl rfl (gets rfl rfl rfl hd_ rfl) ?_
 clear hd_
 refine vc_seq ?_
 refine vc_region hm ?_
 refine gM trivial (.inr rfl) rfl rfl rfl ?_
 refine rg_nil nofun ?_
 refine vc_seq ?_
 refine vc_seq ?_
 refine vc_region hm ?_
 refine gM trivial (.inr rfl) rfl rfl rfl ?_
 refine rg_nil nofun ?_
 refine vc_block ?_
 refine vc_loop' (fun n_ S_=>∃ (j:Nat),j≤s.size∧(List.range j).all (fun i=>byteOk (byteAt s (i:Int)))=true∧n_=s.size - j∧S_=⟨0,[(0,.string s),(3,.int .i64 j)],[]⟩) (m0:=idm) ⟨0,Nat.zero_le _,rfl,rfl,rfl⟩ (le_mk rfl ⟨⟨rfl,rfl⟩,⟨rfl,rfl⟩,trivial⟩ trivial rfl (fun _ _=>rfl)) ?_
 rintro n_ S_ ⟨j,hj,ha,rfl,rfl⟩
 refine vc_seq ?_
 refine vc_seq ?_
 refine vc_region hm ?_
 refine gM trivial (.inl rfl) rfl rfl rfl ?_
 refine gM trivial (.inl rfl) rfl rfl rfl ?_
 refine gKT trivial rfl rfl rfl rfl rfl ?_
 refine gI trivial rfl rfl rfl rfl rfl rfl ?_
 refine rg_nil nofun ?_
 refine cI rfl (fun c7=>?_) (fun c7=>?_)
 ·skip
  have p7:=of_decide_eq_true c7
  refine vc_skip ?_
  refine vc_seq ?_
  refine vc_block ?_
  refine vc_seq ?_
  refine vc_region hm ?_
  refine gM trivial (.inl rfl) rfl rfl rfl ?_
  refine gM trivial (.inl rfl) rfl rfl rfl ?_
  refine gY trivial rfl rfl rfl rfl rfl rfl (by omega) (by omega) ?_
  refine gC0 [] (spec_l2Byte_c) trivial rfl rfl rfl rfl (by trivial) rfl rfl rfl rfl rfl ?_
  refine gN trivial rfl rfl rfl rfl ?_
  refine rg_nil nofun ?_
  refine cI rfl (fun c14=>?_) (fun c14=>?_)
  ·skip
   have n14:=unT c14
   refine vc_seq ?_
   refine vc_region hm ?_
   refine gM trivial (.inr rfl) rfl rfl rfl ?_
   refine rg_nil nofun ?_
   refine vc_ret ?_
   exact ⟨idm,ends0 (.inr rfl) rfl (eqB (textOk_1 p7 (by assumption))) rfl rfl rfl⟩
  ·skip
   have n14:=unF c14
   refine vc_skip ?_
   refine vc_region hm ?_
   refine gM trivial (.inl rfl) rfl rfl rfl ?_
   refine gA trivial rfl rfl rfl rfl rfl rfl (by omega) ?_
   refine gM trivial (.inr rfl) rfl rfl rfl ?_
   refine rg_nil nofun ?_
   exact lp_next (m:=idm) ⟨j + 1,(by omega),(all_step ha (by assumption)),rfl,rfl⟩ (by omega) (le_mk rfl ⟨⟨rfl,rfl⟩,⟨rfl,rfl⟩,trivial⟩ trivial rfl (fun _ _=>rfl))
 ·skip
  have p7:=of_decide_eq_false c7
  refine vc_exit ?_
  refine vc_seq ?_
  refine vc_region hm ?_
  refine gM trivial (.inl rfl) rfl rfl rfl ?_
  refine gKT trivial rfl rfl rfl rfl rfl ?_
  refine gI trivial rfl rfl rfl rfl rfl rfl ?_
  refine gM trivial (.inr rfl) rfl rfl rfl ?_
  refine rg_nil nofun ?_
  refine vc_ret ?_
  exact ⟨idm,ends0 (.inr rfl) rfl (eqB (textOk_2 hj p7 ha)) rfl rfl rfl⟩
theorem impl_TextOk_c {s:ByteArray} (hs:s.size≤4294967296):FDoes Try.prog 50 [.string s] (hp []) { v:=.bool (textOk s) }:=by
 have hm:Try.prog.follows .mixedOrders=true:=by kernel_rfl
 have hd_:∀ x ∈ ([]:List (Nat × Bool × Fam)),∀ k y,x.2.2 k=some y→DetB (lt 0) y:=fun x_ hx=>(by cases hx)
 refine fn_exact (u0:=0) Try.func50 rfl rfl (gets rfl rfl rfl hd_ rfl) ?_
 clear hd_
 refine vc_seq ?_
 refine vc_region hm ?_
 refine gM trivial (.inr rfl) rfl rfl rfl ?_
 refine rg_nil nofun ?_
 refine vc_seq ?_
 refine vc_seq ?_
 refine vc_region hm ?_
 refine gM trivial (.inl rfl) rfl rfl rfl ?_
 refine gKT trivial rfl rfl rfl rfl rfl ?_
 refine gM trivial (.inl rfl) rfl rfl rfl ?_
 refine rg_nil nofun ?_
 refine vc_block ?_
 refine vc_loop' (fun n_ S_=>∃ (j:Nat),j≤s.size∧(List.range j).all (fun i=>byteOk (byteAt s (i:Int)))=true∧n_=s.size - j∧S_=⟨0,[(0,.string s),(6,.int .i64 s.size),(7,.int .i64 j)],[]⟩) (m0:=idm) ⟨0,Nat.zero_le _,rfl,rfl,rfl⟩ (le_mk rfl ⟨⟨rfl,rfl⟩,⟨rfl,rfl⟩,⟨rfl,rfl⟩,trivial⟩ trivial rfl (fun _ _=>rfl)) ?_
 rintro n_ S_ ⟨j,hj,ha,rfl,rfl⟩
 refine vc_seq ?_
 refine vc_region hm ?_
 refine gI trivial rfl rfl rfl rfl rfl rfl ?_
 refine rg_nil nofun ?_
 refine vc_seq ?_
 refine cI rfl (fun c8=>?_) (fun c8=>?_)
 ·skip
  have p8:=of_decide_eq_true c8
  refine vc_skip ?_
  refine vc_seq ?_
  refine vc_block ?_
  refine vc_seq ?_
  refine vc_region hm ?_
  refine gM trivial (.inl rfl) rfl rfl rfl ?_
  refine gM trivial (.inr rfl) rfl rfl rfl ?_
  refine rg_nil nofun ?_
  refine vc_seq ?_
  refine vc_region hm ?_
  refine gM trivial (.inl rfl) rfl rfl rfl ?_
  refine gM trivial (.inl rfl) rfl rfl rfl ?_
  refine gY trivial rfl rfl rfl rfl rfl rfl (by omega) (by omega) ?_
  refine gM trivial (.inr rfl) rfl rfl rfl ?_
  refine rg_nil nofun ?_
  refine vc_seq ?_
  refine vc_region hm ?_
  refine gM trivial (.inl rfl) rfl rfl rfl ?_
  refine gI trivial rfl rfl rfl rfl rfl rfl ?_
  refine gM trivial (.inl rfl) rfl rfl rfl ?_
  refine gI2 (d:=15) rfl (fun c15=>?_) (fun c15=>?_)
  ·skip
   have p15:=of_decide_eq_true c15
   refine gO ⟨_,_,rfl,rfl,c15⟩ rfl rfl ?_
   refine gO ⟨_,_,rfl,rfl,c15⟩ rfl rfl ?_
   refine gPT trivial rfl rfl c15 rfl rfl rfl ?_
   refine gM trivial (.inl rfl) rfl rfl rfl ?_
   refine gM ⟨_,_,rfl,rfl,rfl⟩ (.inl rfl) rfl rfl rfl ?_
   refine gI ⟨_,_,rfl,rfl,rfl⟩ rfl rfl rfl rfl rfl rfl ?_
   refine gM ⟨_,_,rfl,rfl,rfl⟩ (.inl rfl) rfl rfl rfl ?_
   refine gI2 (d:=22) rfl (fun c22=>?_) (fun c22=>?_)
   ·skip
    have p22:=of_decide_eq_true c22
    refine gO ⟨_,_,rfl,rfl,c22⟩ rfl rfl ?_
    refine gO ⟨_,_,rfl,rfl,c22⟩ rfl rfl ?_
    refine gPT ⟨_,_,rfl,rfl,rfl⟩ rfl rfl c22 rfl rfl rfl ?_
    refine gPT trivial rfl rfl rfl rfl rfl rfl ?_
    refine gM trivial (.inl rfl) rfl rfl rfl ?_
    refine gM ⟨_,_,rfl,rfl,rfl⟩ (.inl rfl) rfl rfl rfl ?_
    refine gI ⟨_,_,rfl,rfl,rfl⟩ rfl rfl rfl rfl rfl rfl ?_
    refine gPT trivial rfl rfl rfl rfl rfl rfl ?_
    refine rg_nil nofun ?_
    refine cI rfl (fun c30=>?_) (fun c30=>?_)
    ·skip
     have p30:=bne_iff_ne.1 c30
     refine vc_seq ?_
     refine vc_region hm ?_
     refine gM trivial (.inr rfl) rfl rfl rfl ?_
     refine rg_nil nofun ?_
     refine vc_ret ?_
     exact ⟨idm,ends0 (.inr rfl) rfl (eqB (textOk_1 p8 (decide_eq_false (by omega)))) rfl rfl rfl⟩
    ·skip
     have p30:=bne_eq_false_iff_eq.1 c30
     refine vc_skip ?_
     refine vc_region hm ?_
     refine gA trivial rfl rfl rfl rfl rfl rfl (by omega) ?_
     refine gM trivial (.inl rfl) rfl rfl rfl ?_
     refine rg_nil nofun ?_
     exact lp_next (m:=idm) ⟨j + 1,(by omega),(all_step ha (decide_eq_true (by omega))),rfl,rfl⟩ (by omega) (le_mk rfl ⟨⟨rfl,rfl⟩,⟨rfl,rfl⟩,⟨rfl,rfl⟩,trivial⟩ trivial rfl (fun _ _=>rfl))
   ·skip
    have p22:=of_decide_eq_false c22
    refine gM ⟨_,_,rfl,rfl,c22⟩ (.inl rfl) rfl rfl rfl ?_
    refine gI ⟨_,_,rfl,rfl,c22⟩ rfl rfl rfl rfl rfl rfl ?_
    refine gPF ⟨_,_,rfl,rfl,rfl⟩ rfl rfl c22 rfl rfl rfl ?_
    refine gPT trivial rfl rfl rfl rfl rfl rfl ?_
    refine gM trivial (.inl rfl) rfl rfl rfl ?_
    refine gI2 (d:=27) rfl (fun c27=>?_) (fun c27=>?_)
    ·skip
     have p27:=of_decide_eq_true c27
     refine gM ⟨_,_,rfl,rfl,c27⟩ (.inl rfl) rfl rfl rfl ?_
     refine gI ⟨_,_,rfl,rfl,c27⟩ rfl rfl rfl rfl rfl rfl ?_
     refine gPT trivial rfl rfl c27 rfl rfl rfl ?_
     refine rg_nil nofun ?_
     refine cI rfl (fun c30=>?_) (fun c30=>?_)
     ·skip
      have p30:=bne_iff_ne.1 c30
      refine vc_seq ?_
      refine vc_region hm ?_
      refine gM trivial (.inr rfl) rfl rfl rfl ?_
      refine rg_nil nofun ?_
      refine vc_ret ?_
      exact ⟨idm,ends0 (.inr rfl) rfl (eqB (textOk_1 p8 (decide_eq_false (by omega)))) rfl rfl rfl⟩
     ·skip
      have p30:=bne_eq_false_iff_eq.1 c30
      refine vc_skip ?_
      refine vc_region hm ?_
      refine gA trivial rfl rfl rfl rfl rfl rfl (by omega) ?_
      refine gM trivial (.inl rfl) rfl rfl rfl ?_
      refine rg_nil nofun ?_
      exact lp_next (m:=idm) ⟨j + 1,(by omega),(all_step ha (decide_eq_true (by omega))),rfl,rfl⟩ (by omega) (le_mk rfl ⟨⟨rfl,rfl⟩,⟨rfl,rfl⟩,⟨rfl,rfl⟩,trivial⟩ trivial rfl (fun _ _=>rfl))
    ·skip
     have p27:=of_decide_eq_false c27
     refine gO ⟨_,_,rfl,rfl,c27⟩ rfl rfl ?_
     refine gO ⟨_,_,rfl,rfl,c27⟩ rfl rfl ?_
     refine gPF trivial rfl rfl c27 rfl rfl rfl ?_
     refine rg_nil nofun ?_
     refine cF rfl rfl ?_
     refine vc_skip ?_
     refine vc_region hm ?_
     refine gA trivial rfl rfl rfl rfl rfl rfl (by omega) ?_
     refine gM trivial (.inl rfl) rfl rfl rfl ?_
     refine rg_nil nofun ?_
     exact lp_next (m:=idm) ⟨j + 1,(by omega),(all_step ha (decide_eq_true (by omega))),rfl,rfl⟩ (by omega) (le_mk rfl ⟨⟨rfl,rfl⟩,⟨rfl,rfl⟩,⟨rfl,rfl⟩,trivial⟩ trivial rfl (fun _ _=>rfl))
  ·skip
   have p15:=of_decide_eq_false c15
   refine gM ⟨_,_,rfl,rfl,c15⟩ (.inl rfl) rfl rfl rfl ?_
   refine gI ⟨_,_,rfl,rfl,c15⟩ rfl rfl rfl rfl rfl rfl ?_
   refine gPF trivial rfl rfl c15 rfl rfl rfl ?_
   refine gM trivial (.inl rfl) rfl rfl rfl ?_
   refine gI2 (d:=19) rfl (fun c19=>?_) (fun c19=>?_)
   ·skip
    have p19:=of_decide_eq_true c19
    refine gM ⟨_,_,rfl,rfl,c19⟩ (.inl rfl) rfl rfl rfl ?_
    refine gI ⟨_,_,rfl,rfl,c19⟩ rfl rfl rfl rfl rfl rfl ?_
    refine gM ⟨_,_,rfl,rfl,c19⟩ (.inl rfl) rfl rfl rfl ?_
    refine gI2 (d:=22) rfl (fun c22=>?_) (fun c22=>?_)
    ·skip
     have p22:=of_decide_eq_true c22
     refine gO ⟨_,_,rfl,rfl,c22⟩ rfl rfl ?_
     refine gO ⟨_,_,rfl,rfl,c22⟩ rfl rfl ?_
     refine gPT ⟨_,_,rfl,rfl,c19⟩ rfl rfl c22 rfl rfl rfl ?_
     refine gPT trivial rfl rfl c19 rfl rfl rfl ?_
     refine gM trivial (.inl rfl) rfl rfl rfl ?_
     refine gM ⟨_,_,rfl,rfl,rfl⟩ (.inl rfl) rfl rfl rfl ?_
     refine gI ⟨_,_,rfl,rfl,rfl⟩ rfl rfl rfl rfl rfl rfl ?_
     refine gPT trivial rfl rfl rfl rfl rfl rfl ?_
     refine rg_nil nofun ?_
     refine cI rfl (fun c30=>?_) (fun c30=>?_)
     ·skip
      have p30:=bne_iff_ne.1 c30
      refine vc_seq ?_
      refine vc_region hm ?_
      refine gM trivial (.inr rfl) rfl rfl rfl ?_
      refine rg_nil nofun ?_
      refine vc_ret ?_
      exact ⟨idm,ends0 (.inr rfl) rfl (eqB (textOk_1 p8 (decide_eq_false (by omega)))) rfl rfl rfl⟩
     ·skip
      have p30:=bne_eq_false_iff_eq.1 c30
      refine vc_skip ?_
      refine vc_region hm ?_
      refine gA trivial rfl rfl rfl rfl rfl rfl (by omega) ?_
      refine gM trivial (.inl rfl) rfl rfl rfl ?_
      refine rg_nil nofun ?_
      exact lp_next (m:=idm) ⟨j + 1,(by omega),(all_step ha (decide_eq_true (by omega))),rfl,rfl⟩ (by omega) (le_mk rfl ⟨⟨rfl,rfl⟩,⟨rfl,rfl⟩,⟨rfl,rfl⟩,trivial⟩ trivial rfl (fun _ _=>rfl))
    ·skip
     have p22:=of_decide_eq_false c22
     refine gM ⟨_,_,rfl,rfl,c22⟩ (.inl rfl) rfl rfl rfl ?_
     refine gI ⟨_,_,rfl,rfl,c22⟩ rfl rfl rfl rfl rfl rfl ?_
     refine gPF ⟨_,_,rfl,rfl,c19⟩ rfl rfl c22 rfl rfl rfl ?_
     refine gPT trivial rfl rfl c19 rfl rfl rfl ?_
     refine gM trivial (.inl rfl) rfl rfl rfl ?_
     refine gI2 (d:=27) rfl (fun c27=>?_) (fun c27=>?_)
     ·skip
      have p27:=of_decide_eq_true c27
      refine gM ⟨_,_,rfl,rfl,c27⟩ (.inl rfl) rfl rfl rfl ?_
      refine gI ⟨_,_,rfl,rfl,c27⟩ rfl rfl rfl rfl rfl rfl ?_
      refine gPT trivial rfl rfl c27 rfl rfl rfl ?_
      refine rg_nil nofun ?_
      refine cI rfl (fun c30=>?_) (fun c30=>?_)
      ·skip
       have p30:=bne_iff_ne.1 c30
       refine vc_seq ?_
       refine vc_region hm ?_
       refine gM trivial (.inr rfl) rfl rfl rfl ?_
       refine rg_nil nofun ?_
       refine vc_ret ?_
       exact ⟨idm,ends0 (.inr rfl) rfl (eqB (textOk_1 p8 (decide_eq_false (by omega)))) rfl rfl rfl⟩
      ·skip
       have p30:=bne_eq_false_iff_eq.1 c30
       refine vc_skip ?_
       refine vc_region hm ?_
       refine gA trivial rfl rfl rfl rfl rfl rfl (by omega) ?_
       refine gM trivial (.inl rfl) rfl rfl rfl ?_
       refine rg_nil nofun ?_
       exact lp_next (m:=idm) ⟨j + 1,(by omega),(all_step ha (decide_eq_true (by omega))),rfl,rfl⟩ (by omega) (le_mk rfl ⟨⟨rfl,rfl⟩,⟨rfl,rfl⟩,⟨rfl,rfl⟩,trivial⟩ trivial rfl (fun _ _=>rfl))
     ·skip
      have p27:=of_decide_eq_false c27
      refine gO ⟨_,_,rfl,rfl,c27⟩ rfl rfl ?_
      refine gO ⟨_,_,rfl,rfl,c27⟩ rfl rfl ?_
      refine gPF trivial rfl rfl c27 rfl rfl rfl ?_
      refine rg_nil nofun ?_
      refine cF rfl rfl ?_
      refine vc_skip ?_
      refine vc_region hm ?_
      refine gA trivial rfl rfl rfl rfl rfl rfl (by omega) ?_
      refine gM trivial (.inl rfl) rfl rfl rfl ?_
      refine rg_nil nofun ?_
      exact lp_next (m:=idm) ⟨j + 1,(by omega),(all_step ha (decide_eq_true (by omega))),rfl,rfl⟩ (by omega) (le_mk rfl ⟨⟨rfl,rfl⟩,⟨rfl,rfl⟩,⟨rfl,rfl⟩,trivial⟩ trivial rfl (fun _ _=>rfl))
   ·skip
    have p19:=of_decide_eq_false c19
    refine gO ⟨_,_,rfl,rfl,c19⟩ rfl rfl ?_
    refine gO ⟨_,_,rfl,rfl,c19⟩ rfl rfl ?_
    refine gO ⟨_,_,rfl,rfl,c19⟩ rfl rfl ?_
    refine gO ⟨_,_,rfl,rfl,trivial⟩ rfl rfl ?_
    refine gO ⟨_,_,rfl,rfl,trivial⟩ rfl rfl ?_
    refine gO ⟨_,_,rfl,rfl,c19⟩ rfl rfl ?_
    refine gPF trivial rfl rfl c19 rfl rfl rfl ?_
    refine gM trivial (.inl rfl) rfl rfl rfl ?_
    refine gO ⟨_,_,rfl,rfl,rfl⟩ rfl rfl ?_
    refine gO ⟨_,_,rfl,rfl,rfl⟩ rfl rfl ?_
    refine gPF trivial rfl rfl rfl rfl rfl rfl ?_
    refine rg_nil nofun ?_
    refine cF rfl rfl ?_
    refine vc_skip ?_
    refine vc_region hm ?_
    refine gA trivial rfl rfl rfl rfl rfl rfl (by omega) ?_
    refine gM trivial (.inl rfl) rfl rfl rfl ?_
    refine rg_nil nofun ?_
    exact lp_next (m:=idm) ⟨j + 1,(by omega),(all_step ha (decide_eq_true (by omega))),rfl,rfl⟩ (by omega) (le_mk rfl ⟨⟨rfl,rfl⟩,⟨rfl,rfl⟩,⟨rfl,rfl⟩,trivial⟩ trivial rfl (fun _ _=>rfl))
 ·skip
  have p8:=of_decide_eq_false c8
  refine vc_exit ?_
  refine vc_seq ?_
  refine vc_region hm ?_
  refine gM trivial (.inl rfl) rfl rfl rfl ?_
  refine gKT trivial rfl rfl rfl rfl rfl ?_
  refine gI trivial rfl rfl rfl rfl rfl rfl ?_
  refine gM trivial (.inr rfl) rfl rfl rfl ?_
  refine rg_nil nofun ?_
  refine vc_ret ?_
  exact ⟨idm,ends0 (.inr rfl) rfl (eqB (textOk_2 hj p8 ha)) rfl rfl rfl⟩
theorem spec_SpansOk_c {l:List Sp} (hn:l.length≤1048576):FDoes Try.prog 48 [.slice (some ⟨0,0,none⟩) l.length 0] (hp [(0,false,one ⟨rSp l,38,0⟩)]) { v:=.bool (spansOk l),rd:=[0] }:=by
 have hm:Try.prog.follows .mixedOrders=true:=by kernel_rfl
 have hd_:∀ x_ ∈ ([(0,false,one ⟨rSp l,38,0⟩)]:List (Nat × Bool × Fam)),∀ k_ y_,x_.2.2 k_=some y_→DetB (lt 1) y_:=by
  intro x_ hx k_ y_ e
  simp only [List.mem_cons,List.not_mem_nil,or_false] at hx
  subst hx
  exact det_row (rSp_flat l) e
 refine fn_exact (u0:=1) Try.func48 rfl rfl (gets rfl rfl rfl hd_ rfl) ?_
 clear hd_
 refine vc_seq ?_
 refine vc_region hm ?_
 refine gM trivial (.inr rfl) rfl rfl rfl ?_
 refine rg_nil nofun ?_
 refine vc_seq ?_
 refine vc_seq ?_
 refine vc_region hm ?_
 refine gM trivial (.inr rfl) rfl rfl rfl ?_
 refine rg_nil nofun ?_
 refine vc_block ?_
 refine vc_loop' (fun n_ S_=>∃ (j:Nat),j≤l.length∧(List.range j).all (spansAt l)=true∧n_=l.length - j∧S_=⟨1,[(0,.slice (some ⟨0,0,none⟩) l.length 0),(3,.int .i64 j)],[(0,false,one ⟨rSp l,38,0⟩)]⟩) (m0:=idm) ⟨0,Nat.zero_le _,rfl,rfl,rfl⟩ (le_mk rfl ⟨⟨rfl,rfl⟩,⟨rfl,rfl⟩,trivial⟩ ⟨kFlat (rSp_flat l) rfl id rfl,trivial⟩ rfl (fun _ _=>rfl)) ?_
 rintro n_ S_ ⟨j,hj,ha,rfl,rfl⟩
 refine vc_seq ?_
 refine vc_seq ?_
 refine vc_region hm ?_
 refine gM trivial (.inl rfl) rfl rfl rfl ?_
 refine gM trivial (.inl rfl) rfl rfl rfl ?_
 refine gK trivial rfl rfl rfl rfl rfl rfl rSp_nil ?_
 refine gI trivial rfl rfl rfl rfl rfl rfl ?_
 refine rg_nil nofun ?_
 refine cI rfl (fun c7=>?_) (fun c7=>?_)
 ·skip
  have p7:=of_decide_eq_true c7
  refine vc_skip ?_
  refine vc_seq ?_
  refine vc_block ?_
  refine vc_seq ?_
  refine vc_region hm ?_
  refine gM trivial (.inl rfl) rfl rfl rfl ?_
  refine gM trivial (.inl rfl) rfl rfl rfl ?_
  refine gX trivial rfl rfl rfl rfl rfl rfl rfl rfl (by omega) (by omega) rSp_ne ?_
  refine gL trivial rfl rfl rfl rfl rfl rfl rfl (aSp (by omega) (by omega)) ?_
  refine gC0 [] (spec_SpanOk_c (at_ l (j:Int))) trivial rfl rfl rfl rfl (by trivial) rfl rfl rfl rfl rfl ?_
  refine gN trivial rfl rfl rfl rfl ?_
  refine gM trivial (.inl rfl) rfl rfl rfl ?_
  refine gI2 (d:=16) rfl (fun c16=>?_) (fun c16=>?_)
  ·skip
   have n16:=unT c16
   refine gO ⟨_,_,rfl,rfl,c16⟩ rfl rfl ?_
   refine gO ⟨_,_,rfl,rfl,c16⟩ rfl rfl ?_
   refine gO ⟨_,_,rfl,rfl,c16⟩ rfl rfl ?_
   refine gO ⟨_,_,rfl,rfl,trivial⟩ rfl rfl ?_
   refine gO ⟨_,_,rfl,rfl,trivial⟩ rfl rfl ?_
   refine gO ⟨_,_,rfl,rfl,trivial⟩ rfl rfl ?_
   refine gO ⟨_,_,rfl,rfl,trivial⟩ rfl rfl ?_
   refine gO ⟨_,_,rfl,rfl,trivial⟩ rfl rfl ?_
   refine gO ⟨_,_,rfl,rfl,trivial⟩ rfl rfl ?_
   refine gO ⟨_,_,rfl,rfl,trivial⟩ rfl rfl ?_
   refine gO ⟨_,_,rfl,rfl,trivial⟩ rfl rfl ?_
   refine gO ⟨_,_,rfl,rfl,trivial⟩ rfl rfl ?_
   refine gO ⟨_,_,rfl,rfl,trivial⟩ rfl rfl ?_
   refine gO ⟨_,_,rfl,rfl,trivial⟩ rfl rfl ?_
   refine gO ⟨_,_,rfl,rfl,trivial⟩ rfl rfl ?_
   refine gO ⟨_,_,rfl,rfl,c16⟩ rfl rfl ?_
   refine gPT trivial rfl rfl c16 rfl rfl rfl ?_
   refine rg_nil (fun _=>by kernel_rfl) ?_
   refine cT rfl rfl ?_
   refine vc_seq ?_
   refine vc_region hm ?_
   refine gM trivial (.inr rfl) rfl rfl rfl ?_
   refine rg_nil nofun ?_
   refine vc_ret ?_
   exact ⟨idm,ends0 (.inr rfl) rfl (eqB (spansOk_1 p7 (by first|exact spansAt_1 (by assumption)|exact spansAt_2 (by omega)))) rfl rfl rfl⟩
  ·skip
   have n16:=unF c16
   refine gM ⟨_,_,rfl,rfl,c16⟩ (.inl rfl) rfl rfl rfl ?_
   refine gI ⟨_,_,rfl,rfl,c16⟩ rfl rfl rfl rfl rfl rfl ?_
   refine gM ⟨_,_,rfl,rfl,c16⟩ (.inl rfl) rfl rfl rfl ?_
   refine gI2 (d:=19) rfl (fun c19=>?_) (fun c19=>?_)
   ·skip
    have p19:=of_decide_eq_true c19
    refine gM ⟨_,_,rfl,rfl,c19⟩ (.inl rfl) rfl rfl rfl ?_
    refine gM ⟨_,_,rfl,rfl,c19⟩ (.inl rfl) rfl rfl rfl ?_
    refine gA ⟨_,_,rfl,rfl,c19⟩ rfl rfl rfl rfl rfl rfl (by omega) ?_
    refine gX ⟨_,_,rfl,rfl,c19⟩ rfl rfl rfl rfl rfl rfl rfl rfl (by omega) (by omega) rSp_ne ?_
    refine gF ⟨_,_,rfl,rfl,c19⟩ rfl rfl rfl rfl rfl ?_
    refine gL ⟨_,_,rfl,rfl,c19⟩ rfl rfl rfl rfl rfl rfl rfl (lSp1 (by omega) (by omega)) ?_
    refine gM ⟨_,_,rfl,rfl,c19⟩ (.inl rfl) rfl rfl rfl ?_
    refine gM ⟨_,_,rfl,rfl,c19⟩ (.inl rfl) rfl rfl rfl ?_
    refine gX ⟨_,_,rfl,rfl,c19⟩ rfl rfl rfl rfl rfl rfl rfl rfl (by omega) (by omega) rSp_ne ?_
    refine gF ⟨_,_,rfl,rfl,c19⟩ rfl rfl rfl rfl rfl ?_
    refine gL ⟨_,_,rfl,rfl,c19⟩ rfl rfl rfl rfl rfl rfl rfl (lSp0 (by omega) (by omega)) ?_
    refine gI ⟨_,_,rfl,rfl,c19⟩ rfl rfl rfl rfl rfl rfl ?_
    refine gPT ⟨_,_,rfl,rfl,c16⟩ rfl rfl c19 rfl rfl rfl ?_
    refine gPF trivial rfl rfl c16 rfl rfl rfl ?_
    refine rg_nil (fun _=>by kernel_rfl) ?_
    refine cI rfl (fun c33=>?_) (fun c33=>?_)
    ·skip
     have p33:=of_decide_eq_true c33
     refine vc_seq ?_
     refine vc_region hm ?_
     refine gM trivial (.inr rfl) rfl rfl rfl ?_
     refine rg_nil nofun ?_
     refine vc_ret ?_
     exact ⟨idm,ends0 (.inr rfl) rfl (eqB (spansOk_1 p7 (by first|exact spansAt_1 (by assumption)|exact spansAt_2 (by omega)))) rfl rfl rfl⟩
    ·skip
     have p33:=of_decide_eq_false c33
     refine vc_skip ?_
     refine vc_region hm ?_
     refine gM trivial (.inl rfl) rfl rfl rfl ?_
     refine gA trivial rfl rfl rfl rfl rfl rfl (by omega) ?_
     refine gM trivial (.inr rfl) rfl rfl rfl ?_
     refine rg_nil nofun ?_
     exact lp_next (m:=idm) ⟨j + 1,(by omega),(all_step ha (spansAt_3 (by assumption) (by omega))),rfl,rfl⟩ (by omega) (le_mk rfl ⟨⟨rfl,rfl⟩,⟨rfl,rfl⟩,trivial⟩ ⟨kFlat (rSp_flat l) rfl id rfl,trivial⟩ rfl (fun _ _=>rfl))
   ·skip
    have p19:=of_decide_eq_false c19
    refine gO ⟨_,_,rfl,rfl,c19⟩ rfl rfl ?_
    refine gO ⟨_,_,rfl,rfl,c19⟩ rfl rfl ?_
    refine gO ⟨_,_,rfl,rfl,c19⟩ rfl rfl ?_
    refine gO ⟨_,_,rfl,rfl,c19⟩ rfl rfl ?_
    refine gO ⟨_,_,rfl,rfl,c19⟩ rfl rfl ?_
    refine gO ⟨_,_,rfl,rfl,c19⟩ rfl rfl ?_
    refine gO ⟨_,_,rfl,rfl,c19⟩ rfl rfl ?_
    refine gO ⟨_,_,rfl,rfl,c19⟩ rfl rfl ?_
    refine gO ⟨_,_,rfl,rfl,c19⟩ rfl rfl ?_
    refine gO ⟨_,_,rfl,rfl,c19⟩ rfl rfl ?_
    refine gO ⟨_,_,rfl,rfl,c19⟩ rfl rfl ?_
    refine gO ⟨_,_,rfl,rfl,c19⟩ rfl rfl ?_
    refine gPF ⟨_,_,rfl,rfl,c16⟩ rfl rfl c19 rfl rfl rfl ?_
    refine gPF trivial rfl rfl c16 rfl rfl rfl ?_
    refine rg_nil (fun _=>by kernel_rfl) ?_
    refine cF rfl rfl ?_
    refine vc_skip ?_
    refine vc_region hm ?_
    refine gM trivial (.inl rfl) rfl rfl rfl ?_
    refine gA trivial rfl rfl rfl rfl rfl rfl (by omega) ?_
    refine gM trivial (.inr rfl) rfl rfl rfl ?_
    refine rg_nil nofun ?_
    exact lp_next (m:=idm) ⟨j + 1,(by omega),(all_step ha (spansAt_3 (by assumption) (by omega))),rfl,rfl⟩ (by omega) (le_mk rfl ⟨⟨rfl,rfl⟩,⟨rfl,rfl⟩,trivial⟩ ⟨kFlat (rSp_flat l) rfl id rfl,trivial⟩ rfl (fun _ _=>rfl))
 ·skip
  have p7:=of_decide_eq_false c7
  refine vc_exit ?_
  refine vc_seq ?_
  refine vc_region hm ?_
  refine gM trivial (.inl rfl) rfl rfl rfl ?_
  refine gK trivial rfl rfl rfl rfl rfl rfl rSp_nil ?_
  refine gI trivial rfl rfl rfl rfl rfl rfl ?_
  refine gM trivial (.inr rfl) rfl rfl rfl ?_
  refine rg_nil nofun ?_
  refine vc_ret ?_
  exact ⟨idm,ends0 (.inr rfl) rfl (eqB (spansOk_2 hj p7 ha)) rfl rfl rfl⟩
theorem impl_SpansOk_c {l:List Sp} (hn:l.length≤1048576):FDoes Try.prog 51 [.slice (some ⟨0,0,none⟩) l.length 0] (hp [(0,false,one ⟨rSp l,38,0⟩)]) { v:=.bool (spansOk l),rd:=[0] }:=by
 have hm:Try.prog.follows .mixedOrders=true:=by kernel_rfl
 have hd_:∀ x_ ∈ ([(0,false,one ⟨rSp l,38,0⟩)]:List (Nat × Bool × Fam)),∀ k_ y_,x_.2.2 k_=some y_→DetB (lt 1) y_:=by
  intro x_ hx k_ y_ e
  simp only [List.mem_cons,List.not_mem_nil,or_false] at hx
  subst hx
  exact det_row (rSp_flat l) e
 refine fn_exact (u0:=1) Try.func51 rfl rfl (gets rfl rfl rfl hd_ rfl) ?_
 clear hd_
 refine vc_seq ?_
 refine vc_region hm ?_
 refine gM trivial (.inr rfl) rfl rfl rfl ?_
 refine rg_nil nofun ?_
 refine vc_seq ?_
 refine vc_seq ?_
 refine vc_region hm ?_
 refine gM trivial (.inl rfl) rfl rfl rfl ?_
 refine gK trivial rfl rfl rfl rfl rfl rfl rSp_nil ?_
 refine gM trivial (.inl rfl) rfl rfl rfl ?_
 refine rg_nil nofun ?_
 refine vc_block ?_
 refine vc_loop' (fun n_ S_=>∃ (j:Nat),j≤l.length∧(List.range j).all (spansAt l)=true∧n_=l.length - j∧S_=⟨1,[(0,.slice (some ⟨0,0,none⟩) l.length 0),(5,.slice (some ⟨0,0,none⟩) l.length 0),(6,.int .i64 l.length),(7,.int .i64 j)],[(0,false,one ⟨rSp l,38,0⟩)]⟩) (m0:=idm) ⟨0,Nat.zero_le _,rfl,rfl,rfl⟩ (le_mk rfl ⟨⟨rfl,rfl⟩,⟨rfl,rfl⟩,⟨rfl,rfl⟩,⟨rfl,rfl⟩,trivial⟩ ⟨kFlat (rSp_flat l) rfl id rfl,trivial⟩ rfl (fun _ _=>rfl)) ?_
 rintro n_ S_ ⟨j,hj,ha,rfl,rfl⟩
 refine vc_seq ?_
 refine vc_region hm ?_
 refine gI trivial rfl rfl rfl rfl rfl rfl ?_
 refine rg_nil nofun ?_
 refine vc_seq ?_
 refine cI rfl (fun c8=>?_) (fun c8=>?_)
 ·skip
  have p8:=of_decide_eq_true c8
  refine vc_skip ?_
  refine vc_seq ?_
  refine vc_block ?_
  refine vc_seq ?_
  refine vc_region hm ?_
  refine gM trivial (.inl rfl) rfl rfl rfl ?_
  refine gX trivial rfl rfl rfl rfl rfl rfl rfl rfl (by omega) (by omega) rSp_ne ?_
  refine gL trivial rfl rfl rfl rfl rfl rfl rfl (aSp (by omega) (by omega)) ?_
  refine gZ (u':=2) trivial rfl rfl rfl rfl rfl rfl rfl rfl ?_
  refine gM trivial (.inr rfl) rfl rfl rfl ?_
  refine gT trivial rfl rfl rfl rfl rfl rfl rfl rfl rfl rfl (Nat.le_of_ble_eq_true rfl) rfl ?_
  refine rg_nil nofun ?_
  refine vc_seq ?_
  refine vc_region hm ?_
  refine gL trivial rfl rfl rfl rfl rfl rfl rfl rfl ?_
  refine gC0 [] (impl_SpanOk_c (at_ l (j:Int))) trivial rfl rfl rfl rfl (by trivial) rfl rfl rfl rfl rfl ?_
  refine gN trivial rfl rfl rfl rfl ?_
  refine gM trivial (.inl rfl) rfl rfl rfl ?_
  refine gI2 (d:=15) rfl (fun c15=>?_) (fun c15=>?_)
  ·skip
   have n15:=unT c15
   refine gO ⟨_,_,rfl,rfl,c15⟩ rfl rfl ?_
   refine gO ⟨_,_,rfl,rfl,c15⟩ rfl rfl ?_
   refine gO ⟨_,_,rfl,rfl,c15⟩ rfl rfl ?_
   refine gO ⟨_,_,rfl,rfl,trivial⟩ rfl rfl ?_
   refine gO ⟨_,_,rfl,rfl,trivial⟩ rfl rfl ?_
   refine gO ⟨_,_,rfl,rfl,trivial⟩ rfl rfl ?_
   refine gO ⟨_,_,rfl,rfl,trivial⟩ rfl rfl ?_
   refine gO ⟨_,_,rfl,rfl,trivial⟩ rfl rfl ?_
   refine gO ⟨_,_,rfl,rfl,trivial⟩ rfl rfl ?_
   refine gO ⟨_,_,rfl,rfl,trivial⟩ rfl rfl ?_
   refine gO ⟨_,_,rfl,rfl,trivial⟩ rfl rfl ?_
   refine gO ⟨_,_,rfl,rfl,trivial⟩ rfl rfl ?_
   refine gO ⟨_,_,rfl,rfl,c15⟩ rfl rfl ?_
   refine gPT trivial rfl rfl c15 rfl rfl rfl ?_
   refine rg_nil (fun _=>by kernel_rfl) ?_
   refine cT rfl rfl ?_
   refine vc_seq ?_
   refine vc_region hm ?_
   refine gM trivial (.inr rfl) rfl rfl rfl ?_
   refine rg_nil nofun ?_
   refine vc_ret ?_
   exact ⟨idm,ends0 (.inr rfl) rfl (eqB (spansOk_1 p8 (by first|exact spansAt_1 (by assumption)|exact spansAt_2 (by omega)))) rfl rfl rfl⟩
  ·skip
   have n15:=unF c15
   refine gM ⟨_,_,rfl,rfl,c15⟩ (.inl rfl) rfl rfl rfl ?_
   refine gI ⟨_,_,rfl,rfl,c15⟩ rfl rfl rfl rfl rfl rfl ?_
   refine gM ⟨_,_,rfl,rfl,c15⟩ (.inl rfl) rfl rfl rfl ?_
   refine gI2 (d:=18) rfl (fun c18=>?_) (fun c18=>?_)
   ·skip
    have p18:=of_decide_eq_true c18
    refine gM ⟨_,_,rfl,rfl,c18⟩ (.inl rfl) rfl rfl rfl ?_
    refine gM ⟨_,_,rfl,rfl,c18⟩ (.inl rfl) rfl rfl rfl ?_
    refine gA ⟨_,_,rfl,rfl,c18⟩ rfl rfl rfl rfl rfl rfl (by omega) ?_
    refine gX ⟨_,_,rfl,rfl,c18⟩ rfl rfl rfl rfl rfl rfl rfl rfl (by omega) (by omega) rSp_ne ?_
    refine gF ⟨_,_,rfl,rfl,c18⟩ rfl rfl rfl rfl rfl ?_
    refine gL ⟨_,_,rfl,rfl,c18⟩ rfl rfl rfl rfl rfl rfl rfl (lSp1 (by omega) (by omega)) ?_
    refine gF ⟨_,_,rfl,rfl,c18⟩ rfl rfl rfl rfl rfl ?_
    refine gL ⟨_,_,rfl,rfl,c18⟩ rfl rfl rfl rfl rfl rfl rfl rfl ?_
    refine gI ⟨_,_,rfl,rfl,c18⟩ rfl rfl rfl rfl rfl rfl ?_
    refine gPT ⟨_,_,rfl,rfl,c15⟩ rfl rfl c18 rfl rfl rfl ?_
    refine gPF trivial rfl rfl c15 rfl rfl rfl ?_
    refine rg_nil (fun _=>by kernel_rfl) ?_
    refine cI rfl (fun c29=>?_) (fun c29=>?_)
    ·skip
     have p29:=of_decide_eq_true c29
     refine vc_seq ?_
     refine vc_region hm ?_
     refine gM trivial (.inr rfl) rfl rfl rfl ?_
     refine rg_nil nofun ?_
     refine vc_ret ?_
     exact ⟨idm,ends0 (.inr rfl) rfl (eqB (spansOk_1 p8 (by first|exact spansAt_1 (by assumption)|exact spansAt_2 (by omega)))) rfl rfl rfl⟩
    ·skip
     have p29:=of_decide_eq_false c29
     refine vc_skip ?_
     refine vc_region hm ?_
     refine gA trivial rfl rfl rfl rfl rfl rfl (by omega) ?_
     refine gM trivial (.inl rfl) rfl rfl rfl ?_
     refine rg_nil nofun ?_
     exact lp_next (m:=idm) ⟨j + 1,(by omega),(all_step ha (spansAt_3 (by assumption) (by omega))),rfl,rfl⟩ (by omega) (le_mk rfl ⟨⟨rfl,rfl⟩,⟨rfl,rfl⟩,⟨rfl,rfl⟩,⟨rfl,rfl⟩,trivial⟩ ⟨kFlat (rSp_flat l) rfl id rfl,trivial⟩ rfl (fun _ _=>rfl))
   ·skip
    have p18:=of_decide_eq_false c18
    refine gO ⟨_,_,rfl,rfl,c18⟩ rfl rfl ?_
    refine gO ⟨_,_,rfl,rfl,c18⟩ rfl rfl ?_
    refine gO ⟨_,_,rfl,rfl,c18⟩ rfl rfl ?_
    refine gO ⟨_,_,rfl,rfl,c18⟩ rfl rfl ?_
    refine gO ⟨_,_,rfl,rfl,c18⟩ rfl rfl ?_
    refine gO ⟨_,_,rfl,rfl,c18⟩ rfl rfl ?_
    refine gO ⟨_,_,rfl,rfl,c18⟩ rfl rfl ?_
    refine gO ⟨_,_,rfl,rfl,c18⟩ rfl rfl ?_
    refine gO ⟨_,_,rfl,rfl,c18⟩ rfl rfl ?_
    refine gPF ⟨_,_,rfl,rfl,c15⟩ rfl rfl c18 rfl rfl rfl ?_
    refine gPF trivial rfl rfl c15 rfl rfl rfl ?_
    refine rg_nil (fun _=>by kernel_rfl) ?_
    refine cF rfl rfl ?_
    refine vc_skip ?_
    refine vc_region hm ?_
    refine gA trivial rfl rfl rfl rfl rfl rfl (by omega) ?_
    refine gM trivial (.inl rfl) rfl rfl rfl ?_
    refine rg_nil nofun ?_
    exact lp_next (m:=idm) ⟨j + 1,(by omega),(all_step ha (spansAt_3 (by assumption) (by omega))),rfl,rfl⟩ (by omega) (le_mk rfl ⟨⟨rfl,rfl⟩,⟨rfl,rfl⟩,⟨rfl,rfl⟩,⟨rfl,rfl⟩,trivial⟩ ⟨kFlat (rSp_flat l) rfl id rfl,trivial⟩ rfl (fun _ _=>rfl))
 ·skip
  have p8:=of_decide_eq_false c8
  refine vc_exit ?_
  refine vc_seq ?_
  refine vc_region hm ?_
  refine gM trivial (.inl rfl) rfl rfl rfl ?_
  refine gK trivial rfl rfl rfl rfl rfl rfl rSp_nil ?_
  refine gI trivial rfl rfl rfl rfl rfl rfl ?_
  refine gM trivial (.inr rfl) rfl rfl rfl ?_
  refine rg_nil nofun ?_
  refine vc_ret ?_
  exact ⟨idm,ends0 (.inr rfl) rfl (eqB (spansOk_2 hj p8 ha)) rfl rfl rfl⟩
theorem spec_l1In_c {l:List Sp} {a:Int} (hn:l.length≤1048576):FDoes Try.prog 49 [.slice (some ⟨0,0,none⟩) l.length 0,.int .i64 a] (hp [(0,false,one ⟨rSp l,38,0⟩)]) { v:=.bool (l1In l a),rd:=[0] }:=by
 have hm:Try.prog.follows .mixedOrders=true:=by kernel_rfl
 have hd_:∀ x_ ∈ ([(0,false,one ⟨rSp l,38,0⟩)]:List (Nat × Bool × Fam)),∀ k_ y_,x_.2.2 k_=some y_→DetB (lt 1) y_:=by
  intro x_ hx k_ y_ e
  simp only [List.mem_cons,List.not_mem_nil,or_false] at hx
  subst hx
  exact det_row (rSp_flat l) e
 refine fn_exact (u0:=1) Try.func49 rfl rfl (gets rfl rfl rfl hd_ rfl) ?_
 clear hd_
 refine vc_seq ?_
 refine vc_region hm ?_
 refine gM trivial (.inr rfl) rfl rfl rfl ?_
 refine rg_nil nofun ?_
 refine vc_seq ?_
 refine vc_seq ?_
 refine vc_region hm ?_
 refine gM trivial (.inr rfl) rfl rfl rfl ?_
 refine rg_nil nofun ?_
 refine vc_block ?_
 refine vc_loop' (fun n_ S_=>∃ (j:Nat),j≤l.length∧(l.take j).any (inS a)=false∧n_=l.length - j∧S_=⟨1,[(0,.slice (some ⟨0,0,none⟩) l.length 0),(1,.int .i64 a),(5,.int .i64 j)],[(0,false,one ⟨rSp l,38,0⟩)]⟩) (m0:=idm) ⟨0,Nat.zero_le _,rfl,rfl,rfl⟩ (le_mk rfl ⟨⟨rfl,rfl⟩,⟨rfl,rfl⟩,⟨rfl,rfl⟩,trivial⟩ ⟨kFlat (rSp_flat l) rfl id rfl,trivial⟩ rfl (fun _ _=>rfl)) ?_
 rintro n_ S_ ⟨j,hj,ha,rfl,rfl⟩
 refine vc_seq ?_
 refine vc_seq ?_
 refine vc_region hm ?_
 refine gM trivial (.inl rfl) rfl rfl rfl ?_
 refine gM trivial (.inl rfl) rfl rfl rfl ?_
 refine gK trivial rfl rfl rfl rfl rfl rfl rSp_nil ?_
 refine gI trivial rfl rfl rfl rfl rfl rfl ?_
 refine rg_nil nofun ?_
 refine cI rfl (fun c9=>?_) (fun c9=>?_)
 ·skip
  have p9:=of_decide_eq_true c9
  refine vc_skip ?_
  refine vc_seq ?_
  refine vc_block ?_
  refine vc_seq ?_
  refine vc_region hm ?_
  refine gM trivial (.inl rfl) rfl rfl rfl ?_
  refine gM trivial (.inl rfl) rfl rfl rfl ?_
  refine gM trivial (.inl rfl) rfl rfl rfl ?_
  refine gX trivial rfl rfl rfl rfl rfl rfl rfl rfl (by omega) (by omega) rSp_ne ?_
  refine gF trivial rfl rfl rfl rfl rfl ?_
  refine gL trivial rfl rfl rfl rfl rfl rfl rfl (lSp0 (by omega) (by omega)) ?_
  refine gI trivial rfl rfl rfl rfl rfl rfl ?_
  refine gM trivial (.inl rfl) rfl rfl rfl ?_
  refine gI2 (d:=19) rfl (fun c19=>?_) (fun c19=>?_)
  ·skip
   have p19:=of_decide_eq_true c19
   refine gM ⟨_,_,rfl,rfl,c19⟩ (.inl rfl) rfl rfl rfl ?_
   refine gM ⟨_,_,rfl,rfl,c19⟩ (.inl rfl) rfl rfl rfl ?_
   refine gM ⟨_,_,rfl,rfl,c19⟩ (.inl rfl) rfl rfl rfl ?_
   refine gX ⟨_,_,rfl,rfl,c19⟩ rfl rfl rfl rfl rfl rfl rfl rfl (by omega) (by omega) rSp_ne ?_
   refine gF ⟨_,_,rfl,rfl,c19⟩ rfl rfl rfl rfl rfl ?_
   refine gL ⟨_,_,rfl,rfl,c19⟩ rfl rfl rfl rfl rfl rfl rfl (lSp1 (by omega) (by omega)) ?_
   refine gI ⟨_,_,rfl,rfl,c19⟩ rfl rfl rfl rfl rfl rfl ?_
   refine gPT trivial rfl rfl c19 rfl rfl rfl ?_
   refine rg_nil nofun ?_
   refine cI rfl (fun c27=>?_) (fun c27=>?_)
   ·skip
    have p27:=of_decide_eq_true c27
    refine vc_seq ?_
    refine vc_region hm ?_
    refine gM trivial (.inr rfl) rfl rfl rfl ?_
    refine rg_nil nofun ?_
    refine vc_ret ?_
    exact ⟨idm,ends0 (.inr rfl) rfl (eqB (any_of_at (by omega) p9 (decide_eq_true (by omega)))) rfl rfl rfl⟩
   ·skip
    have p27:=of_decide_eq_false c27
    refine vc_skip ?_
    refine vc_region hm ?_
    refine gM trivial (.inl rfl) rfl rfl rfl ?_
    refine gA trivial rfl rfl rfl rfl rfl rfl (by omega) ?_
    refine gM trivial (.inr rfl) rfl rfl rfl ?_
    refine rg_nil nofun ?_
    exact lp_next (m:=idm) ⟨j + 1,(by omega),(any_step p9 ha (decide_eq_false (by omega))),rfl,rfl⟩ (by omega) (le_mk rfl ⟨⟨rfl,rfl⟩,⟨rfl,rfl⟩,⟨rfl,rfl⟩,trivial⟩ ⟨kFlat (rSp_flat l) rfl id rfl,trivial⟩ rfl (fun _ _=>rfl))
  ·skip
   have p19:=of_decide_eq_false c19
   refine gO ⟨_,_,rfl,rfl,c19⟩ rfl rfl ?_
   refine gO ⟨_,_,rfl,rfl,c19⟩ rfl rfl ?_
   refine gO ⟨_,_,rfl,rfl,c19⟩ rfl rfl ?_
   refine gO ⟨_,_,rfl,rfl,c19⟩ rfl rfl ?_
   refine gO ⟨_,_,rfl,rfl,c19⟩ rfl rfl ?_
   refine gO ⟨_,_,rfl,rfl,c19⟩ rfl rfl ?_
   refine gO ⟨_,_,rfl,rfl,c19⟩ rfl rfl ?_
   refine gPF trivial rfl rfl c19 rfl rfl rfl ?_
   refine rg_nil nofun ?_
   refine cF rfl rfl ?_
   refine vc_skip ?_
   refine vc_region hm ?_
   refine gM trivial (.inl rfl) rfl rfl rfl ?_
   refine gA trivial rfl rfl rfl rfl rfl rfl (by omega) ?_
   refine gM trivial (.inr rfl) rfl rfl rfl ?_
   refine rg_nil nofun ?_
   exact lp_next (m:=idm) ⟨j + 1,(by omega),(any_step p9 ha (decide_eq_false (by omega))),rfl,rfl⟩ (by omega) (le_mk rfl ⟨⟨rfl,rfl⟩,⟨rfl,rfl⟩,⟨rfl,rfl⟩,trivial⟩ ⟨kFlat (rSp_flat l) rfl id rfl,trivial⟩ rfl (fun _ _=>rfl))
 ·skip
  have p9:=of_decide_eq_false c9
  refine vc_exit ?_
  refine vc_seq ?_
  refine vc_region hm ?_
  refine gM trivial (.inr rfl) rfl rfl rfl ?_
  refine rg_nil nofun ?_
  refine vc_ret ?_
  exact ⟨idm,ends0 (.inr rfl) rfl (eqB (any_all hj p9 ha)) rfl rfl rfl⟩
theorem of_c {l:List Sp} (hl:inB l) (hn:l.length≤1000000):FDoes Try.prog 52 [.slice (some ⟨0,0,none⟩) l.length 0] (hp [(0,false,one ⟨rSp l,38,0⟩)]) { v:=vPl (ofP l),rd:=[0] }:=by
 have hm:Try.prog.follows .mixedOrders=true:=by kernel_rfl
 have hd_:∀ x_ ∈ ([(0,false,one ⟨rSp l,38,0⟩)]:List (Nat × Bool × Fam)),∀ k_ y_,x_.2.2 k_=some y_→DetB (lt 1) y_:=by
  intro x_ hx k_ y_ e
  simp only [List.mem_cons,List.not_mem_nil,or_false] at hx
  subst hx
  exact det_row (rSp_flat l) e
 refine fn_exact (u0:=1) Try.func52 rfl rfl (gets rfl rfl rfl hd_ rfl) ?_
 clear hd_
 refine vc_seq ?_
 refine vc_region hm ?_
 refine gZ (u':=2) trivial rfl rfl rfl rfl rfl rfl rfl (show cellsL _=plL (fun _=>false) from rfl) ?_
 refine rg_nil nofun ?_
 refine vc_seq ?_
 refine vc_region hm ?_
 refine gZ (u':=3) trivial rfl rfl rfl rfl rfl rfl rfl (show cellsL _=plL (fun _=>false) from rfl) ?_
 refine rg_nil nofun ?_
 refine vc_seq ?_
 refine vc_seq ?_
 refine vc_region hm ?_
 refine gM trivial (.inl rfl) rfl rfl rfl ?_
 refine gK trivial rfl rfl rfl rfl rfl rfl rSp_nil ?_
 refine gM trivial (.inl rfl) rfl rfl rfl ?_
 refine rg_nil nofun ?_
 refine vc_block ?_
 refine vc_loop' (fun n_ S_=>∃ (j:Nat),j≤l.length∧n_=l.length - j∧S_=⟨3,[(2,.pointer (some ⟨1,0,none⟩)),(3,.pointer (some ⟨2,0,none⟩)),(7,.slice (some ⟨0,0,none⟩) l.length 0),(8,.int .i64 l.length),(9,.int .i64 j)],[(0,false,one ⟨rSp l,38,0⟩),(1,true,one ⟨plL (fun _=>false),67,48⟩),(2,true,one ⟨plL (ofP (l.take j)),67,48⟩)]⟩) (m0:=idm) ⟨0,Nat.zero_le _,rfl,rfl⟩ (le_mk rfl ⟨⟨rfl,rfl⟩,⟨rfl,rfl⟩,⟨rfl,rfl⟩,⟨rfl,rfl⟩,⟨rfl,rfl⟩,trivial⟩ ⟨kFlat (rSp_flat l) rfl id rfl,kFlat (plL_flat _) rfl id rfl,kFlat (plL_flat _) rfl id rfl,trivial⟩ rfl (fun _ _=>rfl)) ?_
 rintro n_ S_ ⟨j,hj,rfl,rfl⟩
 refine vc_seq ?_
 refine vc_region hm ?_
 refine gI trivial rfl rfl rfl rfl rfl rfl ?_
 refine rg_nil nofun ?_
 refine vc_seq ?_
 refine cI rfl (fun c10=>?_) (fun c10=>?_)
 ·skip
  have p10:=of_decide_eq_true c10
  refine vc_skip ?_
  refine vc_seq ?_
  refine vc_block ?_
  refine vc_seq ?_
  refine vc_region hm ?_
  refine gX trivial rfl rfl rfl rfl rfl rfl rfl rfl (by omega) p10 rSp_ne ?_
  refine gL trivial rfl rfl rfl rfl rfl rfl rfl (aSp (by omega) p10) ?_
  refine gZ (u':=4) trivial rfl rfl rfl rfl rfl rfl rfl rfl ?_
  refine gT trivial rfl rfl rfl rfl rfl rfl rfl rfl rfl rfl (Nat.le_of_ble_eq_true rfl) rfl ?_
  refine rg_nil nofun ?_
  refine vc_seq ?_
  refine vc_region hm ?_
  refine gF trivial rfl rfl rfl rfl rfl ?_
  refine gL trivial rfl rfl rfl rfl rfl rfl rfl rfl ?_
  refine gM trivial (.inr rfl) rfl rfl rfl ?_
  refine rg_nil nofun ?_
  refine vc_block ?_
  refine vc_loop' (fun n_ S_=>∃ (i:Int),(at_ l (j:Int)).lo≤i∧n_=((at_ l (j:Int)).hi - i).toNat∧S_=⟨4,[(2,.pointer (some ⟨1,0,none⟩)),(3,.pointer (some ⟨2,0,none⟩)),(7,.slice (some ⟨0,0,none⟩) l.length 0),(8,.int .i64 l.length),(9,.int .i64 j),(5,.pointer (some ⟨3,0,none⟩)),(6,.int .i64 i)],[(0,false,one ⟨rSp l,38,0⟩),(1,true,one ⟨plL (fun _=>false),67,48⟩),(2,true,one ⟨plL (fillTo (ofP (l.take j)) (at_ l (j:Int)).lo i (at_ l (j:Int)).hi true),67,48⟩),(3,true,one ⟨[.int .i64 (at_ l (j:Int)).lo,.int .i64 (at_ l (j:Int)).hi],38,2⟩)]⟩) (m0:=idm) ⟨(at_ l (j:Int)).lo,Int.le_refl _,rfl,rfl⟩ (le_mk rfl ⟨⟨rfl,rfl⟩,⟨rfl,rfl⟩,⟨rfl,rfl⟩,⟨rfl,rfl⟩,⟨rfl,rfl⟩,⟨rfl,rfl⟩,⟨rfl,rfl⟩,trivial⟩ ⟨kFlat (rSp_flat l) rfl id rfl,kFlat (plL_flat _) rfl id rfl,kFlat (plL_flat _) (eqH fillTo_start) id rfl,kCells rfl rfl id rfl,trivial⟩ rfl (fun _ _=>rfl)) ?_
  rintro n_ S_ ⟨i,hi,rfl,rfl⟩
  have hb1:=hl _ (at_mem (by omega) p10)
  refine vc_seq ?_
  refine vc_seq ?_
  refine vc_region hm ?_
  refine gM trivial (.inl rfl) rfl rfl rfl ?_
  refine gF trivial rfl rfl rfl rfl rfl ?_
  refine gL trivial rfl rfl rfl rfl rfl rfl rfl rfl ?_
  refine gI trivial rfl rfl rfl rfl rfl rfl ?_
  refine rg_nil nofun ?_
  refine cI rfl (fun c18=>?_) (fun c18=>?_)
  ·skip
   have p18:=of_decide_eq_true c18
   refine vc_skip ?_
   refine vc_seq ?_
   refine vc_block ?_
   refine vc_region hm ?_
   refine gM trivial (.inl rfl) rfl rfl rfl ?_
   refine gXA trivial rfl rfl rfl rfl rfl rfl rfl (by omega) (by omega) ?_
   refine gT trivial rfl rfl rfl rfl rfl rfl rfl rfl rfl rfl (kPl (by omega) (by omega)) (sPl (by omega) (by omega)) ?_
   refine rg_nil nofun ?_
   refine vc_region hm ?_
   refine gM trivial (.inl rfl) rfl rfl rfl ?_
   refine gA trivial rfl rfl rfl rfl rfl rfl (by omega) ?_
   refine gM trivial (.inr rfl) rfl rfl rfl ?_
   refine rg_nil nofun ?_
   exact lp_next (m:=idm) ⟨i + 1,(by omega),rfl,rfl⟩ (by omega) (le_mk rfl ⟨⟨rfl,rfl⟩,⟨rfl,rfl⟩,⟨rfl,rfl⟩,⟨rfl,rfl⟩,⟨rfl,rfl⟩,⟨rfl,rfl⟩,⟨rfl,rfl⟩,trivial⟩ ⟨kFlat (rSp_flat l) rfl id rfl,kFlat (plL_flat _) rfl id rfl,kFlat (plL_flat _) (eqH (fillTo_step (by omega) hi p18)) id rfl,kCells rfl rfl id rfl,trivial⟩ rfl (fun _ _=>rfl))
  ·skip
   have p18:=of_decide_eq_false c18
   refine vc_exit ?_
   refine vc_region hm ?_
   refine gA trivial rfl rfl rfl rfl rfl rfl (by omega) ?_
   refine gM trivial (.inl rfl) rfl rfl rfl ?_
   refine rg_nil nofun ?_
   exact lp_next (m:=idm) ⟨j + 1,(by omega),rfl,rfl⟩ (by omega) (le_mk rfl ⟨⟨rfl,rfl⟩,⟨rfl,rfl⟩,⟨rfl,rfl⟩,⟨rfl,rfl⟩,⟨rfl,rfl⟩,trivial⟩ ⟨kFlat (rSp_flat l) rfl id rfl,kFlat (plL_flat _) rfl id rfl,kFlat (plL_flat _) (eqH (of_step p10 p18)) id rfl,trivial⟩ rfl (fun _ _=>rfl))
 ·skip
  have p10:=of_decide_eq_false c10
  refine vc_exit ?_
  refine vc_seq ?_
  refine vc_region hm ?_
  refine gL trivial rfl rfl rfl rfl rfl rfl rfl wPl ?_
  refine gT trivial rfl rfl rfl rfl rfl rfl rfl rfl rfl rfl zPl pPl ?_
  refine rg_nil nofun ?_
  refine vc_ret ?_
  obtain rfl:j=l.length:=by omega
  rw [List.take_length]
  exact ⟨idm,endsF (.inr rfl) (.cell rfl rfl rfl rfl wPl .nil) rfl (vPl_flat _) rfl⟩
theorem laws_toSpan_c (s:Sp):FDoes Try.prog 21 [vSp s] (hp []) { v:=vSp s }:=by
 have hm:Try.prog.follows .mixedOrders=true:=by kernel_rfl
 have hd_:∀ x ∈ ([]:List (Nat × Bool × Fam)),∀ k y,x.2.2 k=some y→DetB (lt 0) y:=fun x_ hx=>(by cases hx)
 refine fn_exact (u0:=0) Try.func21 rfl rfl (gets rfl rfl rfl hd_ rfl) ?_
 clear hd_
 refine vc_seq ?_
 refine vc_region hm ?_
 refine gB (u':=1) trivial rfl rfl rfl rfl rfl rfl rfl rfl ?_
 refine gZ (u':=2) trivial rfl rfl rfl rfl rfl rfl rfl rfl ?_
 refine rg_nil nofun ?_
 refine vc_seq ?_
 refine vc_region hm ?_
 refine gZ (u':=3) trivial rfl rfl rfl rfl rfl rfl rfl rfl ?_
 refine rg_nil nofun ?_
 refine vc_seq ?_
 refine vc_region hm ?_
 refine gF trivial rfl rfl rfl rfl rfl ?_
 refine gL trivial rfl rfl rfl rfl rfl rfl rfl rfl ?_
 refine gF trivial rfl rfl rfl rfl rfl ?_
 refine gT trivial rfl rfl rfl rfl rfl rfl rfl rfl rfl rfl (Nat.le_of_ble_eq_true rfl) rfl ?_
 refine rg_nil nofun ?_
 refine vc_seq ?_
 refine vc_region hm ?_
 refine gF trivial rfl rfl rfl rfl rfl ?_
 refine gL trivial rfl rfl rfl rfl rfl rfl rfl rfl ?_
 refine gF trivial rfl rfl rfl rfl rfl ?_
 refine gT trivial rfl rfl rfl rfl rfl rfl rfl rfl rfl rfl (Nat.le_of_ble_eq_true rfl) rfl ?_
 refine rg_nil nofun ?_
 refine vc_seq ?_
 refine vc_region hm ?_
 refine gL trivial rfl rfl rfl rfl rfl rfl rfl rfl ?_
 refine gT trivial rfl rfl rfl rfl rfl rfl rfl rfl rfl rfl (Nat.le_of_ble_eq_true rfl) rfl ?_
 refine rg_nil nofun ?_
 refine vc_ret ?_
 exact ⟨idm,endsF (.inr rfl) (.cell rfl rfl rfl rfl rfl .nil) rfl rfl rfl⟩
theorem laws_toSpanS_c {l:List Sp} {k:Nat} (hn:l.length≤1048576):FDoes Try.prog 44 [.slice (some ⟨0,k,none⟩) l.length 0] (hp [(0,false,one ⟨hls k (rSp l),35,0⟩)]) (mkE (.slice (some ⟨1,0,none⟩) l.length 0) [0] [] [(1,⟨rSp l,38,102⟩)]):=by
 have hm:Try.prog.follows .mixedOrders=true:=by kernel_rfl
 have hd_:∀ x_ ∈ ([(0,false,one ⟨hls k (rSp l),35,0⟩)]:List (Nat × Bool × Fam)),∀ k_ y_,x_.2.2 k_=some y_→DetB (lt 1) y_:=by
  intro x_ hx k_ y_ e
  simp only [List.mem_cons,List.not_mem_nil,or_false] at hx
  subst hx
  exact det_row (hls_flat (rSp_flat l)) e
 refine fn_exact (u0:=1) Try.func44 rfl rfl (gets rfl rfl rfl hd_ rfl) ?_
 clear hd_
 refine vc_seq ?_
 refine vc_region hm ?_
 refine gM trivial (.inr rfl) rfl rfl rfl ?_
 refine rg_nil nofun ?_
 refine vc_seq ?_
 refine vc_region hm ?_
 refine gM trivial (.inl rfl) rfl rfl rfl ?_
 refine gK trivial rfl rfl rfl rfl rfl rfl (hls_nil rSp_nil) ?_
 refine gMk (u':=2) trivial rfl rfl rfl rfl rfl rfl rfl rfl rfl rfl rfl rfl rfl rfl ⟨(show 16 * l.length≤1000000000 by omega),by omega⟩ (fill_zeros (enc:=eSp) (n:=2) (fun _=>rfl) (by decide) rfl l) ?_
 refine gM trivial (.inr rfl) rfl rfl rfl ?_
 refine rg_nil nofun ?_
 refine vc_seq ?_
 refine vc_seq ?_
 refine vc_region hm ?_
 refine gM trivial (.inr rfl) rfl rfl rfl ?_
 refine rg_nil nofun ?_
 refine vc_block ?_
 refine vc_loop' (fun n_ S_=>∃ (j:Nat),j≤l.length∧n_=l.length - j∧S_=⟨2,[(0,.slice (some ⟨0,k,none⟩) l.length 0),(3,.slice (some ⟨1,0,none⟩) l.length 0),(4,.int .i64 j)],[(0,false,one ⟨hls k (rSp l),35,0⟩),(1,true,one ⟨rSp (fillR l j),38,102⟩)]⟩) (m0:=idm) ⟨0,Nat.zero_le _,rfl,rfl⟩ (le_mk rfl ⟨⟨rfl,rfl⟩,⟨rfl,rfl⟩,⟨rfl,rfl⟩,trivial⟩ ⟨kFlat (hls_flat (rSp_flat l)) rfl id rfl,kFlat (rSp_flat _) rfl id rfl,trivial⟩ rfl (fun _ _=>rfl)) ?_
 rintro n_ S_ ⟨j,hj,rfl,rfl⟩
 refine vc_seq ?_
 refine vc_seq ?_
 refine vc_region hm ?_
 refine gM trivial (.inl rfl) rfl rfl rfl ?_
 refine gM trivial (.inl rfl) rfl rfl rfl ?_
 refine gK trivial rfl rfl rfl rfl rfl rfl (hls_nil rSp_nil) ?_
 refine gI trivial rfl rfl rfl rfl rfl rfl ?_
 refine rg_nil nofun ?_
 refine cI rfl (fun c11=>?_) (fun c11=>?_)
 ·skip
  have p11:=of_decide_eq_true c11
  refine vc_skip ?_
  refine vc_seq ?_
  refine vc_block ?_
  refine vc_region hm ?_
  refine gM trivial (.inl rfl) rfl rfl rfl ?_
  refine gM trivial (.inl rfl) rfl rfl rfl ?_
  refine gM trivial (.inl rfl) rfl rfl rfl ?_
  refine gM trivial (.inl rfl) rfl rfl rfl ?_
  refine gX trivial rfl rfl rfl rfl rfl rfl rfl rfl (by omega) p11 (fun h=>hls_ne (rSp_ne h)) ?_
  refine gL trivial rfl rfl rfl rfl rfl rfl rfl (wR (aSp (by omega) p11) rfl) ?_
  refine gC0 [] (laws_toSpan_c (at_ l (j:Int))) trivial rfl rfl rfl rfl (by trivial) rfl rfl rfl rfl rfl ?_
  refine gX trivial rfl rfl rfl rfl rfl rfl rfl rfl (by omega) p11 (fun h=>rSp_ne (by rw [fill_len (by omega)];exact h)) ?_
  refine gT trivial rfl rfl rfl rfl rfl rfl rfl rfl rfl rfl (fill_room (n:=2) (fun _=>rfl) (show 0 + (j:Int).toNat * 2=j * 2 by omega) p11) (fill_put (n:=2) (fun _=>rfl) (show 0 + (j:Int).toNat * 2=j * 2 by omega) rfl p11) ?_
  refine rg_nil nofun ?_
  refine vc_region hm ?_
  refine gM trivial (.inl rfl) rfl rfl rfl ?_
  refine gA trivial rfl rfl rfl rfl rfl rfl (by omega) ?_
  refine gM trivial (.inr rfl) rfl rfl rfl ?_
  refine rg_nil nofun ?_
  exact lp_next (m:=idm) ⟨j + 1,(by omega),rfl,rfl⟩ (by omega) (le_mk rfl ⟨⟨rfl,rfl⟩,⟨rfl,rfl⟩,⟨rfl,rfl⟩,trivial⟩ ⟨kFlat (hls_flat (rSp_flat l)) rfl id rfl,kFlat (rSp_flat _) rfl id rfl,trivial⟩ rfl (fun _ _=>rfl))
 ·skip
  have p11:=of_decide_eq_false c11
  refine vc_exit ?_
  refine vc_seq ?_
  refine vc_region hm ?_
  refine gM trivial (.inl rfl) rfl rfl rfl ?_
  refine gM trivial (.inr rfl) rfl rfl rfl ?_
  refine rg_nil nofun ?_
  refine vc_ret ?_
  obtain rfl:j=l.length:=by omega
  rw [fill_end]
  exact ⟨_,endsG [(1,1,⟨rSp l,38,102⟩)] (.inr rfl) (.tmp rfl rfl .nil) rfl rfl trivial ⟨⟨rfl,rSp_flat l⟩,trivial⟩ rfl⟩
theorem laws_szSpanS_c {l:List Sp} {k:Nat} {left:Int} (h0:0≤left) (h1:left≤1048576) (hn:l.length≤9223372036854775807):FDoes Try.prog 42 [.slice (some ⟨0,k,none⟩) l.length 0,.int .i64 left] (hp [(0,false,one ⟨hls k (rSp l),35,0⟩)]) { v:=.int .i64 (szL left l.length),rd:=[0] }:=by
 have hm:Try.prog.follows .mixedOrders=true:=by kernel_rfl
 have hd_:∀ x_ ∈ ([(0,false,one ⟨hls k (rSp l),35,0⟩)]:List (Nat × Bool × Fam)),∀ k_ y_,x_.2.2 k_=some y_→DetB (lt 1) y_:=by
  intro x_ hx k_ y_ e
  simp only [List.mem_cons,List.not_mem_nil,or_false] at hx
  subst hx
  exact det_row (hls_flat (rSp_flat l)) e
 refine fn_exact (u0:=1) Try.func42 rfl rfl (gets rfl rfl rfl hd_ rfl) ?_
 clear hd_
 refine vc_seq ?_
 refine vc_region hm ?_
 refine gM trivial (.inr rfl) rfl rfl rfl ?_
 refine rg_nil nofun ?_
 refine vc_seq ?_
 refine vc_region hm ?_
 refine gM trivial (.inl rfl) rfl rfl rfl ?_
 refine gM trivial (.inl rfl) rfl rfl rfl ?_
 refine gK trivial rfl rfl rfl rfl rfl rfl (hls_nil rSp_nil) ?_
 refine gA trivial rfl rfl rfl rfl rfl rfl (by omega) ?_
 refine gM trivial (.inr rfl) rfl rfl rfl ?_
 refine rg_nil nofun ?_
 refine vc_seq ?_
 refine vc_seq ?_
 refine vc_region hm ?_
 refine gM trivial (.inl rfl) rfl rfl rfl ?_
 refine gI trivial rfl rfl rfl rfl rfl rfl ?_
 refine rg_nil nofun ?_
 refine cI rfl (fun c10=>?_) (fun c10=>?_)
 ·skip
  have p10:=of_decide_eq_true c10
  refine vc_seq ?_
  refine vc_region hm ?_
  refine gM trivial (.inr rfl) rfl rfl rfl ?_
  refine rg_nil nofun ?_
  refine vc_ret ?_
  exact ⟨idm,ends0 (.inr rfl) rfl (eqI (by unfold szL;first|rw [if_pos (by assumption)]|rw [if_neg (by assumption)])) rfl rfl rfl⟩
 ·skip
  have p10:=of_decide_eq_false c10
  refine vc_skip ?_
  refine vc_seq ?_
  refine vc_region hm ?_
  refine gM trivial (.inl rfl) rfl rfl rfl ?_
  refine gM trivial (.inr rfl) rfl rfl rfl ?_
  refine rg_nil nofun ?_
  refine vc_ret ?_
  exact ⟨idm,ends0 (.inr rfl) rfl (eqI (by unfold szL;first|rw [if_pos (by assumption)]|rw [if_neg (by assumption)])) rfl rfl rfl⟩
theorem laws_szOwn_c {o:Ow} {k0 k1:Nat} {left:Int} (h0:0≤left) (h1:left≤1048576) (ht:o.t.size≤9223372036854775807) (hh:o.h.length≤9223372036854775807) (hd:o.d.length≤9223372036854775807):FDoes Try.prog 13 [.agg #[.string o.t,.slice (some ⟨0,k0,none⟩) o.h.length 0,.slice (some ⟨1,k1,none⟩) o.d.length 0],.int .i64 left] (hp [(0,false,one ⟨hls k0 (rSp o.h),35,0⟩),(1,false,one ⟨hls k1 (rSp o.d),35,0⟩)]) { v:=.int .i64 (szO o left),rd:=[0,1] }:=by
 have hm:Try.prog.follows .mixedOrders=true:=by kernel_rfl
 have hd_:∀ x_ ∈ ([(0,false,one ⟨hls k0 (rSp o.h),35,0⟩),(1,false,one ⟨hls k1 (rSp o.d),35,0⟩)]:List (Nat × Bool × Fam)),∀ k_ y_,x_.2.2 k_=some y_→DetB (lt 2) y_:=by
  intro x_ hx k_ y_ e
  simp only [List.mem_cons,List.not_mem_nil,or_false] at hx
  rcases hx with rfl|rfl
  ·exact det_row (hls_flat (rSp_flat o.h)) e
  ·exact det_row (hls_flat (rSp_flat o.d)) e
 refine fn_exact (u0:=2) Try.func13 rfl rfl (gets rfl rfl rfl hd_ rfl) ?_
 clear hd_
 refine vc_seq ?_
 refine vc_region hm ?_
 refine gB (u':=3) trivial rfl rfl rfl rfl rfl rfl rfl rfl ?_
 refine gM trivial (.inr rfl) rfl rfl rfl ?_
 refine rg_nil nofun ?_
 refine vc_seq ?_
 refine vc_region hm ?_
 refine gM trivial (.inl rfl) rfl rfl rfl ?_
 refine gF trivial rfl rfl rfl rfl rfl ?_
 refine gL trivial rfl rfl rfl rfl rfl rfl rfl rfl ?_
 refine gKT trivial rfl rfl rfl rfl rfl ?_
 refine gA trivial rfl rfl rfl rfl rfl rfl (by omega) ?_
 refine gM trivial (.inr rfl) rfl rfl rfl ?_
 refine rg_nil nofun ?_
 refine vc_seq ?_
 refine vc_seq ?_
 refine vc_region hm ?_
 refine gM trivial (.inl rfl) rfl rfl rfl ?_
 refine gI trivial rfl rfl rfl rfl rfl rfl ?_
 refine rg_nil nofun ?_
 refine cI rfl (fun c11=>?_) (fun c11=>?_)
 ·skip
  have p11:=of_decide_eq_true c11
  refine vc_seq ?_
  refine vc_region hm ?_
  refine gM trivial (.inr rfl) rfl rfl rfl ?_
  refine rg_nil nofun ?_
  refine vc_ret ?_
  exact ⟨idm,ends0 (.inr rfl) rfl (eqI (by unfold szO;first|rw [if_pos (by assumption)]|rw [if_neg (by assumption),if_pos (by assumption)]|rw [if_neg (by assumption),if_neg (by assumption),if_pos (by assumption)]|rw [if_neg (by assumption),if_neg (by assumption),if_neg (by assumption)])) rfl rfl rfl⟩
 ·skip
  have p11:=of_decide_eq_false c11
  refine vc_skip ?_
  refine vc_seq ?_
  refine vc_region hm ?_
  refine gF trivial rfl rfl rfl rfl rfl ?_
  refine gL trivial rfl rfl rfl rfl rfl rfl rfl rfl ?_
  refine gM trivial (.inl rfl) rfl rfl rfl ?_
  refine gC0 [0] (laws_szSpanS_c (l:=o.h) (k:=k0) (left:=left - o.t.size) (by omega) (by first|omega|(unfold szL;split <;> omega)) hh) trivial rfl rfl rfl rfl ⟨rFlat (hls_flat (rSp_flat o.h)) rfl (.inl rfl) rfl,trivial⟩ rfl rfl rfl rfl rfl ?_
  refine gM trivial (.inr rfl) rfl rfl rfl ?_
  refine rg_nil nofun ?_
  refine vc_seq ?_
  refine vc_seq ?_
  refine vc_region hm ?_
  refine gM trivial (.inl rfl) rfl rfl rfl ?_
  refine gI trivial rfl rfl rfl rfl rfl rfl ?_
  refine rg_nil nofun ?_
  refine cI rfl (fun c17=>?_) (fun c17=>?_)
  ·skip
   have p17:=of_decide_eq_true c17
   refine vc_seq ?_
   refine vc_region hm ?_
   refine gM trivial (.inr rfl) rfl rfl rfl ?_
   refine rg_nil nofun ?_
   refine vc_ret ?_
   exact ⟨idm,ends0 (.inr rfl) rfl (eqI (by unfold szO;first|rw [if_pos (by assumption)]|rw [if_neg (by assumption),if_pos (by assumption)]|rw [if_neg (by assumption),if_neg (by assumption),if_pos (by assumption)]|rw [if_neg (by assumption),if_neg (by assumption),if_neg (by assumption)])) rfl rfl rfl⟩
  ·skip
   have p17:=of_decide_eq_false c17
   refine vc_skip ?_
   refine vc_seq ?_
   refine vc_region hm ?_
   refine gF trivial rfl rfl rfl rfl rfl ?_
   refine gL trivial rfl rfl rfl rfl rfl rfl rfl rfl ?_
   refine gM trivial (.inl rfl) rfl rfl rfl ?_
   refine gC0 [1] (laws_szSpanS_c (l:=o.d) (k:=k1) (left:=szL (left - o.t.size) o.h.length) (by omega) (by first|omega|(unfold szL;split <;> omega)) hd) trivial rfl rfl rfl rfl ⟨rFlat (hls_flat (rSp_flat o.d)) rfl (.inl rfl) rfl,trivial⟩ rfl rfl rfl rfl rfl ?_
   refine gM trivial (.inr rfl) rfl rfl rfl ?_
   refine rg_nil nofun ?_
   refine vc_seq ?_
   refine vc_seq ?_
   refine vc_region hm ?_
   refine gM trivial (.inl rfl) rfl rfl rfl ?_
   refine gI trivial rfl rfl rfl rfl rfl rfl ?_
   refine rg_nil nofun ?_
   refine cI rfl (fun c23=>?_) (fun c23=>?_)
   ·skip
    have p23:=of_decide_eq_true c23
    refine vc_seq ?_
    refine vc_region hm ?_
    refine gM trivial (.inr rfl) rfl rfl rfl ?_
    refine rg_nil nofun ?_
    refine vc_ret ?_
    exact ⟨idm,ends0 (.inr rfl) rfl (eqI (by unfold szO;first|rw [if_pos (by assumption)]|rw [if_neg (by assumption),if_pos (by assumption)]|rw [if_neg (by assumption),if_neg (by assumption),if_pos (by assumption)]|rw [if_neg (by assumption),if_neg (by assumption),if_neg (by assumption)])) rfl rfl rfl⟩
   ·skip
    have p23:=of_decide_eq_false c23
    refine vc_skip ?_
    refine vc_seq ?_
    refine vc_region hm ?_
    refine gM trivial (.inl rfl) rfl rfl rfl ?_
    refine gM trivial (.inr rfl) rfl rfl rfl ?_
    refine rg_nil nofun ?_
    refine vc_ret ?_
    exact ⟨idm,ends0 (.inr rfl) rfl (eqI (by unfold szO;first|rw [if_pos (by assumption)]|rw [if_neg (by assumption),if_pos (by assumption)]|rw [if_neg (by assumption),if_neg (by assumption),if_pos (by assumption)]|rw [if_neg (by assumption),if_neg (by assumption),if_neg (by assumption)])) rfl rfl rfl⟩
theorem laws_toOwn_c {o:Ow} {k0 k1:Nat} (hh:o.h.length≤1048576) (hd:o.d.length≤1048576):FDoes Try.prog 15 [.agg #[.string o.t,.slice (some ⟨0,k0,none⟩) o.h.length 0,.slice (some ⟨1,k1,none⟩) o.d.length 0]] (hp [(0,false,one ⟨hls k0 (rSp o.h),35,0⟩),(1,false,one ⟨hls k1 (rSp o.d),35,0⟩)]) (mkE (.agg #[.string o.t,.slice (some ⟨2,0,none⟩) o.h.length 0,.slice (some ⟨3,0,none⟩) o.d.length 0]) [0,1] [] [(2,⟨rSp o.h,38,102⟩),(3,⟨rSp o.d,38,102⟩)]):=by
 have hm:Try.prog.follows .mixedOrders=true:=by kernel_rfl
 have hd_:∀ x_ ∈ ([(0,false,one ⟨hls k0 (rSp o.h),35,0⟩),(1,false,one ⟨hls k1 (rSp o.d),35,0⟩)]:List (Nat × Bool × Fam)),∀ k_ y_,x_.2.2 k_=some y_→DetB (lt 2) y_:=by
  intro x_ hx k_ y_ e
  simp only [List.mem_cons,List.not_mem_nil,or_false] at hx
  rcases hx with rfl|rfl
  ·exact det_row (hls_flat (rSp_flat o.h)) e
  ·exact det_row (hls_flat (rSp_flat o.d)) e
 refine fn_exact (u0:=2) Try.func15 rfl rfl (gets rfl rfl rfl hd_ rfl) ?_
 clear hd_
 refine vc_seq ?_
 refine vc_region hm ?_
 refine gB (u':=3) trivial rfl rfl rfl rfl rfl rfl rfl rfl ?_
 refine gZ (u':=4) trivial rfl rfl rfl rfl rfl rfl rfl rfl ?_
 refine rg_nil nofun ?_
 refine vc_seq ?_
 refine vc_region hm ?_
 refine gZ (u':=5) trivial rfl rfl rfl rfl rfl rfl rfl rfl ?_
 refine rg_nil nofun ?_
 refine vc_seq ?_
 refine vc_region hm ?_
 refine gF trivial rfl rfl rfl rfl rfl ?_
 refine gL trivial rfl rfl rfl rfl rfl rfl rfl rfl ?_
 refine gF trivial rfl rfl rfl rfl rfl ?_
 refine gT trivial rfl rfl rfl rfl rfl rfl rfl rfl rfl rfl (Nat.le_of_ble_eq_true rfl) rfl ?_
 refine rg_nil nofun ?_
 refine vc_seq ?_
 refine vc_region hm ?_
 refine gF trivial rfl rfl rfl rfl rfl ?_
 refine gL trivial rfl rfl rfl rfl rfl rfl rfl rfl ?_
 refine gCn 6 [0,5] (laws_toSpanS_c (l:=o.h) (k:=k0) hh) trivial rfl rfl rfl rfl ⟨rFlat (hls_flat (rSp_flat o.h)) rfl (.inl rfl) rfl,trivial⟩ ⟨rSp_flat _,trivial⟩ rfl rfl rfl rfl ?_
 refine gF trivial rfl rfl rfl rfl rfl ?_
 refine gT trivial rfl rfl rfl rfl rfl rfl rfl rfl rfl rfl (Nat.le_of_ble_eq_true rfl) rfl ?_
 refine rg_nil nofun ?_
 refine vc_seq ?_
 refine vc_region hm ?_
 refine gF trivial rfl rfl rfl rfl rfl ?_
 refine gL trivial rfl rfl rfl rfl rfl rfl rfl rfl ?_
 refine gCn 7 [1,6] (laws_toSpanS_c (l:=o.d) (k:=k1) hd) trivial rfl rfl rfl rfl ⟨rFlat (hls_flat (rSp_flat o.d)) rfl (.inl rfl) rfl,trivial⟩ ⟨rSp_flat _,trivial⟩ rfl rfl rfl rfl ?_
 refine gF trivial rfl rfl rfl rfl rfl ?_
 refine gT trivial rfl rfl rfl rfl rfl rfl rfl rfl rfl rfl (Nat.le_of_ble_eq_true rfl) rfl ?_
 refine rg_nil nofun ?_
 refine vc_seq ?_
 refine vc_region hm ?_
 refine gL trivial rfl rfl rfl rfl rfl rfl rfl rfl ?_
 refine gT trivial rfl rfl rfl rfl rfl rfl rfl rfl rfl rfl (Nat.le_of_ble_eq_true rfl) rfl ?_
 refine rg_nil nofun ?_
 refine vc_ret ?_
 exact ⟨_,endsG [(2,5,⟨rSp o.h,38,102⟩),(3,6,⟨rSp o.d,38,102⟩)] (.inr rfl) (.cell rfl rfl rfl rfl rfl .nil) rfl rfl trivial ⟨⟨rfl,rSp_flat _⟩,⟨rfl,rSp_flat _⟩,trivial⟩ rfl⟩
theorem laws_eqSpan_c (a b:Sp):FDoes Try.prog 81 [vSp a,vSp b] (hp []) { v:=.bool (decide (a=b)) }:=by
 have hm:Try.prog.follows .mixedOrders=true:=by kernel_rfl
 have hd_:∀ x ∈ ([]:List (Nat × Bool × Fam)),∀ k y,x.2.2 k=some y→DetB (lt 0) y:=fun x_ hx=>(by cases hx)
 refine fn_exact (u0:=0) Try.func81 rfl rfl (gets rfl rfl rfl hd_ rfl) ?_
 clear hd_
 refine vc_seq ?_
 refine vc_region hm ?_
 refine gB (u':=1) trivial rfl rfl rfl rfl rfl rfl rfl rfl ?_
 refine gB (u':=2) trivial rfl rfl rfl rfl rfl rfl rfl rfl ?_
 refine gM trivial (.inr rfl) rfl rfl rfl ?_
 refine rg_nil nofun ?_
 refine vc_seq ?_
 refine vc_seq ?_
 refine vc_region hm ?_
 refine gF trivial rfl rfl rfl rfl rfl ?_
 refine gL trivial rfl rfl rfl rfl rfl rfl rfl rfl ?_
 refine gF trivial rfl rfl rfl rfl rfl ?_
 refine gL trivial rfl rfl rfl rfl rfl rfl rfl rfl ?_
 refine gI trivial rfl rfl rfl rfl rfl rfl ?_
 refine rg_nil nofun ?_
 refine cI rfl (fun c9=>?_) (fun c9=>?_)
 ·skip
  have p9:=bne_iff_ne.1 c9
  refine vc_seq ?_
  refine vc_region hm ?_
  refine gM trivial (.inr rfl) rfl rfl rfl ?_
  refine rg_nil nofun ?_
  refine vc_ret ?_
  exact ⟨idm,ends0 (.inr rfl) rfl (eqB (by first|exact decide_eq_false (sp_ne1 (by assumption))|exact decide_eq_false (sp_ne2 (by assumption))|exact decide_eq_true (sp_eq (by assumption) (by assumption)))) rfl rfl rfl⟩
 ·skip
  have p9:=bne_eq_false_iff_eq.1 c9
  refine vc_skip ?_
  refine vc_seq ?_
  refine vc_seq ?_
  refine vc_region hm ?_
  refine gF trivial rfl rfl rfl rfl rfl ?_
  refine gL trivial rfl rfl rfl rfl rfl rfl rfl rfl ?_
  refine gF trivial rfl rfl rfl rfl rfl ?_
  refine gL trivial rfl rfl rfl rfl rfl rfl rfl rfl ?_
  refine gI trivial rfl rfl rfl rfl rfl rfl ?_
  refine rg_nil nofun ?_
  refine cI rfl (fun c14=>?_) (fun c14=>?_)
  ·skip
   have p14:=bne_iff_ne.1 c14
   refine vc_seq ?_
   refine vc_region hm ?_
   refine gM trivial (.inr rfl) rfl rfl rfl ?_
   refine rg_nil nofun ?_
   refine vc_ret ?_
   exact ⟨idm,ends0 (.inr rfl) rfl (eqB (by first|exact decide_eq_false (sp_ne1 (by assumption))|exact decide_eq_false (sp_ne2 (by assumption))|exact decide_eq_true (sp_eq (by assumption) (by assumption)))) rfl rfl rfl⟩
  ·skip
   have p14:=bne_eq_false_iff_eq.1 c14
   refine vc_skip ?_
   refine vc_seq ?_
   refine vc_region hm ?_
   refine gM trivial (.inr rfl) rfl rfl rfl ?_
   refine rg_nil nofun ?_
   refine vc_ret ?_
   exact ⟨idm,ends0 (.inr rfl) rfl (eqB (by first|exact decide_eq_false (sp_ne1 (by assumption))|exact decide_eq_false (sp_ne2 (by assumption))|exact decide_eq_true (sp_eq (by assumption) (by assumption)))) rfl rfl rfl⟩
theorem laws_eqSpanS_c {a b:List Sp} (hn:a.length≤1048576):FDoes Try.prog 46 [.slice (some ⟨0,0,none⟩) a.length 0,.slice (some ⟨1,0,none⟩) b.length 0] (hp [(0,false,one ⟨rSp a,38,0⟩),(1,false,one ⟨rSp b,38,0⟩)]) { v:=.bool (decide (a=b)),rd:=[0,1] }:=by
 have hm:Try.prog.follows .mixedOrders=true:=by kernel_rfl
 have hd_:∀ x_ ∈ ([(0,false,one ⟨rSp a,38,0⟩),(1,false,one ⟨rSp b,38,0⟩)]:List (Nat × Bool × Fam)),∀ k_ y_,x_.2.2 k_=some y_→DetB (lt 2) y_:=by
  intro x_ hx k_ y_ e
  simp only [List.mem_cons,List.not_mem_nil,or_false] at hx
  rcases hx with rfl|rfl
  ·exact det_row (rSp_flat a) e
  ·exact det_row (rSp_flat b) e
 refine fn_exact (u0:=2) Try.func46 rfl rfl (gets rfl rfl rfl hd_ rfl) ?_
 clear hd_
 refine vc_seq ?_
 refine vc_region hm ?_
 refine gM trivial (.inr rfl) rfl rfl rfl ?_
 refine rg_nil nofun ?_
 refine vc_seq ?_
 refine vc_seq ?_
 refine vc_region hm ?_
 refine gM trivial (.inl rfl) rfl rfl rfl ?_
 refine gK trivial rfl rfl rfl rfl rfl rfl rSp_nil ?_
 refine gM trivial (.inl rfl) rfl rfl rfl ?_
 refine gK trivial rfl rfl rfl rfl rfl rfl rSp_nil ?_
 refine gI trivial rfl rfl rfl rfl rfl rfl ?_
 refine rg_nil nofun ?_
 refine cI rfl (fun c10=>?_) (fun c10=>?_)
 ·skip
  have p10:=bne_iff_ne.1 c10
  refine vc_seq ?_
  refine vc_region hm ?_
  refine gM trivial (.inr rfl) rfl rfl rfl ?_
  refine rg_nil nofun ?_
  refine vc_ret ?_
  exact ⟨idm,ends0 (.inr rfl) rfl (eqB (decide_eq_false fun e=>p10 (by rw [e]))) rfl rfl rfl⟩
 ·skip
  have p10:=bne_eq_false_iff_eq.1 c10
  refine vc_skip ?_
  refine vc_seq ?_
  refine vc_seq ?_
  refine vc_region hm ?_
  refine gM trivial (.inr rfl) rfl rfl rfl ?_
  refine rg_nil nofun ?_
  refine vc_block ?_
  have hl:a.length=b.length:=by omega
  refine vc_loop' (fun n_ S_=>∃ (j:Nat),j≤a.length∧a.take j=b.take j∧n_=a.length - j∧S_=⟨2,[(0,.slice (some ⟨0,0,none⟩) a.length 0),(1,.slice (some ⟨1,0,none⟩) b.length 0),(5,.int .i64 j)],[(0,false,one ⟨rSp a,38,0⟩),(1,false,one ⟨rSp b,38,0⟩)]⟩) (m0:=idm) ⟨0,Nat.zero_le _,rfl,rfl,rfl⟩ (le_mk rfl ⟨⟨rfl,rfl⟩,⟨rfl,rfl⟩,⟨rfl,rfl⟩,trivial⟩ ⟨kFlat (rSp_flat a) rfl id rfl,kFlat (rSp_flat b) rfl id rfl,trivial⟩ rfl (fun _ _=>rfl)) ?_
  rintro n_ S_ ⟨j,hj,hk,rfl,rfl⟩
  refine vc_seq ?_
  refine vc_seq ?_
  refine vc_region hm ?_
  refine gM trivial (.inl rfl) rfl rfl rfl ?_
  refine gM trivial (.inl rfl) rfl rfl rfl ?_
  refine gK trivial rfl rfl rfl rfl rfl rfl rSp_nil ?_
  refine gI trivial rfl rfl rfl rfl rfl rfl ?_
  refine rg_nil nofun ?_
  refine cI rfl (fun c14=>?_) (fun c14=>?_)
  ·skip
   have p14:=of_decide_eq_true c14
   refine vc_skip ?_
   refine vc_seq ?_
   refine vc_block ?_
   refine vc_seq ?_
   refine vc_region hm ?_
   refine gM trivial (.inl rfl) rfl rfl rfl ?_
   refine gM trivial (.inl rfl) rfl rfl rfl ?_
   refine gX trivial rfl rfl rfl rfl rfl rfl rfl rfl (by omega) (by omega) rSp_ne ?_
   refine gL trivial rfl rfl rfl rfl rfl rfl rfl (aSp (by omega) (by omega)) ?_
   refine gM trivial (.inl rfl) rfl rfl rfl ?_
   refine gM trivial (.inl rfl) rfl rfl rfl ?_
   refine gX trivial rfl rfl rfl rfl rfl rfl rfl rfl (by omega) (by omega) rSp_ne ?_
   refine gL trivial rfl rfl rfl rfl rfl rfl rfl (aSp (by omega) (by omega)) ?_
   refine gC0 [] (laws_eqSpan_c (at_ a (j:Int)) (at_ b (j:Int))) trivial rfl rfl rfl rfl (by trivial) rfl rfl rfl rfl rfl ?_
   refine gN trivial rfl rfl rfl rfl ?_
   refine rg_nil (fun _=>by kernel_rfl) ?_
   refine cI rfl (fun c26=>?_) (fun c26=>?_)
   ·skip
    have n26:=unT c26
    refine vc_seq ?_
    refine vc_region hm ?_
    refine gM trivial (.inr rfl) rfl rfl rfl ?_
    refine rg_nil nofun ?_
    refine vc_ret ?_
    exact ⟨idm,ends0 (.inr rfl) rfl (eqB (decide_eq_false fun e=>of_dF n26 (by rw [e]))) rfl rfl rfl⟩
   ·skip
    have n26:=unF c26
    refine vc_skip ?_
    refine vc_region hm ?_
    refine gM trivial (.inl rfl) rfl rfl rfl ?_
    refine gA trivial rfl rfl rfl rfl rfl rfl (by omega) ?_
    refine gM trivial (.inr rfl) rfl rfl rfl ?_
    refine rg_nil nofun ?_
    have q26:=of_dT n26
    exact lp_next (m:=idm) ⟨j + 1,(by omega),(take_step hk p14 hl q26),rfl,rfl⟩ (by omega) (le_mk rfl ⟨⟨rfl,rfl⟩,⟨rfl,rfl⟩,⟨rfl,rfl⟩,trivial⟩ ⟨kFlat (rSp_flat a) rfl id rfl,kFlat (rSp_flat b) rfl id rfl,trivial⟩ rfl (fun _ _=>rfl))
  ·skip
   have p14:=of_decide_eq_false c14
   refine vc_exit ?_
   refine vc_seq ?_
   refine vc_region hm ?_
   refine gM trivial (.inr rfl) rfl rfl rfl ?_
   refine rg_nil nofun ?_
   refine vc_ret ?_
   exact ⟨idm,ends0 (.inr rfl) rfl (eqB (decide_eq_true (take_all hk p14 hl))) rfl rfl rfl⟩
theorem laws_eqOwn_c {x y:Ow} (hh:x.h.length≤1048576) (hd:x.d.length≤1048576):FDoes Try.prog 17 [.agg #[.string x.t,.slice (some ⟨0,0,none⟩) x.h.length 0,.slice (some ⟨1,0,none⟩) x.d.length 0],.agg #[.string y.t,.slice (some ⟨2,0,none⟩) y.h.length 0,.slice (some ⟨3,0,none⟩) y.d.length 0]] (hp [(0,false,one ⟨rSp x.h,38,0⟩),(1,false,one ⟨rSp x.d,38,0⟩),(2,false,one ⟨rSp y.h,38,0⟩),(3,false,one ⟨rSp y.d,38,0⟩)]) { v:=.bool (eqO x y),rd:=[0,1,2,3] }:=by
 have hm:Try.prog.follows .mixedOrders=true:=by kernel_rfl
 have hd_:∀ x_ ∈ ([(0,false,one ⟨rSp x.h,38,0⟩),(1,false,one ⟨rSp x.d,38,0⟩),(2,false,one ⟨rSp y.h,38,0⟩),(3,false,one ⟨rSp y.d,38,0⟩)]:List (Nat × Bool × Fam)),∀ k_ y_,x_.2.2 k_=some y_→DetB (lt 4) y_:=by
  intro x_ hx k_ y_ e
  simp only [List.mem_cons,List.not_mem_nil,or_false] at hx
  rcases hx with rfl|rfl|rfl|rfl
  ·exact det_row (rSp_flat x.h) e
  ·exact det_row (rSp_flat x.d) e
  ·exact det_row (rSp_flat y.h) e
  ·exact det_row (rSp_flat y.d) e
 refine fn_exact (u0:=4) Try.func17 rfl rfl (gets rfl rfl rfl hd_ rfl) ?_
 clear hd_
 refine vc_seq ?_
 refine vc_region hm ?_
 refine gB (u':=5) trivial rfl rfl rfl rfl rfl rfl rfl rfl ?_
 refine gB (u':=6) trivial rfl rfl rfl rfl rfl rfl rfl rfl ?_
 refine gM trivial (.inr rfl) rfl rfl rfl ?_
 refine rg_nil nofun ?_
 refine vc_seq ?_
 refine vc_seq ?_
 refine vc_region hm ?_
 refine gF trivial rfl rfl rfl rfl rfl ?_
 refine gL trivial rfl rfl rfl rfl rfl rfl rfl rfl ?_
 refine gF trivial rfl rfl rfl rfl rfl ?_
 refine gL trivial rfl rfl rfl rfl rfl rfl rfl rfl ?_
 refine gS trivial rfl rfl rfl rfl rfl rfl ?_
 refine rg_nil nofun ?_
 refine cI rfl (fun c9=>?_) (fun c9=>?_)
 ·skip
  refine vc_seq ?_
  refine vc_region hm ?_
  refine gM trivial (.inr rfl) rfl rfl rfl ?_
  refine rg_nil nofun ?_
  refine vc_ret ?_
  exact ⟨idm,ends0 (.inr rfl) rfl (eqB (eqO_1 (unT c9))) rfl rfl rfl⟩
 ·skip
  refine vc_skip ?_
  refine vc_seq ?_
  refine vc_seq ?_
  refine vc_region hm ?_
  refine gF trivial rfl rfl rfl rfl rfl ?_
  refine gL trivial rfl rfl rfl rfl rfl rfl rfl rfl ?_
  refine gF trivial rfl rfl rfl rfl rfl ?_
  refine gL trivial rfl rfl rfl rfl rfl rfl rfl rfl ?_
  refine gC0 [0,2] (laws_eqSpanS_c (a:=x.h) (b:=y.h) hh) trivial rfl rfl rfl rfl ⟨rFlat (rSp_flat x.h) rfl (.inl rfl) rfl,rFlat (rSp_flat y.h) rfl (.inl rfl) rfl,trivial⟩ rfl rfl rfl rfl rfl ?_
  refine gN trivial rfl rfl rfl rfl ?_
  refine rg_nil nofun ?_
  refine cI rfl (fun c15=>?_) (fun c15=>?_)
  ·skip
   have n15:=unT c15
   refine vc_seq ?_
   refine vc_region hm ?_
   refine gM trivial (.inr rfl) rfl rfl rfl ?_
   refine rg_nil nofun ?_
   refine vc_ret ?_
   exact ⟨idm,ends0 (.inr rfl) rfl (eqB (eqO_2 n15)) rfl rfl rfl⟩
  ·skip
   have n15:=unF c15
   refine vc_skip ?_
   refine vc_seq ?_
   refine vc_seq ?_
   refine vc_region hm ?_
   refine gF trivial rfl rfl rfl rfl rfl ?_
   refine gL trivial rfl rfl rfl rfl rfl rfl rfl rfl ?_
   refine gF trivial rfl rfl rfl rfl rfl ?_
   refine gL trivial rfl rfl rfl rfl rfl rfl rfl rfl ?_
   refine gC0 [1,3] (laws_eqSpanS_c (a:=x.d) (b:=y.d) hd) trivial rfl rfl rfl rfl ⟨rFlat (rSp_flat x.d) rfl (.inl rfl) rfl,rFlat (rSp_flat y.d) rfl (.inl rfl) rfl,trivial⟩ rfl rfl rfl rfl rfl ?_
   refine gN trivial rfl rfl rfl rfl ?_
   refine rg_nil nofun ?_
   refine cI rfl (fun c21=>?_) (fun c21=>?_)
   ·skip
    have n21:=unT c21
    refine vc_seq ?_
    refine vc_region hm ?_
    refine gM trivial (.inr rfl) rfl rfl rfl ?_
    refine rg_nil nofun ?_
    refine vc_ret ?_
    exact ⟨idm,ends0 (.inr rfl) rfl (eqB (eqO_3 n21)) rfl rfl rfl⟩
   ·skip
    have n21:=unF c21
    refine vc_skip ?_
    refine vc_seq ?_
    refine vc_region hm ?_
    refine gM trivial (.inr rfl) rfl rfl rfl ?_
    refine rg_nil nofun ?_
    refine vc_ret ?_
    exact ⟨idm,ends0 (.inr rfl) rfl (eqB (eqO_4 (unF c9) n15 n21)) rfl rfl rfl⟩
theorem spec_OwnOk_c {o:Ow} (ht:o.t.size≤1048576) (hh:o.h.length≤1048576) (hd:o.d.length≤1048576):FDoes Try.prog 18 [.agg #[.string o.t,.slice (some ⟨0,0,none⟩) o.h.length 0,.slice (some ⟨1,0,none⟩) o.d.length 0]] (hp [(0,false,one ⟨rSp o.h,38,0⟩),(1,false,one ⟨rSp o.d,38,0⟩)]) { v:=.bool (ownOk o),rd:=[0,1] }:=by
 have hm:Try.prog.follows .mixedOrders=true:=by kernel_rfl
 have hd_:∀ x_ ∈ ([(0,false,one ⟨rSp o.h,38,0⟩),(1,false,one ⟨rSp o.d,38,0⟩)]:List (Nat × Bool × Fam)),∀ k_ y_,x_.2.2 k_=some y_→DetB (lt 2) y_:=by
  intro x_ hx k_ y_ e
  simp only [List.mem_cons,List.not_mem_nil,or_false] at hx
  rcases hx with rfl|rfl
  ·exact det_row (rSp_flat o.h) e
  ·exact det_row (rSp_flat o.d) e
 refine fn_exact (u0:=2) Try.func18 rfl rfl (gets rfl rfl rfl hd_ rfl) ?_
 clear hd_
 refine vc_seq ?_
 refine vc_region hm ?_
 refine gB (u':=3) trivial rfl rfl rfl rfl rfl rfl rfl rfl ?_
 refine gM trivial (.inr rfl) rfl rfl rfl ?_
 refine rg_nil nofun ?_
 refine vc_seq ?_
 refine vc_seq ?_
 refine vc_region hm ?_
 refine gF trivial rfl rfl rfl rfl rfl ?_
 refine gL trivial rfl rfl rfl rfl rfl rfl rfl rfl ?_
 refine gC0 [] (spec_TextOk_c (s:=o.t) (by omega)) trivial rfl rfl rfl rfl (by trivial) rfl rfl rfl rfl rfl ?_
 refine gN trivial rfl rfl rfl rfl ?_
 refine gM trivial (.inl rfl) rfl rfl rfl ?_
 refine gI2 (d:=8) rfl (fun c8=>?_) (fun c8=>?_)
 ·skip
  have n8:=unT c8
  refine gO ⟨_,_,rfl,rfl,c8⟩ rfl rfl ?_
  refine gO ⟨_,_,rfl,rfl,c8⟩ rfl rfl ?_
  refine gO ⟨_,_,rfl,rfl,c8⟩ rfl rfl ?_
  refine gO ⟨_,_,rfl,rfl,c8⟩ rfl rfl ?_
  refine gPT trivial rfl rfl c8 rfl rfl rfl ?_
  refine gM trivial (.inl rfl) rfl rfl rfl ?_
  refine gO ⟨_,_,rfl,rfl,rfl⟩ rfl rfl ?_
  refine gO ⟨_,_,rfl,rfl,rfl⟩ rfl rfl ?_
  refine gO ⟨_,_,rfl,rfl,rfl⟩ rfl rfl ?_
  refine gO ⟨_,_,rfl,rfl,rfl⟩ rfl rfl ?_
  refine gPT trivial rfl rfl rfl rfl rfl rfl ?_
  refine gM trivial (.inl rfl) rfl rfl rfl ?_
  refine gO ⟨_,_,rfl,rfl,rfl⟩ rfl rfl ?_
  refine gO ⟨_,_,rfl,rfl,rfl⟩ rfl rfl ?_
  refine gO ⟨_,_,rfl,rfl,rfl⟩ rfl rfl ?_
  refine gO ⟨_,_,rfl,rfl,rfl⟩ rfl rfl ?_
  refine gPT trivial rfl rfl rfl rfl rfl rfl ?_
  refine rg_nil nofun ?_
  refine cT rfl rfl ?_
  refine vc_seq ?_
  refine vc_region hm ?_
  refine gM trivial (.inr rfl) rfl rfl rfl ?_
  refine rg_nil nofun ?_
  refine vc_ret ?_
  exact ⟨idm,ends0 (.inr rfl) rfl (eqB (by first|exact ownOk_1 (by assumption)|exact ownOk_2 (by assumption)|exact ownOk_3 (by assumption)|exact ownOk_4 (by assumption))) rfl rfl rfl⟩
 ·skip
  have n8:=unF c8
  refine gF ⟨_,_,rfl,rfl,c8⟩ rfl rfl rfl rfl rfl ?_
  refine gL ⟨_,_,rfl,rfl,c8⟩ rfl rfl rfl rfl rfl rfl rfl rfl ?_
  refine gKT ⟨_,_,rfl,rfl,c8⟩ rfl rfl rfl rfl rfl ?_
  refine gI ⟨_,_,rfl,rfl,c8⟩ rfl rfl rfl rfl rfl rfl ?_
  refine gPF trivial rfl rfl c8 rfl rfl rfl ?_
  refine gM trivial (.inl rfl) rfl rfl rfl ?_
  refine gI2 (d:=14) rfl (fun c14=>?_) (fun c14=>?_)
  ·skip
   have p14:=bne_iff_ne.1 c14
   refine gO ⟨_,_,rfl,rfl,c14⟩ rfl rfl ?_
   refine gO ⟨_,_,rfl,rfl,c14⟩ rfl rfl ?_
   refine gO ⟨_,_,rfl,rfl,c14⟩ rfl rfl ?_
   refine gO ⟨_,_,rfl,rfl,c14⟩ rfl rfl ?_
   refine gPT trivial rfl rfl c14 rfl rfl rfl ?_
   refine gM trivial (.inl rfl) rfl rfl rfl ?_
   refine gO ⟨_,_,rfl,rfl,rfl⟩ rfl rfl ?_
   refine gO ⟨_,_,rfl,rfl,rfl⟩ rfl rfl ?_
   refine gO ⟨_,_,rfl,rfl,rfl⟩ rfl rfl ?_
   refine gO ⟨_,_,rfl,rfl,rfl⟩ rfl rfl ?_
   refine gPT trivial rfl rfl rfl rfl rfl rfl ?_
   refine rg_nil nofun ?_
   refine cT rfl rfl ?_
   refine vc_seq ?_
   refine vc_region hm ?_
   refine gM trivial (.inr rfl) rfl rfl rfl ?_
   refine rg_nil nofun ?_
   refine vc_ret ?_
   exact ⟨idm,ends0 (.inr rfl) rfl (eqB (by first|exact ownOk_1 (by assumption)|exact ownOk_2 (by assumption)|exact ownOk_3 (by assumption)|exact ownOk_4 (by assumption))) rfl rfl rfl⟩
  ·skip
   have p14:=bne_eq_false_iff_eq.1 c14
   refine gF ⟨_,_,rfl,rfl,c14⟩ rfl rfl rfl rfl rfl ?_
   refine gL ⟨_,_,rfl,rfl,c14⟩ rfl rfl rfl rfl rfl rfl rfl rfl ?_
   refine gC0 [0] (spec_SpansOk_c (l:=o.h) hh) ⟨_,_,rfl,rfl,c14⟩ rfl rfl rfl rfl ⟨rFlat (rSp_flat o.h) rfl (.inl rfl) rfl,trivial⟩ rfl rfl rfl rfl rfl ?_
   refine gN ⟨_,_,rfl,rfl,c14⟩ rfl rfl rfl rfl ?_
   refine gPF trivial rfl rfl c14 rfl rfl rfl ?_
   refine gM trivial (.inl rfl) rfl rfl rfl ?_
   refine gI2 (d:=20) rfl (fun c20=>?_) (fun c20=>?_)
   ·skip
    have n20:=unT c20
    refine gO ⟨_,_,rfl,rfl,c20⟩ rfl rfl ?_
    refine gO ⟨_,_,rfl,rfl,c20⟩ rfl rfl ?_
    refine gO ⟨_,_,rfl,rfl,c20⟩ rfl rfl ?_
    refine gO ⟨_,_,rfl,rfl,c20⟩ rfl rfl ?_
    refine gPT trivial rfl rfl c20 rfl rfl rfl ?_
    refine rg_nil nofun ?_
    refine cT rfl rfl ?_
    refine vc_seq ?_
    refine vc_region hm ?_
    refine gM trivial (.inr rfl) rfl rfl rfl ?_
    refine rg_nil nofun ?_
    refine vc_ret ?_
    exact ⟨idm,ends0 (.inr rfl) rfl (eqB (by first|exact ownOk_1 (by assumption)|exact ownOk_2 (by assumption)|exact ownOk_3 (by assumption)|exact ownOk_4 (by assumption))) rfl rfl rfl⟩
   ·skip
    have n20:=unF c20
    refine gF ⟨_,_,rfl,rfl,c20⟩ rfl rfl rfl rfl rfl ?_
    refine gL ⟨_,_,rfl,rfl,c20⟩ rfl rfl rfl rfl rfl rfl rfl rfl ?_
    refine gC0 [1] (spec_SpansOk_c (l:=o.d) hd) ⟨_,_,rfl,rfl,c20⟩ rfl rfl rfl rfl ⟨rFlat (rSp_flat o.d) rfl (.inl rfl) rfl,trivial⟩ rfl rfl rfl rfl rfl ?_
    refine gN ⟨_,_,rfl,rfl,c20⟩ rfl rfl rfl rfl ?_
    refine gPF trivial rfl rfl c20 rfl rfl rfl ?_
    refine rg_nil nofun ?_
    refine cI rfl (fun c25=>?_) (fun c25=>?_)
    ·skip
     have n25:=unT c25
     refine vc_seq ?_
     refine vc_region hm ?_
     refine gM trivial (.inr rfl) rfl rfl rfl ?_
     refine rg_nil nofun ?_
     refine vc_ret ?_
     exact ⟨idm,ends0 (.inr rfl) rfl (eqB (by first|exact ownOk_1 (by assumption)|exact ownOk_2 (by assumption)|exact ownOk_3 (by assumption)|exact ownOk_4 (by assumption))) rfl rfl rfl⟩
    ·skip
     have n25:=unF c25
     refine vc_skip ?_
     refine vc_seq ?_
     refine vc_seq ?_
     refine vc_region hm ?_
     refine gM trivial (.inr rfl) rfl rfl rfl ?_
     refine rg_nil nofun ?_
     refine vc_block ?_
     refine vc_loop' (fun n_ S_=>∃ (j:Nat),j≤48∧(List.range j).all (placeOk o)=true∧n_=48 - j∧S_=⟨3,[(1,.pointer (some ⟨2,0,none⟩)),(3,.int .i64 j)],[(0,false,one ⟨rSp o.h,38,0⟩),(1,false,one ⟨rSp o.d,38,0⟩),(2,true,one ⟨[.string o.t,.slice (some ⟨0,0,none⟩) o.h.length 0,.slice (some ⟨1,0,none⟩) o.d.length 0],29,3⟩)]⟩) (m0:=idm) ⟨0,Nat.zero_le _,rfl,rfl,rfl⟩ (le_mk rfl ⟨⟨rfl,rfl⟩,⟨rfl,rfl⟩,trivial⟩ ⟨kFlat (rSp_flat o.h) rfl id rfl,kFlat (rSp_flat o.d) rfl id rfl,kCells rfl rfl id rfl,trivial⟩ rfl (fun _ _=>rfl)) ?_
     rintro n_ S_ ⟨j,hj,ha,rfl,rfl⟩
     refine vc_seq ?_
     refine vc_seq ?_
     refine vc_region hm ?_
     refine gM trivial (.inl rfl) rfl rfl rfl ?_
     refine gF trivial rfl rfl rfl rfl rfl ?_
     refine gL trivial rfl rfl rfl rfl rfl rfl rfl rfl ?_
     refine gKT trivial rfl rfl rfl rfl rfl ?_
     refine gI trivial rfl rfl rfl rfl rfl rfl ?_
     refine rg_nil nofun ?_
     refine cI rfl (fun c30=>?_) (fun c30=>?_)
     ·skip
      have p30:=of_decide_eq_true c30
      refine vc_skip ?_
      refine vc_seq ?_
      refine vc_block ?_
      refine vc_seq ?_
      refine vc_region hm ?_
      refine gF trivial rfl rfl rfl rfl rfl ?_
      refine gL trivial rfl rfl rfl rfl rfl rfl rfl rfl ?_
      refine gM trivial (.inl rfl) rfl rfl rfl ?_
      refine gC0 [0] (spec_l1In_c (l:=o.h) (a:=j) hh) trivial rfl rfl rfl rfl ⟨rFlat (rSp_flat o.h) rfl (.inl rfl) rfl,trivial⟩ rfl rfl rfl rfl rfl ?_
      refine gN trivial rfl rfl rfl rfl ?_
      refine gM trivial (.inl rfl) rfl rfl rfl ?_
      refine gI2 (d:=38) rfl (fun c38=>?_) (fun c38=>?_)
      ·skip
       have n38:=unT c38
       refine gF ⟨_,_,rfl,rfl,c38⟩ rfl rfl rfl rfl rfl ?_
       refine gL ⟨_,_,rfl,rfl,c38⟩ rfl rfl rfl rfl rfl rfl rfl rfl ?_
       refine gM ⟨_,_,rfl,rfl,c38⟩ (.inl rfl) rfl rfl rfl ?_
       refine gY ⟨_,_,rfl,rfl,c38⟩ rfl rfl rfl rfl rfl rfl (by omega) (by omega) ?_
       refine gI ⟨_,_,rfl,rfl,c38⟩ rfl rfl rfl rfl rfl rfl ?_
       refine gM ⟨_,_,rfl,rfl,c38⟩ (.inl rfl) rfl rfl rfl ?_
       refine gI2 (d:=44) rfl (fun c44=>?_) (fun c44=>?_)
       ·skip
        have p44:=bne_iff_ne.1 c44
        refine gO ⟨_,_,rfl,rfl,c44⟩ rfl rfl ?_
        refine gO ⟨_,_,rfl,rfl,c44⟩ rfl rfl ?_
        refine gO ⟨_,_,rfl,rfl,c44⟩ rfl rfl ?_
        refine gO ⟨_,_,rfl,rfl,c44⟩ rfl rfl ?_
        refine gPT ⟨_,_,rfl,rfl,c38⟩ rfl rfl c44 rfl rfl rfl ?_
        refine gPT trivial rfl rfl c38 rfl rfl rfl ?_
        refine rg_nil nofun ?_
        refine cT rfl rfl ?_
        refine vc_seq ?_
        refine vc_region hm ?_
        refine gM trivial (.inr rfl) rfl rfl rfl ?_
        refine rg_nil nofun ?_
        refine vc_ret ?_
        exact ⟨idm,ends0 (.inr rfl) rfl (eqB (ownOk_5 (j:=j) (by omega) (by first|exact placeOk_3 (by assumption) (by assumption)|exact placeOk_4 (by assumption) (by assumption)|exact placeOk_7 (by assumption) (by assumption)|exact placeOk_8 (by assumption) (by assumption)))) rfl rfl rfl⟩
       ·skip
        have p44:=bne_eq_false_iff_eq.1 c44
        refine gF ⟨_,_,rfl,rfl,c44⟩ rfl rfl rfl rfl rfl ?_
        refine gL ⟨_,_,rfl,rfl,c44⟩ rfl rfl rfl rfl rfl rfl rfl rfl ?_
        refine gM ⟨_,_,rfl,rfl,c44⟩ (.inl rfl) rfl rfl rfl ?_
        refine gC0 [1] (spec_l1In_c (l:=o.d) (a:=j) hd) ⟨_,_,rfl,rfl,c44⟩ rfl rfl rfl rfl ⟨rFlat (rSp_flat o.d) rfl (.inl rfl) rfl,trivial⟩ rfl rfl rfl rfl rfl ?_
        refine gPF ⟨_,_,rfl,rfl,c38⟩ rfl rfl c44 rfl rfl rfl ?_
        refine gPT trivial rfl rfl c38 rfl rfl rfl ?_
        refine rg_nil nofun ?_
        refine cI rfl (fun c50=>?_) (fun c50=>?_)
        ·skip
         refine vc_seq ?_
         refine vc_region hm ?_
         refine gM trivial (.inr rfl) rfl rfl rfl ?_
         refine rg_nil nofun ?_
         refine vc_ret ?_
         exact ⟨idm,ends0 (.inr rfl) rfl (eqB (ownOk_5 (j:=j) (by omega) (by first|exact placeOk_3 (by assumption) (by assumption)|exact placeOk_4 (by assumption) (by assumption)|exact placeOk_7 (by assumption) (by assumption)|exact placeOk_8 (by assumption) (by assumption)))) rfl rfl rfl⟩
        ·skip
         refine vc_skip ?_
         refine vc_region hm ?_
         refine gM trivial (.inl rfl) rfl rfl rfl ?_
         refine gA trivial rfl rfl rfl rfl rfl rfl (by omega) ?_
         refine gM trivial (.inr rfl) rfl rfl rfl ?_
         refine rg_nil nofun ?_
         exact lp_next (m:=idm) ⟨j + 1,(by omega),(all_step ha (by first|exact placeOk_1 (by assumption)|exact placeOk_2 (by assumption) (by assumption)|exact placeOk_5 (by assumption)|exact placeOk_6 (by assumption) (by assumption))),rfl,rfl⟩ (by omega) (le_mk rfl ⟨⟨rfl,rfl⟩,⟨rfl,rfl⟩,trivial⟩ ⟨kFlat (rSp_flat o.h) rfl id rfl,kFlat (rSp_flat o.d) rfl id rfl,kCells rfl rfl id rfl,trivial⟩ rfl (fun _ _=>rfl))
      ·skip
       have n38:=unF c38
       refine gO ⟨_,_,rfl,rfl,c38⟩ rfl rfl ?_
       refine gO ⟨_,_,rfl,rfl,c38⟩ rfl rfl ?_
       refine gO ⟨_,_,rfl,rfl,c38⟩ rfl rfl ?_
       refine gO ⟨_,_,rfl,rfl,c38⟩ rfl rfl ?_
       refine gO ⟨_,_,rfl,rfl,c38⟩ rfl rfl ?_
       refine gO ⟨_,_,rfl,rfl,c38⟩ rfl rfl ?_
       refine gO ⟨_,_,rfl,rfl,trivial⟩ rfl rfl ?_
       refine gO ⟨_,_,rfl,rfl,trivial⟩ rfl rfl ?_
       refine gO ⟨_,_,rfl,rfl,trivial⟩ rfl rfl ?_
       refine gO ⟨_,_,rfl,rfl,trivial⟩ rfl rfl ?_
       refine gO ⟨_,_,rfl,rfl,c38⟩ rfl rfl ?_
       refine gPF trivial rfl rfl c38 rfl rfl rfl ?_
       refine rg_nil nofun ?_
       refine cF rfl rfl ?_
       refine vc_skip ?_
       refine vc_region hm ?_
       refine gM trivial (.inl rfl) rfl rfl rfl ?_
       refine gA trivial rfl rfl rfl rfl rfl rfl (by omega) ?_
       refine gM trivial (.inr rfl) rfl rfl rfl ?_
       refine rg_nil nofun ?_
       exact lp_next (m:=idm) ⟨j + 1,(by omega),(all_step ha (by first|exact placeOk_1 (by assumption)|exact placeOk_2 (by assumption) (by assumption)|exact placeOk_5 (by assumption)|exact placeOk_6 (by assumption) (by assumption))),rfl,rfl⟩ (by omega) (le_mk rfl ⟨⟨rfl,rfl⟩,⟨rfl,rfl⟩,trivial⟩ ⟨kFlat (rSp_flat o.h) rfl id rfl,kFlat (rSp_flat o.d) rfl id rfl,kCells rfl rfl id rfl,trivial⟩ rfl (fun _ _=>rfl))
     ·skip
      have p30:=of_decide_eq_false c30
      refine vc_exit ?_
      refine vc_seq ?_
      refine vc_region hm ?_
      refine gM trivial (.inr rfl) rfl rfl rfl ?_
      refine rg_nil nofun ?_
      refine vc_ret ?_
      exact ⟨idm,ends0 (.inr rfl) rfl (eqB (ownOk_6 (j:=j) (by assumption) (by assumption) (by assumption) (by assumption) hj (by omega) ha)) rfl rfl rfl⟩
theorem impl_OwnOk_c {o:Ow} (ht:o.t.size≤1048576) (hh:o.h.length≤1048576) (hd:o.d.length≤1048576):FDoes Try.prog 19 [.agg #[.string o.t,.slice (some ⟨0,0,none⟩) o.h.length 0,.slice (some ⟨1,0,none⟩) o.d.length 0]] (hp [(0,false,one ⟨rSp o.h,38,0⟩),(1,false,one ⟨rSp o.d,38,0⟩)]) { v:=.bool (ownOk o),rd:=[0,1] }:=by
 have hm:Try.prog.follows .mixedOrders=true:=by kernel_rfl
 have hd_:∀ x_ ∈ ([(0,false,one ⟨rSp o.h,38,0⟩),(1,false,one ⟨rSp o.d,38,0⟩)]:List (Nat × Bool × Fam)),∀ k_ y_,x_.2.2 k_=some y_→DetB (lt 2) y_:=by
  intro x_ hx k_ y_ e
  simp only [List.mem_cons,List.not_mem_nil,or_false] at hx
  rcases hx with rfl|rfl
  ·exact det_row (rSp_flat o.h) e
  ·exact det_row (rSp_flat o.d) e
 refine fn_exact (u0:=2) Try.func19 rfl rfl (gets rfl rfl rfl hd_ rfl) ?_
 clear hd_
 refine vc_seq ?_
 refine vc_region hm ?_
 refine gB (u':=3) trivial rfl rfl rfl rfl rfl rfl rfl rfl ?_
 refine gM trivial (.inr rfl) rfl rfl rfl ?_
 refine rg_nil nofun ?_
 refine vc_seq ?_
 refine vc_seq ?_
 refine vc_region hm ?_
 refine gF trivial rfl rfl rfl rfl rfl ?_
 refine gL trivial rfl rfl rfl rfl rfl rfl rfl rfl ?_
 refine gC0 [] (impl_TextOk_c (s:=o.t) (by omega)) trivial rfl rfl rfl rfl (by trivial) rfl rfl rfl rfl rfl ?_
 refine gN trivial rfl rfl rfl rfl ?_
 refine gM trivial (.inl rfl) rfl rfl rfl ?_
 refine gI2 (d:=10) rfl (fun c10=>?_) (fun c10=>?_)
 ·skip
  have n10:=unT c10
  refine gO ⟨_,_,rfl,rfl,c10⟩ rfl rfl ?_
  refine gO ⟨_,_,rfl,rfl,c10⟩ rfl rfl ?_
  refine gO ⟨_,_,rfl,rfl,c10⟩ rfl rfl ?_
  refine gO ⟨_,_,rfl,rfl,c10⟩ rfl rfl ?_
  refine gPT trivial rfl rfl c10 rfl rfl rfl ?_
  refine gM trivial (.inl rfl) rfl rfl rfl ?_
  refine gO ⟨_,_,rfl,rfl,rfl⟩ rfl rfl ?_
  refine gO ⟨_,_,rfl,rfl,rfl⟩ rfl rfl ?_
  refine gO ⟨_,_,rfl,rfl,rfl⟩ rfl rfl ?_
  refine gO ⟨_,_,rfl,rfl,rfl⟩ rfl rfl ?_
  refine gPT trivial rfl rfl rfl rfl rfl rfl ?_
  refine gM trivial (.inl rfl) rfl rfl rfl ?_
  refine gO ⟨_,_,rfl,rfl,rfl⟩ rfl rfl ?_
  refine gO ⟨_,_,rfl,rfl,rfl⟩ rfl rfl ?_
  refine gO ⟨_,_,rfl,rfl,rfl⟩ rfl rfl ?_
  refine gO ⟨_,_,rfl,rfl,rfl⟩ rfl rfl ?_
  refine gPT trivial rfl rfl rfl rfl rfl rfl ?_
  refine rg_nil nofun ?_
  refine cT rfl rfl ?_
  refine vc_seq ?_
  refine vc_region hm ?_
  refine gM trivial (.inr rfl) rfl rfl rfl ?_
  refine rg_nil nofun ?_
  refine vc_ret ?_
  exact ⟨idm,ends0 (.inr rfl) rfl (eqB (by first|exact ownOk_1 (by assumption)|exact ownOk_2 (by assumption)|exact ownOk_3 (by assumption)|exact ownOk_4 (by assumption))) rfl rfl rfl⟩
 ·skip
  have n10:=unF c10
  refine gF ⟨_,_,rfl,rfl,c10⟩ rfl rfl rfl rfl rfl ?_
  refine gL ⟨_,_,rfl,rfl,c10⟩ rfl rfl rfl rfl rfl rfl rfl rfl ?_
  refine gKT ⟨_,_,rfl,rfl,c10⟩ rfl rfl rfl rfl rfl ?_
  refine gI ⟨_,_,rfl,rfl,c10⟩ rfl rfl rfl rfl rfl rfl ?_
  refine gPF trivial rfl rfl c10 rfl rfl rfl ?_
  refine gM trivial (.inl rfl) rfl rfl rfl ?_
  refine gI2 (d:=16) rfl (fun c16=>?_) (fun c16=>?_)
  ·skip
   have p16:=bne_iff_ne.1 c16
   refine gO ⟨_,_,rfl,rfl,c16⟩ rfl rfl ?_
   refine gO ⟨_,_,rfl,rfl,c16⟩ rfl rfl ?_
   refine gO ⟨_,_,rfl,rfl,c16⟩ rfl rfl ?_
   refine gO ⟨_,_,rfl,rfl,c16⟩ rfl rfl ?_
   refine gPT trivial rfl rfl c16 rfl rfl rfl ?_
   refine gM trivial (.inl rfl) rfl rfl rfl ?_
   refine gO ⟨_,_,rfl,rfl,rfl⟩ rfl rfl ?_
   refine gO ⟨_,_,rfl,rfl,rfl⟩ rfl rfl ?_
   refine gO ⟨_,_,rfl,rfl,rfl⟩ rfl rfl ?_
   refine gO ⟨_,_,rfl,rfl,rfl⟩ rfl rfl ?_
   refine gPT trivial rfl rfl rfl rfl rfl rfl ?_
   refine rg_nil nofun ?_
   refine cT rfl rfl ?_
   refine vc_seq ?_
   refine vc_region hm ?_
   refine gM trivial (.inr rfl) rfl rfl rfl ?_
   refine rg_nil nofun ?_
   refine vc_ret ?_
   exact ⟨idm,ends0 (.inr rfl) rfl (eqB (by first|exact ownOk_1 (by assumption)|exact ownOk_2 (by assumption)|exact ownOk_3 (by assumption)|exact ownOk_4 (by assumption))) rfl rfl rfl⟩
  ·skip
   have p16:=bne_eq_false_iff_eq.1 c16
   refine gF ⟨_,_,rfl,rfl,c16⟩ rfl rfl rfl rfl rfl ?_
   refine gL ⟨_,_,rfl,rfl,c16⟩ rfl rfl rfl rfl rfl rfl rfl rfl ?_
   refine gC0 [0] (impl_SpansOk_c (l:=o.h) hh) ⟨_,_,rfl,rfl,c16⟩ rfl rfl rfl rfl ⟨rFlat (rSp_flat o.h) rfl (.inl rfl) rfl,trivial⟩ rfl rfl rfl rfl rfl ?_
   refine gN ⟨_,_,rfl,rfl,c16⟩ rfl rfl rfl rfl ?_
   refine gPF trivial rfl rfl c16 rfl rfl rfl ?_
   refine gM trivial (.inl rfl) rfl rfl rfl ?_
   refine gI2 (d:=22) rfl (fun c22=>?_) (fun c22=>?_)
   ·skip
    have n22:=unT c22
    refine gO ⟨_,_,rfl,rfl,c22⟩ rfl rfl ?_
    refine gO ⟨_,_,rfl,rfl,c22⟩ rfl rfl ?_
    refine gO ⟨_,_,rfl,rfl,c22⟩ rfl rfl ?_
    refine gO ⟨_,_,rfl,rfl,c22⟩ rfl rfl ?_
    refine gPT trivial rfl rfl c22 rfl rfl rfl ?_
    refine rg_nil nofun ?_
    refine cT rfl rfl ?_
    refine vc_seq ?_
    refine vc_region hm ?_
    refine gM trivial (.inr rfl) rfl rfl rfl ?_
    refine rg_nil nofun ?_
    refine vc_ret ?_
    exact ⟨idm,ends0 (.inr rfl) rfl (eqB (by first|exact ownOk_1 (by assumption)|exact ownOk_2 (by assumption)|exact ownOk_3 (by assumption)|exact ownOk_4 (by assumption))) rfl rfl rfl⟩
   ·skip
    have n22:=unF c22
    refine gF ⟨_,_,rfl,rfl,c22⟩ rfl rfl rfl rfl rfl ?_
    refine gL ⟨_,_,rfl,rfl,c22⟩ rfl rfl rfl rfl rfl rfl rfl rfl ?_
    refine gC0 [1] (impl_SpansOk_c (l:=o.d) hd) ⟨_,_,rfl,rfl,c22⟩ rfl rfl rfl rfl ⟨rFlat (rSp_flat o.d) rfl (.inl rfl) rfl,trivial⟩ rfl rfl rfl rfl rfl ?_
    refine gN ⟨_,_,rfl,rfl,c22⟩ rfl rfl rfl rfl ?_
    refine gPF trivial rfl rfl c22 rfl rfl rfl ?_
    refine rg_nil nofun ?_
    refine cI rfl (fun c27=>?_) (fun c27=>?_)
    ·skip
     have n27:=unT c27
     refine vc_seq ?_
     refine vc_region hm ?_
     refine gM trivial (.inr rfl) rfl rfl rfl ?_
     refine rg_nil nofun ?_
     refine vc_ret ?_
     exact ⟨idm,ends0 (.inr rfl) rfl (eqB (by first|exact ownOk_1 (by assumption)|exact ownOk_2 (by assumption)|exact ownOk_3 (by assumption)|exact ownOk_4 (by assumption))) rfl rfl rfl⟩
    ·skip
     have n27:=unF c27
     refine vc_skip ?_
     refine vc_seq ?_
     refine vc_region hm ?_
     refine gF trivial rfl rfl rfl rfl rfl ?_
     refine gL trivial rfl rfl rfl rfl rfl rfl rfl rfl ?_
     refine gC0 [0] (of_c (l:=o.h) (inB_of (by assumption)) (by have:=spansOk_len (l:=o.h) (by assumption);omega)) trivial rfl rfl rfl rfl ⟨rFlat (rSp_flat o.h) rfl (.inl rfl) rfl,trivial⟩ rfl rfl (vPl_flat _) rfl rfl ?_
     refine gF trivial rfl rfl rfl rfl rfl ?_
     refine gL trivial rfl rfl rfl rfl rfl rfl rfl rfl ?_
     refine gC0 [1] (of_c (l:=o.d) (inB_of (by assumption)) (by have:=spansOk_len (l:=o.d) (by assumption);omega)) trivial rfl rfl rfl rfl ⟨rFlat (rSp_flat o.d) rfl (.inl rfl) rfl,trivial⟩ rfl rfl (vPl_flat _) rfl rfl ?_
     refine gZ (u':=4) trivial rfl rfl rfl rfl rfl rfl rfl (show cellsL _=plL (fun _=>false) from rfl) ?_
     refine gZ (u':=5) trivial rfl rfl rfl rfl rfl rfl rfl (show cellsL _=plL (fun _=>false) from rfl) ?_
     refine gT trivial rfl rfl rfl rfl rfl rfl rfl rfl rfl rfl zPl pPl ?_
     refine gT trivial rfl rfl rfl rfl rfl rfl rfl rfl rfl rfl zPl pPl ?_
     refine rg_nil (fun _=>by kernel_rfl) ?_
     refine vc_seq ?_
     refine vc_seq ?_
     refine vc_region hm ?_
     refine gM trivial (.inl rfl) rfl rfl rfl ?_
     refine rg_nil nofun ?_
     refine vc_block ?_
     refine vc_loop' (fun n_ S_=>∃ (j:Nat),j≤48∧(List.range j).all (placeOk o)=true∧n_=48 - j∧S_=⟨5,[(1,.pointer (some ⟨2,0,none⟩)),(3,.pointer (some ⟨3,0,none⟩)),(4,.pointer (some ⟨4,0,none⟩)),(34,.int .i64 j)],[(0,false,one ⟨rSp o.h,38,0⟩),(1,false,one ⟨rSp o.d,38,0⟩),(2,true,one ⟨[.string o.t,.slice (some ⟨0,0,none⟩) o.h.length 0,.slice (some ⟨1,0,none⟩) o.d.length 0],29,3⟩),(3,true,one ⟨plL (ofP o.h),67,48⟩),(4,true,one ⟨plL (ofP o.d),67,48⟩)]⟩) (m0:=idm) ⟨0,Nat.zero_le _,rfl,rfl,rfl⟩ (le_mk rfl ⟨⟨rfl,rfl⟩,⟨rfl,rfl⟩,⟨rfl,rfl⟩,⟨rfl,rfl⟩,trivial⟩ ⟨kFlat (rSp_flat o.h) rfl id rfl,kFlat (rSp_flat o.d) rfl id rfl,kCells rfl rfl id rfl,kFlat (plL_flat _) rfl id rfl,kFlat (plL_flat _) rfl id rfl,trivial⟩ rfl (fun _ _=>rfl)) ?_
     rintro n_ S_ ⟨j,hj,ha,rfl,rfl⟩
     refine vc_seq ?_
     refine vc_region hm ?_
     refine gI trivial rfl rfl rfl rfl rfl rfl ?_
     refine rg_nil nofun ?_
     refine vc_seq ?_
     refine cI rfl (fun c35=>?_) (fun c35=>?_)
     ·skip
      have p35:=of_decide_eq_true c35
      refine vc_skip ?_
      refine vc_seq ?_
      refine vc_block ?_
      refine vc_seq ?_
      refine vc_region hm ?_
      refine gM trivial (.inl rfl) rfl rfl rfl ?_
      refine gM trivial (.inr rfl) rfl rfl rfl ?_
      refine rg_nil nofun ?_
      refine vc_seq ?_
      refine vc_region hm ?_
      refine gM trivial (.inl rfl) rfl rfl rfl ?_
      refine gXA trivial rfl rfl rfl rfl rfl rfl rfl (by omega) (by omega) ?_
      refine gL trivial rfl rfl rfl rfl rfl rfl rfl (lPl (by omega) (by omega)) ?_
      refine gN trivial rfl rfl rfl rfl ?_
      refine gM trivial (.inl rfl) rfl rfl rfl ?_
      refine gI2 (d:=41) rfl (fun c41=>?_) (fun c41=>?_)
      ·skip
       have n41:=unT c41
       refine gF ⟨_,_,rfl,rfl,c41⟩ rfl rfl rfl rfl rfl ?_
       refine gL ⟨_,_,rfl,rfl,c41⟩ rfl rfl rfl rfl rfl rfl rfl rfl ?_
       refine gM ⟨_,_,rfl,rfl,c41⟩ (.inl rfl) rfl rfl rfl ?_
       refine gY ⟨_,_,rfl,rfl,c41⟩ rfl rfl rfl rfl rfl rfl (by omega) (by omega) ?_
       refine gI ⟨_,_,rfl,rfl,c41⟩ rfl rfl rfl rfl rfl rfl ?_
       refine gM ⟨_,_,rfl,rfl,c41⟩ (.inl rfl) rfl rfl rfl ?_
       refine gI2 (d:=47) rfl (fun c47=>?_) (fun c47=>?_)
       ·skip
        have p47:=bne_iff_ne.1 c47
        refine gO ⟨_,_,rfl,rfl,c47⟩ rfl rfl ?_
        refine gO ⟨_,_,rfl,rfl,c47⟩ rfl rfl ?_
        refine gO ⟨_,_,rfl,rfl,c47⟩ rfl rfl ?_
        refine gPT ⟨_,_,rfl,rfl,c41⟩ rfl rfl c47 rfl rfl rfl ?_
        refine gPT trivial rfl rfl c41 rfl rfl rfl ?_
        refine rg_nil nofun ?_
        refine cT rfl rfl ?_
        refine vc_seq ?_
        refine vc_region hm ?_
        refine gM trivial (.inr rfl) rfl rfl rfl ?_
        refine rg_nil nofun ?_
        refine vc_ret ?_
        exact ⟨idm,ends0 (.inr rfl) rfl (eqB (ownOk_5 (j:=j) (by omega) (by first|exact placeOk_3 (by assumption) (by assumption)|exact placeOk_4 (by assumption) (by assumption)|exact placeOk_7 (by assumption) (by assumption)|exact placeOk_8 (by assumption) (by assumption)))) rfl rfl rfl⟩
       ·skip
        have p47:=bne_eq_false_iff_eq.1 c47
        refine gM ⟨_,_,rfl,rfl,c47⟩ (.inl rfl) rfl rfl rfl ?_
        refine gXA ⟨_,_,rfl,rfl,c47⟩ rfl rfl rfl rfl rfl rfl rfl (by omega) (by omega) ?_
        refine gL ⟨_,_,rfl,rfl,c47⟩ rfl rfl rfl rfl rfl rfl rfl (lPl (by omega) (by omega)) ?_
        refine gPF ⟨_,_,rfl,rfl,c41⟩ rfl rfl c47 rfl rfl rfl ?_
        refine gPT trivial rfl rfl c41 rfl rfl rfl ?_
        refine rg_nil nofun ?_
        refine cI rfl (fun c52=>?_) (fun c52=>?_)
        ·skip
         refine vc_seq ?_
         refine vc_region hm ?_
         refine gM trivial (.inr rfl) rfl rfl rfl ?_
         refine rg_nil nofun ?_
         refine vc_ret ?_
         exact ⟨idm,ends0 (.inr rfl) rfl (eqB (ownOk_5 (j:=j) (by omega) (by first|exact placeOk_3 (by assumption) (by assumption)|exact placeOk_4 (by assumption) (by assumption)|exact placeOk_7 (by assumption) (by assumption)|exact placeOk_8 (by assumption) (by assumption)))) rfl rfl rfl⟩
        ·skip
         refine vc_skip ?_
         refine vc_region hm ?_
         refine gA trivial rfl rfl rfl rfl rfl rfl (by omega) ?_
         refine gM trivial (.inl rfl) rfl rfl rfl ?_
         refine rg_nil nofun ?_
         exact lp_next (m:=idm) ⟨j + 1,(by omega),(all_step ha (by first|exact placeOk_1 (by assumption)|exact placeOk_2 (by assumption) (by assumption)|exact placeOk_5 (by assumption)|exact placeOk_6 (by assumption) (by assumption))),rfl,rfl⟩ (by omega) (le_mk rfl ⟨⟨rfl,rfl⟩,⟨rfl,rfl⟩,⟨rfl,rfl⟩,⟨rfl,rfl⟩,trivial⟩ ⟨kFlat (rSp_flat o.h) rfl id rfl,kFlat (rSp_flat o.d) rfl id rfl,kCells rfl rfl id rfl,kFlat (plL_flat _) rfl id rfl,kFlat (plL_flat _) rfl id rfl,trivial⟩ rfl (fun _ _=>rfl))
      ·skip
       have n41:=unF c41
       refine gO ⟨_,_,rfl,rfl,c41⟩ rfl rfl ?_
       refine gO ⟨_,_,rfl,rfl,c41⟩ rfl rfl ?_
       refine gO ⟨_,_,rfl,rfl,c41⟩ rfl rfl ?_
       refine gO ⟨_,_,rfl,rfl,c41⟩ rfl rfl ?_
       refine gO ⟨_,_,rfl,rfl,c41⟩ rfl rfl ?_
       refine gO ⟨_,_,rfl,rfl,c41⟩ rfl rfl ?_
       refine gO ⟨_,_,rfl,rfl,trivial⟩ rfl rfl ?_
       refine gO ⟨_,_,rfl,rfl,trivial⟩ rfl rfl ?_
       refine gO ⟨_,_,rfl,rfl,trivial⟩ rfl rfl ?_
       refine gO ⟨_,_,rfl,rfl,c41⟩ rfl rfl ?_
       refine gPF trivial rfl rfl c41 rfl rfl rfl ?_
       refine rg_nil nofun ?_
       refine cF rfl rfl ?_
       refine vc_skip ?_
       refine vc_region hm ?_
       refine gA trivial rfl rfl rfl rfl rfl rfl (by omega) ?_
       refine gM trivial (.inl rfl) rfl rfl rfl ?_
       refine rg_nil nofun ?_
       exact lp_next (m:=idm) ⟨j + 1,(by omega),(all_step ha (by first|exact placeOk_1 (by assumption)|exact placeOk_2 (by assumption) (by assumption)|exact placeOk_5 (by assumption)|exact placeOk_6 (by assumption) (by assumption))),rfl,rfl⟩ (by omega) (le_mk rfl ⟨⟨rfl,rfl⟩,⟨rfl,rfl⟩,⟨rfl,rfl⟩,⟨rfl,rfl⟩,trivial⟩ ⟨kFlat (rSp_flat o.h) rfl id rfl,kFlat (rSp_flat o.d) rfl id rfl,kCells rfl rfl id rfl,kFlat (plL_flat _) rfl id rfl,kFlat (plL_flat _) rfl id rfl,trivial⟩ rfl (fun _ _=>rfl))
     ·skip
      have p35:=of_decide_eq_false c35
      refine vc_exit ?_
      refine vc_seq ?_
      refine vc_region hm ?_
      refine gM trivial (.inr rfl) rfl rfl rfl ?_
      refine rg_nil nofun ?_
      refine vc_ret ?_
      exact ⟨idm,ends0 (.inr rfl) rfl (eqB (ownOk_6 (j:=j) (by assumption) (by assumption) (by assumption) (by assumption) hj (by omega) ha)) rfl rfl rfl⟩
theorem put_c (f g:Nat→Bool) (b:Bool):FDoes Try.prog 66 [vPl f,vPl g,.bool b] (hp []) { v:=vPl (putP f g b) }:=by
 have hm:Try.prog.follows .mixedOrders=true:=by kernel_rfl
 have hd_:∀ x ∈ ([]:List (Nat × Bool × Fam)),∀ k y,x.2.2 k=some y→DetB (lt 0) y:=fun x_ hx=>(by cases hx)
 refine fn_exact (u0:=0) Try.func66 rfl rfl (gets rfl rfl rfl hd_ rfl) ?_
 clear hd_
 refine vc_seq ?_
 refine vc_region hm ?_
 refine gB (u':=1) trivial rfl rfl rfl rfl rfl rfl rfl (show cellsL _=plL f from rfl) ?_
 refine gB (u':=2) trivial rfl rfl rfl rfl rfl rfl rfl (show cellsL _=plL g from rfl) ?_
 refine gZ (u':=3) trivial rfl rfl rfl rfl rfl rfl rfl (show cellsL _=plL (fun _=>false) from rfl) ?_
 refine rg_nil nofun ?_
 refine vc_seq ?_
 refine vc_seq ?_
 refine vc_region hm ?_
 refine gL trivial rfl rfl rfl rfl rfl rfl rfl wPl ?_
 refine gM trivial (.inl rfl) rfl rfl rfl ?_
 refine rg_nil nofun ?_
 refine vc_block ?_
 refine vc_loop' (fun n_ S_=>∃ (j:Nat),j≤48∧n_=48 - j∧S_=⟨3,[(2,.bool b),(3,.pointer (some ⟨0,0,none⟩)),(6,.pointer (some ⟨2,0,none⟩)),(9,vPl g),(10,.int .i64 j)],[(0,true,one ⟨plL (putTo f g b j),67,48⟩),(2,true,one ⟨plL (fun _=>false),67,48⟩)]⟩) (m0:=idm) ⟨0,Nat.zero_le _,rfl,rfl⟩ (le_mk rfl ⟨⟨rfl,rfl⟩,⟨rfl,rfl⟩,⟨rfl,rfl⟩,⟨rfl,rfl⟩,⟨rfl,rfl⟩,trivial⟩ ⟨kFlat (plL_flat _) (eqH put_0) id rfl,kFlat (plL_flat _) rfl id rfl,trivial⟩ rfl (fun _ _=>rfl)) ?_
 rintro n_ S_ ⟨j,hj,rfl,rfl⟩
 refine vc_seq ?_
 refine vc_region hm ?_
 refine gI trivial rfl rfl rfl rfl rfl rfl ?_
 refine rg_nil nofun ?_
 refine vc_seq ?_
 refine cI rfl (fun c11=>?_) (fun c11=>?_)
 ·skip
  have p11:=of_decide_eq_true c11
  refine vc_skip ?_
  refine vc_seq ?_
  refine vc_block ?_
  refine vc_seq ?_
  refine vc_region hm ?_
  refine gM trivial (.inl rfl) rfl rfl rfl ?_
  refine gIV trivial rfl rfl rfl rfl rfl rfl rfl rfl (by omega) (by omega) ?_
  refine gM trivial (.inr rfl) rfl rfl rfl ?_
  refine gM trivial (.inr rfl) rfl rfl rfl ?_
  refine rg_nil nofun ?_
  refine vc_seq ?_
  refine vc_region hm ?_
  refine gM trivial (.inl rfl) rfl rfl rfl ?_
  refine rg_nil nofun ?_
  refine cI rfl (fun c14=>?_) (fun c14=>?_)
  ·skip
   refine vc_region hm ?_
   refine gM trivial (.inl rfl) rfl rfl rfl ?_
   refine gM trivial (.inl rfl) rfl rfl rfl ?_
   refine gXA trivial rfl rfl rfl rfl rfl rfl rfl (by omega) (by omega) ?_
   refine gT trivial rfl rfl rfl rfl rfl rfl rfl rfl rfl rfl (kPl (by omega) (by omega)) (sPl (by omega) (by omega)) ?_
   refine rg_nil nofun ?_
   refine vc_region hm ?_
   refine gA trivial rfl rfl rfl rfl rfl rfl (by omega) ?_
   refine gM trivial (.inl rfl) rfl rfl rfl ?_
   refine rg_nil nofun ?_
   exact lp_next (m:=idm) ⟨j + 1,(by omega),rfl,rfl⟩ (by omega) (le_mk rfl ⟨⟨rfl,rfl⟩,⟨rfl,rfl⟩,⟨rfl,rfl⟩,⟨rfl,rfl⟩,⟨rfl,rfl⟩,trivial⟩ ⟨kFlat (plL_flat _) (eqH (by first|exact put_s1 c14|exact put_s2 c14)) id rfl,kFlat (plL_flat _) rfl id rfl,trivial⟩ rfl (fun _ _=>rfl))
  ·skip
   refine vc_skip ?_
   refine vc_region hm ?_
   refine gA trivial rfl rfl rfl rfl rfl rfl (by omega) ?_
   refine gM trivial (.inl rfl) rfl rfl rfl ?_
   refine rg_nil nofun ?_
   exact lp_next (m:=idm) ⟨j + 1,(by omega),rfl,rfl⟩ (by omega) (le_mk rfl ⟨⟨rfl,rfl⟩,⟨rfl,rfl⟩,⟨rfl,rfl⟩,⟨rfl,rfl⟩,⟨rfl,rfl⟩,trivial⟩ ⟨kFlat (plL_flat _) (eqH (by first|exact put_s1 c14|exact put_s2 c14)) id rfl,kFlat (plL_flat _) rfl id rfl,trivial⟩ rfl (fun _ _=>rfl))
 ·skip
  have p11:=of_decide_eq_false c11
  refine vc_exit ?_
  refine vc_seq ?_
  refine vc_region hm ?_
  refine gL trivial rfl rfl rfl rfl rfl rfl rfl wPl ?_
  refine gT trivial rfl rfl rfl rfl rfl rfl rfl rfl rfl rfl zPl pPl ?_
  refine rg_nil nofun ?_
  refine vc_ret ?_
  exact ⟨idm,endsF (.inr rfl) (.cell rfl rfl rfl rfl wPl .nil) (put_48 (by omega)) (vPl_flat _) rfl⟩
theorem spec_l1Of_c (f:Nat→Bool):FDoes Try.prog 86 [.slice (some ⟨0,0,none⟩) 48 0] (hp [(0,false,one ⟨plL f,4,0⟩)]) (mkE (.slice (some ⟨1,0,none⟩) (l1ofP f).length 0) [0] [] [(1,⟨rSp (l1ofP f),38,2⟩)]):=by
 have hm:Try.prog.follows .mixedOrders=true:=by kernel_rfl
 have hd_:∀ x_ ∈ ([(0,false,one ⟨plL f,4,0⟩)]:List (Nat × Bool × Fam)),∀ k_ y_,x_.2.2 k_=some y_→DetB (lt 1) y_:=by
  intro x_ hx k_ y_ e
  simp only [List.mem_cons,List.not_mem_nil,or_false] at hx
  subst hx
  exact det_row (plL_flat f) e
 refine fn_exact (u0:=1) Try.func86 rfl rfl (gets rfl rfl rfl hd_ rfl) ?_
 clear hd_
 refine vc_seq ?_
 refine vc_region hm ?_
 refine gM trivial (.inr rfl) rfl rfl rfl ?_
 refine rg_nil nofun ?_
 refine vc_seq ?_
 refine vc_region hm ?_
 refine gR (u':=2) trivial rfl rfl rfl rfl rfl rfl rfl rfl rfl rfl rfl rfl rfl rfl ?_
 refine gM trivial (.inr rfl) rfl rfl rfl ?_
 refine rg_nil nofun ?_
 refine vc_seq ?_
 refine vc_seq ?_
 refine vc_region hm ?_
 refine gM trivial (.inr rfl) rfl rfl rfl ?_
 refine rg_nil nofun ?_
 refine vc_block ?_
 refine vc_loop' (fun n_ S_=>∃ (j:Nat),j≤48∧(l1ofL f j).length≤j∧n_=48 - j∧S_=⟨2,[(0,.slice (some ⟨0,0,none⟩) 48 0),(3,.slice (some ⟨1,0,none⟩) (l1ofL f j).length 0),(4,.int .i64 j)],[(0,false,one ⟨plL f,4,0⟩),(1,true,one ⟨rSp (l1ofL f j),38,2⟩)]⟩) (m0:=idm) ⟨0,Nat.zero_le _,Nat.le_refl _,rfl,rfl⟩ (le_mk rfl ⟨⟨rfl,rfl⟩,⟨rfl,rfl⟩,⟨rfl,rfl⟩,trivial⟩ ⟨kFlat (plL_flat f) rfl id rfl,kFlat (rSp_flat _) rfl id rfl,trivial⟩ rfl (rig_of rfl)) ?_
 rintro n_ S_ ⟨j,hj,hq,rfl,rfl⟩
 refine vc_seq ?_
 refine vc_seq ?_
 refine vc_region hm ?_
 refine gM trivial (.inl rfl) rfl rfl rfl ?_
 refine gM trivial (.inl rfl) rfl rfl rfl ?_
 refine gK trivial rfl rfl rfl rfl rfl rfl (fun h=>absurd h plL_ne) ?_
 refine gI trivial rfl rfl rfl rfl rfl rfl ?_
 refine rg_nil nofun ?_
 refine cI rfl (fun c10=>?_) (fun c10=>?_)
 ·skip
  have p10:=of_decide_eq_true c10
  refine vc_skip ?_
  refine vc_seq ?_
  refine vc_block ?_
  refine vc_seq ?_
  refine vc_region hm ?_
  refine gM trivial (.inl rfl) rfl rfl rfl ?_
  refine gK trivial rfl rfl rfl rfl rfl rfl rSp_nil ?_
  refine gM trivial (.inr rfl) rfl rfl rfl ?_
  refine rg_nil nofun ?_
  refine vc_block ?_
  refine vc_seq ?_
  refine vc_region hm ?_
  refine gM trivial (.inl rfl) rfl rfl rfl ?_
  refine gM trivial (.inl rfl) rfl rfl rfl ?_
  refine gX trivial rfl rfl rfl rfl rfl rfl rfl rfl (by omega) (by omega) (fun _=>plL_ne) ?_
  refine gL trivial rfl rfl rfl rfl rfl rfl rfl (lPl (by omega) (by omega)) ?_
  refine gN trivial rfl rfl rfl rfl ?_
  refine gM trivial (.inr rfl) rfl rfl rfl ?_
  refine rg_nil nofun ?_
  refine cI rfl (fun c22=>?_) (fun c22=>?_)
  ·skip
   have n22:=unT c22
   refine vc_exit ?_
   refine vc_region hm ?_
   refine gM trivial (.inl rfl) rfl rfl rfl ?_
   refine gA trivial rfl rfl rfl rfl rfl rfl (by omega) ?_
   refine gM trivial (.inr rfl) rfl rfl rfl ?_
   refine rg_nil nofun ?_
   exact lp_next (m:=idm) ⟨j + 1,(by omega),(ofL_len _),rfl,rfl⟩ (by omega) (le_mk rfl ⟨⟨rfl,rfl⟩,⟨eqSl (by rw [(ofL_a (f:=f) (j:=j) n22)];skip),rfl⟩,⟨rfl,rfl⟩,trivial⟩ ⟨kFlat (plL_flat f) rfl id rfl,kFlat (rSp_flat _) (eqH (congrArg _ (ofL_a (f:=f) (j:=j) n22).symm)) id rfl,trivial⟩ rfl (rig_of rfl))
  ·skip
   have n22:=unF c22
   refine vc_seq ?_
   refine vc_region hm ?_
   refine gM trivial (.inl rfl) rfl rfl rfl ?_
   refine gI trivial rfl rfl rfl rfl rfl rfl ?_
   refine gM trivial (.inl rfl) rfl rfl rfl ?_
   refine gI2 (d:=31) rfl (fun c31=>?_) (fun c31=>?_)
   ·skip
    have p31:=of_decide_eq_true c31
    refine gM ⟨_,_,rfl,rfl,c31⟩ (.inl rfl) rfl rfl rfl ?_
    refine gM ⟨_,_,rfl,rfl,c31⟩ (.inl rfl) rfl rfl rfl ?_
    refine gA ⟨_,_,rfl,rfl,c31⟩ rfl rfl rfl rfl rfl rfl (by omega) ?_
    refine gX ⟨_,_,rfl,rfl,c31⟩ rfl rfl rfl rfl rfl rfl rfl rfl (by omega) (by omega) rSp_ne ?_
    refine gF ⟨_,_,rfl,rfl,c31⟩ rfl rfl rfl rfl rfl ?_
    refine gL ⟨_,_,rfl,rfl,c31⟩ rfl rfl rfl rfl rfl rfl rfl (lSp1 (by omega) (by omega)) ?_
    refine gM ⟨_,_,rfl,rfl,c31⟩ (.inl rfl) rfl rfl rfl ?_
    refine gI ⟨_,_,rfl,rfl,c31⟩ rfl rfl rfl rfl rfl rfl ?_
    refine gPT trivial rfl rfl c31 rfl rfl rfl ?_
    refine gM trivial (.inr rfl) rfl rfl rfl ?_
    refine rg_nil nofun ?_
    refine cI rfl (fun c28=>?_) (fun c28=>?_)
    ·skip
     have p28:=eq_of_beq c28
     refine vc_region hm ?_
     refine gM trivial (.inl rfl) rfl rfl rfl ?_
     refine gM trivial (.inl rfl) rfl rfl rfl ?_
     refine gA trivial rfl rfl rfl rfl rfl rfl (by omega) ?_
     refine gM trivial (.inl rfl) rfl rfl rfl ?_
     refine gA trivial rfl rfl rfl rfl rfl rfl (by omega) ?_
     refine gX trivial rfl rfl rfl rfl rfl rfl rfl rfl (by omega) (by omega) rSp_ne ?_
     refine gF trivial rfl rfl rfl rfl rfl ?_
     refine gT trivial rfl rfl rfl rfl rfl rfl rfl rfl rfl rfl (kSp1 (by omega) (by omega)) (sSp1 (by omega) (by omega)) ?_
     refine rg_nil nofun ?_
     refine vc_region hm ?_
     refine gM trivial (.inl rfl) rfl rfl rfl ?_
     refine gA trivial rfl rfl rfl rfl rfl rfl (by omega) ?_
     refine gM trivial (.inr rfl) rfl rfl rfl ?_
     refine rg_nil nofun ?_
     exact lp_next (m:=idm) ⟨j + 1,(by omega),(ofL_len _),rfl,rfl⟩ (by omega) (le_mk rfl ⟨⟨rfl,rfl⟩,⟨eqSl (by rw [(ofL_b (f:=f) (j:=j) n22 p31 p28)];simp),rfl⟩,⟨rfl,rfl⟩,trivial⟩ ⟨kFlat (plL_flat f) rfl id rfl,kFlat (rSp_flat _) (eqH (congrArg _ (ofL_b (f:=f) (j:=j) n22 p31 p28).symm)) id rfl,trivial⟩ rfl (rig_of rfl))
    ·skip
     have p28:=ne_of_beq_false c28
     refine vc_region hm ?_
     refine gM trivial (.inl rfl) rfl rfl rfl ?_
     refine gM trivial (.inl rfl) rfl rfl rfl ?_
     refine gM trivial (.inl rfl) rfl rfl rfl ?_
     refine gA trivial rfl rfl rfl rfl rfl rfl (by omega) ?_
     refine gU trivial rfl rfl rfl rfl rfl rfl rfl rfl ?_
     refine gR (u':=3) trivial rfl rfl rfl rfl rfl rfl rfl rfl rfl rfl rfl rfl rfl rfl ?_
     refine gAp (u':=4) trivial rfl rfl rfl rfl rfl rfl rfl rfl rfl rfl rfl rfl (by rw [rowL_len (n:=2) (fun _=>rfl)]) (Nat.le_refl _) rfl (show ((l1ofL f j).length + 1) * (16 + 1)≤140737488355328 by omega) (row_snoc (enc:=eSp) (x:=⟨(j:Int),(j:Int) + 1⟩)) rfl ?_
     refine gM trivial (.inr rfl) rfl rfl rfl ?_
     refine rg_nil nofun ?_
     refine vc_region hm ?_
     refine gM trivial (.inl rfl) rfl rfl rfl ?_
     refine gA trivial rfl rfl rfl rfl rfl rfl (by omega) ?_
     refine gM trivial (.inr rfl) rfl rfl rfl ?_
     refine rg_nil nofun ?_
     exact lp_next (m:=(mp [0,3])) ⟨j + 1,(by omega),(ofL_len _),rfl,rfl⟩ (by omega) (le_mk rfl ⟨⟨rfl,rfl⟩,⟨eqSl (by rw [(ofL_c (f:=f) (j:=j) n22 (fun hc=>by first|exact p31 hc.1|exact p28 hc.2))];simp),rfl⟩,⟨rfl,rfl⟩,trivial⟩ ⟨kFlat (plL_flat f) rfl id rfl,kFlat (rSp_flat _) (eqH (congrArg _ (ofL_c (f:=f) (j:=j) n22 (fun hc=>by first|exact p31 hc.1|exact p28 hc.2)).symm)) id rfl,trivial⟩ rfl (rig_of rfl))
   ·skip
    have p31:=of_decide_eq_false c31
    refine gO ⟨_,_,rfl,rfl,c31⟩ rfl rfl ?_
    refine gO ⟨_,_,rfl,rfl,c31⟩ rfl rfl ?_
    refine gO ⟨_,_,rfl,rfl,c31⟩ rfl rfl ?_
    refine gO ⟨_,_,rfl,rfl,c31⟩ rfl rfl ?_
    refine gO ⟨_,_,rfl,rfl,c31⟩ rfl rfl ?_
    refine gO ⟨_,_,rfl,rfl,c31⟩ rfl rfl ?_
    refine gO ⟨_,_,rfl,rfl,c31⟩ rfl rfl ?_
    refine gO ⟨_,_,rfl,rfl,c31⟩ rfl rfl ?_
    refine gPF trivial rfl rfl c31 rfl rfl rfl ?_
    refine gM trivial (.inr rfl) rfl rfl rfl ?_
    refine rg_nil nofun ?_
    refine cF rfl rfl ?_
    refine vc_region hm ?_
    refine gM trivial (.inl rfl) rfl rfl rfl ?_
    refine gM trivial (.inl rfl) rfl rfl rfl ?_
    refine gM trivial (.inl rfl) rfl rfl rfl ?_
    refine gA trivial rfl rfl rfl rfl rfl rfl (by omega) ?_
    refine gU trivial rfl rfl rfl rfl rfl rfl rfl rfl ?_
    refine gR (u':=3) trivial rfl rfl rfl rfl rfl rfl rfl rfl rfl rfl rfl rfl rfl rfl ?_
    refine gAp (u':=4) trivial rfl rfl rfl rfl rfl rfl rfl rfl rfl rfl rfl rfl (by rw [rowL_len (n:=2) (fun _=>rfl)]) (Nat.le_refl _) rfl (show ((l1ofL f j).length + 1) * (16 + 1)≤140737488355328 by omega) (row_snoc (enc:=eSp) (x:=⟨(j:Int),(j:Int) + 1⟩)) rfl ?_
    refine gM trivial (.inr rfl) rfl rfl rfl ?_
    refine rg_nil nofun ?_
    refine vc_region hm ?_
    refine gM trivial (.inl rfl) rfl rfl rfl ?_
    refine gA trivial rfl rfl rfl rfl rfl rfl (by omega) ?_
    refine gM trivial (.inr rfl) rfl rfl rfl ?_
    refine rg_nil nofun ?_
    exact lp_next (m:=(mp [0,3])) ⟨j + 1,(by omega),(ofL_len _),rfl,rfl⟩ (by omega) (le_mk rfl ⟨⟨rfl,rfl⟩,⟨eqSl (by rw [(ofL_c (f:=f) (j:=j) n22 (fun hc=>by first|exact p31 hc.1|exact p28 hc.2))];simp),rfl⟩,⟨rfl,rfl⟩,trivial⟩ ⟨kFlat (plL_flat f) rfl id rfl,kFlat (rSp_flat _) (eqH (congrArg _ (ofL_c (f:=f) (j:=j) n22 (fun hc=>by first|exact p31 hc.1|exact p28 hc.2)).symm)) id rfl,trivial⟩ rfl (rig_of rfl))
 ·skip
  have p10:=of_decide_eq_false c10
  refine vc_exit ?_
  refine vc_seq ?_
  refine vc_region hm ?_
  refine gM trivial (.inl rfl) rfl rfl rfl ?_
  refine gM trivial (.inr rfl) rfl rfl rfl ?_
  refine rg_nil nofun ?_
  refine vc_ret ?_
  obtain rfl:j=48:=by omega
  exact ⟨_,endsG [(1,1,⟨rSp (l1ofP f),38,2⟩)] (.inr rfl) (.tmp rfl rfl .nil) rfl rfl trivial ⟨⟨rfl,rSp_flat _⟩,trivial⟩ rfl⟩
theorem spec_l1Places_c {l:List Sp} (hn:l.length≤1048576):FDoes Try.prog 85 [.slice (some ⟨0,0,none⟩) l.length 0] (hp [(0,false,one ⟨rSp l,38,0⟩)]) (mkE (.slice (some ⟨1,0,none⟩) 48 0) [0] [] [(1,⟨plL (fun x=>l1In l (x:Int)),4,1⟩)]):=by
 have hm:Try.prog.follows .mixedOrders=true:=by kernel_rfl
 have hd_:∀ x_ ∈ ([(0,false,one ⟨rSp l,38,0⟩)]:List (Nat × Bool × Fam)),∀ k_ y_,x_.2.2 k_=some y_→DetB (lt 1) y_:=by
  intro x_ hx k_ y_ e
  simp only [List.mem_cons,List.not_mem_nil,or_false] at hx
  subst hx
  exact det_row (rSp_flat l) e
 refine fn_exact (u0:=1) Try.func85 rfl rfl (gets rfl rfl rfl hd_ rfl) ?_
 clear hd_
 refine vc_seq ?_
 refine vc_region hm ?_
 refine gM trivial (.inr rfl) rfl rfl rfl ?_
 refine rg_nil nofun ?_
 refine vc_seq ?_
 refine vc_region hm ?_
 refine gR (u':=2) trivial rfl rfl rfl rfl rfl rfl rfl rfl rfl rfl rfl rfl rfl rfl ?_
 refine gM trivial (.inr rfl) rfl rfl rfl ?_
 refine rg_nil nofun ?_
 refine vc_seq ?_
 refine vc_seq ?_
 refine vc_region hm ?_
 refine gM trivial (.inr rfl) rfl rfl rfl ?_
 refine rg_nil nofun ?_
 refine vc_block ?_
 refine vc_loop' (fun n_ S_=>∃ (j:Nat),j≤48∧n_=48 - j∧S_=⟨2,[(0,.slice (some ⟨0,0,none⟩) l.length 0),(3,.slice (some ⟨1,0,none⟩) j 0),(4,.int .i64 j)],[(0,false,one ⟨rSp l,38,0⟩),(1,true,one ⟨plT (fun x=>l1In l (x:Int)) j,4,1⟩)]⟩) (m0:=idm) ⟨0,Nat.zero_le _,rfl,rfl⟩ (le_mk rfl ⟨⟨rfl,rfl⟩,⟨rfl,rfl⟩,⟨rfl,rfl⟩,trivial⟩ ⟨kFlat (rSp_flat l) rfl id rfl,kFlat (plT_flat _ _) rfl id rfl,trivial⟩ rfl (rig_of rfl)) ?_
 rintro n_ S_ ⟨j,hj,rfl,rfl⟩
 refine vc_seq ?_
 refine vc_seq ?_
 refine vc_region hm ?_
 refine gM trivial (.inl rfl) rfl rfl rfl ?_
 refine gI trivial rfl rfl rfl rfl rfl rfl ?_
 refine rg_nil nofun ?_
 refine cI rfl (fun c7=>?_) (fun c7=>?_)
 ·skip
  have p7:=of_decide_eq_true c7
  refine vc_skip ?_
  refine vc_seq ?_
  refine vc_block ?_
  refine vc_region hm ?_
  refine gM trivial (.inl rfl) rfl rfl rfl ?_
  refine gM trivial (.inl rfl) rfl rfl rfl ?_
  refine gM trivial (.inl rfl) rfl rfl rfl ?_
  refine gC0 [0] (spec_l1In_c (l:=l) (a:=j) hn) trivial rfl rfl rfl rfl ⟨rFlat (rSp_flat l) rfl (.inl rfl) rfl,trivial⟩ rfl rfl rfl rfl rfl ?_
  refine gR (u':=3) trivial rfl rfl rfl rfl rfl rfl rfl rfl rfl rfl rfl rfl rfl rfl ?_
  refine gAp (u':=4) trivial rfl rfl rfl rfl rfl rfl rfl rfl rfl rfl rfl rfl plT_len (Nat.le_refl _) rfl (show (j + 1) * (1 + 1)≤140737488355328 by omega) (plT_snoc (f:=(fun x=>l1In l (x:Int)))) rfl ?_
  refine gM trivial (.inr rfl) rfl rfl rfl ?_
  refine rg_nil nofun ?_
  refine vc_region hm ?_
  refine gM trivial (.inl rfl) rfl rfl rfl ?_
  refine gA trivial rfl rfl rfl rfl rfl rfl (by omega) ?_
  refine gM trivial (.inr rfl) rfl rfl rfl ?_
  refine rg_nil nofun ?_
  exact lp_next (m:=(mp [0,3])) ⟨j + 1,(by omega),rfl,rfl⟩ (by omega) (le_mk rfl ⟨⟨rfl,rfl⟩,⟨rfl,rfl⟩,⟨rfl,rfl⟩,trivial⟩ ⟨kFlat (rSp_flat l) rfl id rfl,kFlat (plT_flat _ _) rfl id rfl,trivial⟩ rfl (rig_of rfl))
 ·skip
  have p7:=of_decide_eq_false c7
  refine vc_exit ?_
  refine vc_seq ?_
  refine vc_region hm ?_
  refine gM trivial (.inl rfl) rfl rfl rfl ?_
  refine gM trivial (.inr rfl) rfl rfl rfl ?_
  refine rg_nil nofun ?_
  refine vc_ret ?_
  obtain rfl:j=48:=by omega
  exact ⟨_,endsG [(1,1,⟨plL (fun x=>l1In l (x:Int)),4,1⟩)] (.inr rfl) (.tmp rfl rfl .nil) rfl rfl trivial ⟨⟨rfl,plL_flat _⟩,trivial⟩ rfl⟩
theorem spec_l1Add_c {l:List Sp} {s:Sp} (hn:l.length≤1048576) (h0:0≤s.lo∧s.lo<s.hi∧s.hi≤48):FDoes Try.prog 69 [.slice (some ⟨0,0,none⟩) l.length 0,vSp s] (hp [(0,false,one ⟨rSp l,38,0⟩)]) (mkE (.slice (some ⟨1,0,none⟩) (l1ofP (putP (ofP l) (ofP [s]) true)).length 0) [0] [] [(1,⟨rSp (l1ofP (putP (ofP l) (ofP [s]) true)),38,2⟩)]):=by
 have hm:Try.prog.follows .mixedOrders=true:=by kernel_rfl
 have hd_:∀ x_ ∈ ([(0,false,one ⟨rSp l,38,0⟩)]:List (Nat × Bool × Fam)),∀ k_ y_,x_.2.2 k_=some y_→DetB (lt 1) y_:=by
  intro x_ hx k_ y_ e
  simp only [List.mem_cons,List.not_mem_nil,or_false] at hx
  subst hx
  exact det_row (rSp_flat l) e
 refine fn_exact (u0:=1) Try.func69 rfl rfl (gets rfl rfl rfl hd_ rfl) ?_
 clear hd_
 refine vc_seq ?_
 refine vc_region hm ?_
 refine gB (u':=2) trivial rfl rfl rfl rfl rfl rfl rfl rfl ?_
 refine gM trivial (.inr rfl) rfl rfl rfl ?_
 refine rg_nil nofun ?_
 refine vc_seq ?_
 refine vc_region hm ?_
 refine gM trivial (.inl rfl) rfl rfl rfl ?_
 refine gCn 3 [0,2] (spec_l1Places_c (l:=l) hn) trivial rfl rfl rfl rfl ⟨rFlat (rSp_flat l) rfl (.inl rfl) rfl,trivial⟩ ⟨plL_flat _,trivial⟩ rfl rfl rfl rfl ?_
 refine gM trivial (.inr rfl) rfl rfl rfl ?_
 refine rg_nil nofun ?_
 refine vc_seq ?_
 refine vc_seq ?_
 refine vc_region hm ?_
 refine gF trivial rfl rfl rfl rfl rfl ?_
 refine gL trivial rfl rfl rfl rfl rfl rfl rfl rfl ?_
 refine gM trivial (.inr rfl) rfl rfl rfl ?_
 refine rg_nil nofun ?_
 refine vc_block ?_
 refine vc_loop' (fun n_ S_=>∃ (i:Int),s.lo≤i∧i≤s.hi∧n_=(s.hi - i).toNat∧S_=⟨3,[(0,.slice (some ⟨0,0,none⟩) l.length 0),(3,.pointer (some ⟨1,0,none⟩)),(5,.slice (some ⟨2,0,none⟩) 48 0),(6,.int .i64 i)],[(0,false,one ⟨rSp l,38,0⟩),(1,true,one ⟨[.int .i64 s.lo,.int .i64 s.hi],38,2⟩),(2,true,one ⟨plL (fillTo (fun x=>l1In l (x:Int)) s.lo i s.hi true),4,1⟩)]⟩) (m0:=idm) ⟨s.lo,Int.le_refl _,(by omega),rfl,rfl⟩ (le_mk rfl ⟨⟨rfl,rfl⟩,⟨rfl,rfl⟩,⟨rfl,rfl⟩,⟨rfl,rfl⟩,trivial⟩ ⟨kFlat (rSp_flat l) rfl id rfl,kCells rfl rfl id rfl,kFlat (plL_flat _) (eqH fillTo_start) id rfl,trivial⟩ rfl (fun _ _=>rfl)) ?_
 rintro n_ S_ ⟨i,hi,hj,rfl,rfl⟩
 refine vc_seq ?_
 refine vc_seq ?_
 refine vc_region hm ?_
 refine gM trivial (.inl rfl) rfl rfl rfl ?_
 refine gF trivial rfl rfl rfl rfl rfl ?_
 refine gL trivial rfl rfl rfl rfl rfl rfl rfl rfl ?_
 refine gI trivial rfl rfl rfl rfl rfl rfl ?_
 refine rg_nil nofun ?_
 refine cI rfl (fun c14=>?_) (fun c14=>?_)
 ·skip
  have p14:=of_decide_eq_true c14
  refine vc_skip ?_
  refine vc_seq ?_
  refine vc_block ?_
  refine vc_region hm ?_
  refine gM trivial (.inl rfl) rfl rfl rfl ?_
  refine gM trivial (.inl rfl) rfl rfl rfl ?_
  refine gX trivial rfl rfl rfl rfl rfl rfl rfl rfl (by omega) (by omega) (fun _=>plL_ne) ?_
  refine gT trivial rfl rfl rfl rfl rfl rfl rfl rfl rfl rfl (kPl (by omega) (by omega)) (sPl (by omega) (by omega)) ?_
  refine rg_nil nofun ?_
  refine vc_region hm ?_
  refine gM trivial (.inl rfl) rfl rfl rfl ?_
  refine gA trivial rfl rfl rfl rfl rfl rfl (by omega) ?_
  refine gM trivial (.inr rfl) rfl rfl rfl ?_
  refine rg_nil nofun ?_
  exact lp_next (m:=idm) ⟨i + 1,(by omega),(by omega),rfl,rfl⟩ (by omega) (le_mk rfl ⟨⟨rfl,rfl⟩,⟨rfl,rfl⟩,⟨rfl,rfl⟩,⟨rfl,rfl⟩,trivial⟩ ⟨kFlat (rSp_flat l) rfl id rfl,kCells rfl rfl id rfl,kFlat (plL_flat _) (eqH (fillTo_step (by omega) hi p14)) id rfl,trivial⟩ rfl (fun _ _=>rfl))
 ·skip
  have p14:=of_decide_eq_false c14
  refine vc_exit ?_
  refine vc_seq ?_
  refine vc_region hm ?_
  refine gM trivial (.inl rfl) rfl rfl rfl ?_
  refine gCn 4 [2,3] (spec_l1Of_c (fillTo (fun x=>l1In l (x:Int)) s.lo i s.hi true)) trivial rfl rfl rfl rfl ⟨rFlat (plL_flat _) rfl (.inl rfl) rfl,trivial⟩ ⟨rSp_flat _,trivial⟩ rfl rfl rfl rfl ?_
  refine gM trivial (.inr rfl) rfl rfl rfl ?_
  refine rg_nil nofun ?_
  refine vc_ret ?_
  rw [cut_end p14 h0.1]
  exact ⟨_,endsG [(1,3,⟨rSp (l1ofP (putP (ofP l) (ofP [s]) true)),38,2⟩)] (.inr rfl) (.tmp rfl rfl .nil) rfl rfl trivial ⟨⟨rfl,rSp_flat _⟩,trivial⟩ rfl⟩
theorem spans_c (f:Nat→Bool):FDoes Try.prog 88 [vPl f] (hp []) (mkE (.slice (some ⟨0,0,none⟩) (l1ofP f).length 0) [] [] [(0,⟨rSp (l1ofP f),38,2⟩)]):=by
 have hm:Try.prog.follows .mixedOrders=true:=by kernel_rfl
 have hd_:∀ x ∈ ([]:List (Nat × Bool × Fam)),∀ k y,x.2.2 k=some y→DetB (lt 0) y:=fun x_ hx=>(by cases hx)
 refine fn_exact (u0:=0) Try.func88 rfl rfl (gets rfl rfl rfl hd_ rfl) ?_
 clear hd_
 refine vc_seq ?_
 refine vc_region hm ?_
 refine gB (u':=1) trivial rfl rfl rfl rfl rfl rfl rfl (show cellsL _=plL f from rfl) ?_
 refine gM trivial (.inr rfl) rfl rfl rfl ?_
 refine rg_nil nofun ?_
 refine vc_seq ?_
 refine vc_region hm ?_
 refine gR (u':=2) trivial rfl rfl rfl rfl rfl rfl rfl rfl rfl rfl rfl rfl rfl rfl ?_
 refine gM trivial (.inr rfl) rfl rfl rfl ?_
 refine rg_nil nofun ?_
 refine vc_seq ?_
 refine vc_seq ?_
 refine vc_region hm ?_
 refine gM trivial (.inr rfl) rfl rfl rfl ?_
 refine rg_nil nofun ?_
 refine vc_block ?_
 refine vc_loop' (fun n_ S_=>∃ (i:Nat),i≤49∧(∀ s ∈ l1ofL f (min i 48),s.hi<(i:Int))∧n_=49 - i∧S_=⟨2,[(1,.pointer (some ⟨0,0,none⟩)),(3,.slice (some ⟨1,0,none⟩) (l1ofL f (min i 48)).length 0),(4,.int .i64 i)],[(0,true,one ⟨plL f,67,48⟩),(1,true,one ⟨rSp (l1ofL f (min i 48)),38,2⟩)]⟩) (m0:=idm) ⟨0,Nat.zero_le _,(fun s hs=>by cases hs),rfl,rfl⟩ (le_mk rfl ⟨⟨rfl,rfl⟩,⟨rfl,rfl⟩,⟨rfl,rfl⟩,trivial⟩ ⟨kFlat (plL_flat f) rfl id rfl,kFlat (rSp_flat _) rfl id rfl,trivial⟩ rfl (rig_of rfl)) ?_
 rintro n_ S_ ⟨i,hi,hl,rfl,rfl⟩
 refine vc_seq ?_
 refine vc_seq ?_
 refine vc_region hm ?_
 refine gM trivial (.inl rfl) rfl rfl rfl ?_
 refine gI trivial rfl rfl rfl rfl rfl rfl ?_
 refine rg_nil nofun ?_
 refine cI rfl (fun c8=>?_) (fun c8=>?_)
 ·skip
  have p8:=of_decide_eq_true c8
  refine vc_skip ?_
  refine vc_seq ?_
  refine vc_block ?_
  refine vc_seq ?_
  refine vc_seq ?_
  refine vc_region hm ?_
  refine gM trivial (.inl rfl) rfl rfl rfl ?_
  refine gXA trivial rfl rfl rfl rfl rfl rfl rfl (by omega) (by omega) ?_
  refine gL trivial rfl rfl rfl rfl rfl rfl rfl (lPl (by omega) (by omega)) ?_
  refine gN trivial rfl rfl rfl rfl ?_
  refine rg_nil nofun ?_
  refine cI rfl (fun c14=>?_) (fun c14=>?_)
  ·skip
   have n14:=unT c14
   refine vc_exit ?_
   refine vc_region hm ?_
   refine gM trivial (.inl rfl) rfl rfl rfl ?_
   refine gA trivial rfl rfl rfl rfl rfl rfl (by omega) ?_
   refine gM trivial (.inr rfl) rfl rfl rfl ?_
   refine rg_nil nofun ?_
   exact lp_next (m:=idm) ⟨i + 1,(by omega),(fun s hs=>by rw [spans_skip (f:=f) p8 n14] at hs;have:=hl s hs;omega),rfl,rfl⟩ (by omega) (le_mk rfl ⟨⟨rfl,rfl⟩,⟨eqSl (by rw [(spans_skip (f:=f) p8 n14)]),rfl⟩,⟨rfl,rfl⟩,trivial⟩ ⟨kFlat (plL_flat f) rfl id rfl,kFlat (rSp_flat _) (eqH (congrArg _ (spans_skip (f:=f) p8 n14).symm)) id rfl,trivial⟩ rfl (rig_of rfl))
  ·skip
   have n14:=unF c14
   refine vc_skip ?_
   refine vc_seq ?_
   refine vc_region hm ?_
   refine gM trivial (.inl rfl) rfl rfl rfl ?_
   refine gM trivial (.inr rfl) rfl rfl rfl ?_
   refine rg_nil nofun ?_
   refine vc_seq ?_
   refine vc_block ?_
   refine vc_loop' (fun n_ S_=>∃ (i2:Nat),i≤i2∧i2≤48∧(∀ x,i≤x→x<i2→f x=true)∧n_=48 - i2∧S_=⟨2,[(1,.pointer (some ⟨0,0,none⟩)),(3,.slice (some ⟨1,0,none⟩) (l1ofL f (min i 48)).length 0),(4,.int .i64 i2),(5,.int .i64 i)],[(0,true,one ⟨plL f,67,48⟩),(1,true,one ⟨rSp (l1ofL f (min i 48)),38,2⟩)]⟩) (m0:=idm) ⟨i,Nat.le_refl _,(by omega),(fun x h0 h1=>by omega),rfl,rfl⟩ (le_mk rfl ⟨⟨rfl,rfl⟩,⟨rfl,rfl⟩,⟨rfl,rfl⟩,⟨rfl,rfl⟩,trivial⟩ ⟨kFlat (plL_flat f) rfl id rfl,kFlat (rSp_flat _) rfl id rfl,trivial⟩ rfl (fun _ _=>rfl)) ?_
   rintro n_ S_ ⟨i2,h2,h3,hr,rfl,rfl⟩
   refine vc_seq ?_
   refine vc_seq ?_
   refine vc_region hm ?_
   refine gM trivial (.inl rfl) rfl rfl rfl ?_
   refine gI trivial rfl rfl rfl rfl rfl rfl ?_
   refine gM trivial (.inl rfl) rfl rfl rfl ?_
   refine gI2 (d:=18) rfl (fun c18=>?_) (fun c18=>?_)
   ·skip
    have p18:=of_decide_eq_true c18
    refine gM ⟨_,_,rfl,rfl,c18⟩ (.inl rfl) rfl rfl rfl ?_
    refine gXA ⟨_,_,rfl,rfl,c18⟩ rfl rfl rfl rfl rfl rfl rfl (by omega) (by omega) ?_
    refine gL ⟨_,_,rfl,rfl,c18⟩ rfl rfl rfl rfl rfl rfl rfl (lPl (by omega) (by omega)) ?_
    refine gPT trivial rfl rfl c18 rfl rfl rfl ?_
    refine rg_nil nofun ?_
    refine cI rfl (fun c22=>?_) (fun c22=>?_)
    ·skip
     refine vc_skip ?_
     refine vc_block ?_
     refine vc_region hm ?_
     refine gM trivial (.inl rfl) rfl rfl rfl ?_
     refine gA trivial rfl rfl rfl rfl rfl rfl (by omega) ?_
     refine gM trivial (.inr rfl) rfl rfl rfl ?_
     refine rg_nil nofun ?_
     exact lp_next (m:=idm) ⟨i2 + 1,(by omega),(by omega),(spans_more hr c22),rfl,rfl⟩ (by omega) (le_mk rfl ⟨⟨rfl,rfl⟩,⟨rfl,rfl⟩,⟨rfl,rfl⟩,⟨rfl,rfl⟩,trivial⟩ ⟨kFlat (plL_flat f) rfl id rfl,kFlat (rSp_flat _) rfl id rfl,trivial⟩ rfl (fun _ _=>rfl))
    ·skip
     refine vc_exit ?_
     refine vc_region hm ?_
     refine gM trivial (.inl rfl) rfl rfl rfl ?_
     refine gM trivial (.inl rfl) rfl rfl rfl ?_
     refine gM trivial (.inl rfl) rfl rfl rfl ?_
     refine gU trivial rfl rfl rfl rfl rfl rfl rfl rfl ?_
     refine gR (u':=3) trivial rfl rfl rfl rfl rfl rfl rfl rfl rfl rfl rfl rfl rfl rfl ?_
     refine gAp (u':=4) trivial rfl rfl rfl rfl rfl rfl rfl rfl rfl rfl rfl rfl (by rw [rowL_len (n:=2) (fun _=>rfl)]) (Nat.le_refl _) rfl (show ((l1ofL f (min i 48)).length + 1) * (16 + 1)≤140737488355328 by have:=ofL_len (f:=f) (min i 48);omega) (row_snoc (enc:=eSp) (x:=⟨(i:Int),(i2:Int)⟩)) rfl ?_
     refine gM trivial (.inr rfl) rfl rfl rfl ?_
     refine rg_nil nofun ?_
     refine vc_region hm ?_
     refine gM trivial (.inl rfl) rfl rfl rfl ?_
     refine gA trivial rfl rfl rfl rfl rfl rfl (by omega) ?_
     refine gM trivial (.inr rfl) rfl rfl rfl ?_
     refine rg_nil nofun ?_
     have hlt:i<i2:=by
      rcases Nat.eq_or_lt_of_le h2 with e|e
      ·subst e;first|exact absurd n14 (by rw [show f (i:Int).toNat=false from c22];decide)|omega
      ·exact e
     have er:=spans_run (f:=f) (by omega) h3 hr hlt (.inr c22) hl
     exact lp_next (m:=(mp [0,3])) ⟨i2 + 1,(by omega),(spans_hi hlt er hl),rfl,rfl⟩ (by omega) (le_mk rfl ⟨⟨rfl,rfl⟩,⟨eqSl (by rw [er];simp),rfl⟩,⟨rfl,rfl⟩,trivial⟩ ⟨kFlat (plL_flat f) rfl id rfl,kFlat (rSp_flat _) (eqH (congrArg _ er.symm)) id rfl,trivial⟩ rfl (rig_of rfl))
   ·skip
    have p18:=of_decide_eq_false c18
    refine gO ⟨_,_,rfl,rfl,c18⟩ rfl rfl ?_
    refine gO ⟨_,_,rfl,rfl,c18⟩ rfl rfl ?_
    refine gO ⟨_,_,rfl,rfl,c18⟩ rfl rfl ?_
    refine gPF trivial rfl rfl c18 rfl rfl rfl ?_
    refine rg_nil nofun ?_
    refine cF rfl rfl ?_
    refine vc_exit ?_
    refine vc_region hm ?_
    refine gM trivial (.inl rfl) rfl rfl rfl ?_
    refine gM trivial (.inl rfl) rfl rfl rfl ?_
    refine gM trivial (.inl rfl) rfl rfl rfl ?_
    refine gU trivial rfl rfl rfl rfl rfl rfl rfl rfl ?_
    refine gR (u':=3) trivial rfl rfl rfl rfl rfl rfl rfl rfl rfl rfl rfl rfl rfl rfl ?_
    refine gAp (u':=4) trivial rfl rfl rfl rfl rfl rfl rfl rfl rfl rfl rfl rfl (by rw [rowL_len (n:=2) (fun _=>rfl)]) (Nat.le_refl _) rfl (show ((l1ofL f (min i 48)).length + 1) * (16 + 1)≤140737488355328 by have:=ofL_len (f:=f) (min i 48);omega) (row_snoc (enc:=eSp) (x:=⟨(i:Int),(i2:Int)⟩)) rfl ?_
    refine gM trivial (.inr rfl) rfl rfl rfl ?_
    refine rg_nil nofun ?_
    refine vc_region hm ?_
    refine gM trivial (.inl rfl) rfl rfl rfl ?_
    refine gA trivial rfl rfl rfl rfl rfl rfl (by omega) ?_
    refine gM trivial (.inr rfl) rfl rfl rfl ?_
    refine rg_nil nofun ?_
    have hlt:i<i2:=by
     rcases Nat.eq_or_lt_of_le h2 with e|e
     ·subst e;first|exact absurd n14 (by rw [show f (i:Int).toNat=false from c22];decide)|omega
     ·exact e
    have er:=spans_run (f:=f) (by omega) h3 hr hlt (.inl (by omega)) hl
    exact lp_next (m:=(mp [0,3])) ⟨i2 + 1,(by omega),(spans_hi hlt er hl),rfl,rfl⟩ (by omega) (le_mk rfl ⟨⟨rfl,rfl⟩,⟨eqSl (by rw [er];simp),rfl⟩,⟨rfl,rfl⟩,trivial⟩ ⟨kFlat (plL_flat f) rfl id rfl,kFlat (rSp_flat _) (eqH (congrArg _ er.symm)) id rfl,trivial⟩ rfl (rig_of rfl))
 ·skip
  have p8:=of_decide_eq_false c8
  refine vc_exit ?_
  refine vc_seq ?_
  refine vc_region hm ?_
  refine gM trivial (.inl rfl) rfl rfl rfl ?_
  refine gM trivial (.inr rfl) rfl rfl rfl ?_
  refine rg_nil nofun ?_
  refine vc_ret ?_
  rw [show min i 48=48 by omega]
  exact ⟨_,endsG [(0,1,⟨rSp (l1ofP f),38,2⟩)] (.inr rfl) (.tmp rfl rfl .nil) rfl rfl trivial ⟨⟨rfl,rSp_flat _⟩,trivial⟩ rfl⟩
theorem clone_c {l:List Sp} (hn:l.length≤1048576):FDoes Try.prog 101 [.slice (some ⟨0,0,none⟩) l.length 0] (hp [(0,false,one ⟨rSp l,38,102⟩)]) (mkE (.slice (some ⟨1,0,none⟩) l.length 0) [0] [] [(1,⟨rSp l,38,2⟩)]):=by
 have hm:Try.prog.follows .mixedOrders=true:=by kernel_rfl
 have hd_:∀ x_ ∈ ([(0,false,one ⟨rSp l,38,102⟩)]:List (Nat × Bool × Fam)),∀ k_ y_,x_.2.2 k_=some y_→DetB (lt 1) y_:=by
  intro x_ hx k_ y_ e
  simp only [List.mem_cons,List.not_mem_nil,or_false] at hx
  subst hx
  exact det_row (rSp_flat l) e
 refine fn_exact (u0:=1) Try.func101 rfl rfl (gets rfl rfl rfl hd_ rfl) ?_
 clear hd_
 refine vc_seq ?_
 refine vc_region hm ?_
 refine gM trivial (.inr rfl) rfl rfl rfl ?_
 refine rg_nil nofun ?_
 refine vc_seq ?_
 refine vc_seq ?_
 refine vc_region hm ?_
 refine gM trivial (.inl rfl) rfl rfl rfl ?_
 refine gNilF trivial rfl rfl rfl rfl rfl rfl rfl rfl ?_
 refine rg_nil nofun ?_
 refine cF rfl rfl ?_
 refine vc_skip ?_
 refine vc_seq ?_
 refine vc_region hm ?_
 refine gR (u':=2) trivial rfl rfl rfl rfl rfl rfl rfl rfl rfl rfl rfl rfl rfl rfl ?_
 refine gM trivial (.inl rfl) rfl rfl rfl ?_
 refine gAp (u':=3) trivial rfl rfl rfl rfl rfl rfl rfl rfl rfl rfl rfl rfl rfl (cp_len l) (cp_leaf l) (show (0 + l.length) * (16 + 1)≤140737488355328 by omega) (cp_eq l) (Nat.zero_add _) ?_
 refine gM trivial (.inr rfl) rfl rfl rfl ?_
 refine rg_nil nofun ?_
 refine vc_ret ?_
 exact ⟨_,endsG [(1,2,⟨rSp l,38,2⟩)] (.inr rfl) (.tmp rfl rfl .nil) rfl rfl trivial ⟨⟨rfl,rSp_flat _⟩,trivial⟩ rfl⟩
theorem spec_l6Copy_c {o:Ow} (ht:o.t.size≤1048576) (hh:o.h.length≤1048576) (hd:o.d.length≤1048576):FDoes Try.prog 61 [.agg #[.string o.t,.slice (some ⟨0,0,none⟩) o.h.length 0,.slice (some ⟨1,0,none⟩) o.d.length 0]] (hp [(0,false,one ⟨rSp o.h,38,0⟩),(1,false,one ⟨rSp o.d,38,0⟩)]) (mkE (.agg #[.string o.t,.slice (some ⟨2,0,none⟩) o.h.length 0,.slice (some ⟨3,0,none⟩) o.d.length 0]) [0,1] [] [(2,⟨rSp o.h,38,2⟩),(3,⟨rSp o.d,38,2⟩)]):=by
 have hm:Try.prog.follows .mixedOrders=true:=by kernel_rfl
 have hd_:∀ x_ ∈ ([(0,false,one ⟨rSp o.h,38,0⟩),(1,false,one ⟨rSp o.d,38,0⟩)]:List (Nat × Bool × Fam)),∀ k_ y_,x_.2.2 k_=some y_→DetB (lt 2) y_:=by
  intro x_ hx k_ y_ e
  simp only [List.mem_cons,List.not_mem_nil,or_false] at hx
  rcases hx with rfl|rfl
  ·exact det_row (rSp_flat o.h) e
  ·exact det_row (rSp_flat o.d) e
 refine fn_exact (u0:=2) Try.func61 rfl rfl (gets rfl rfl rfl hd_ rfl) ?_
 clear hd_
 refine vc_seq ?_
 refine vc_region hm ?_
 refine gB (u':=3) trivial rfl rfl rfl rfl rfl rfl rfl rfl ?_
 refine gZ (u':=4) trivial rfl rfl rfl rfl rfl rfl rfl rfl ?_
 refine rg_nil nofun ?_
 refine vc_seq ?_
 refine vc_region hm ?_
 refine gF trivial rfl rfl rfl rfl rfl ?_
 refine gL trivial rfl rfl rfl rfl rfl rfl rfl rfl ?_
 refine gR (u':=5) trivial rfl rfl rfl rfl rfl rfl rfl rfl rfl rfl rfl rfl rfl rfl ?_
 refine gF trivial rfl rfl rfl rfl rfl ?_
 refine gL trivial rfl rfl rfl rfl rfl rfl rfl rfl ?_
 refine gAp (u':=6) trivial rfl rfl rfl rfl rfl rfl rfl rfl rfl rfl rfl rfl rfl (cp_len o.h) (cp_leaf o.h) (show (0 + o.h.length) * (16 + 1)≤140737488355328 by omega) (cp_eq o.h) (Nat.zero_add _) ?_
 refine gR (u':=7) trivial rfl rfl rfl rfl rfl rfl rfl rfl rfl rfl rfl rfl rfl rfl ?_
 refine gF trivial rfl rfl rfl rfl rfl ?_
 refine gL trivial rfl rfl rfl rfl rfl rfl rfl rfl ?_
 refine gAp (u':=8) trivial rfl rfl rfl rfl rfl rfl rfl rfl rfl rfl rfl rfl rfl (cp_len o.d) (cp_leaf o.d) (show (0 + o.d.length) * (16 + 1)≤140737488355328 by omega) (cp_eq o.d) (Nat.zero_add _) ?_
 refine gU trivial rfl rfl rfl rfl rfl rfl rfl rfl ?_
 refine gT trivial rfl rfl rfl rfl rfl rfl rfl rfl rfl rfl (Nat.le_of_ble_eq_true rfl) rfl ?_
 refine rg_nil (fun _=>by kernel_rfl) ?_
 refine vc_ret ?_
 exact ⟨_,endsG [(2,5,⟨rSp o.h,38,2⟩),(3,7,⟨rSp o.d,38,2⟩)] (.inr rfl) (.cell rfl rfl rfl rfl rfl .nil) rfl rfl trivial ⟨⟨rfl,rSp_flat _⟩,⟨rfl,rSp_flat _⟩,trivial⟩ rfl⟩
theorem kept_c {o:Ow} (ht:o.t.size≤1048576) (hh:o.h.length≤1048576) (hd:o.d.length≤1048576):FDoes Try.prog 87 [.agg #[.string o.t,.slice (some ⟨0,0,none⟩) o.h.length 0,.slice (some ⟨1,0,none⟩) o.d.length 0]] (hp [(0,false,one ⟨rSp o.h,38,102⟩),(1,false,one ⟨rSp o.d,38,102⟩)]) (mkE (.agg #[.string o.t,.slice (some ⟨2,0,none⟩) o.h.length 0,.slice (some ⟨3,0,none⟩) o.d.length 0]) [0,1] [] [(2,⟨rSp o.h,38,2⟩),(3,⟨rSp o.d,38,2⟩)]):=by
 have hm:Try.prog.follows .mixedOrders=true:=by kernel_rfl
 have hd_:∀ x_ ∈ ([(0,false,one ⟨rSp o.h,38,102⟩),(1,false,one ⟨rSp o.d,38,102⟩)]:List (Nat × Bool × Fam)),∀ k_ y_,x_.2.2 k_=some y_→DetB (lt 2) y_:=by
  intro x_ hx k_ y_ e
  simp only [List.mem_cons,List.not_mem_nil,or_false] at hx
  rcases hx with rfl|rfl
  ·exact det_row (rSp_flat o.h) e
  ·exact det_row (rSp_flat o.d) e
 refine fn_exact (u0:=2) Try.func87 rfl rfl (gets rfl rfl rfl hd_ rfl) ?_
 clear hd_
 refine vc_seq ?_
 refine vc_region hm ?_
 refine gB (u':=3) trivial rfl rfl rfl rfl rfl rfl rfl rfl ?_
 refine gZ (u':=4) trivial rfl rfl rfl rfl rfl rfl rfl rfl ?_
 refine rg_nil nofun ?_
 refine vc_seq ?_
 refine vc_region hm ?_
 refine gF trivial rfl rfl rfl rfl rfl ?_
 refine gL trivial rfl rfl rfl rfl rfl rfl rfl rfl ?_
 refine gF trivial rfl rfl rfl rfl rfl ?_
 refine gL trivial rfl rfl rfl rfl rfl rfl rfl rfl ?_
 refine gCn 5 [0,4] (clone_c (l:=o.h) hh) trivial rfl rfl rfl rfl ⟨rFlat (rSp_flat _) rfl (.inr rfl) rfl,trivial⟩ ⟨rSp_flat _,trivial⟩ rfl rfl rfl rfl ?_
 refine gF trivial rfl rfl rfl rfl rfl ?_
 refine gL trivial rfl rfl rfl rfl rfl rfl rfl rfl ?_
 refine gCn 6 [1,5] (clone_c (l:=o.d) hd) trivial rfl rfl rfl rfl ⟨rFlat (rSp_flat _) rfl (.inr rfl) rfl,trivial⟩ ⟨rSp_flat _,trivial⟩ rfl rfl rfl rfl ?_
 refine gU trivial rfl rfl rfl rfl rfl rfl rfl rfl ?_
 refine gT trivial rfl rfl rfl rfl rfl rfl rfl rfl rfl rfl (Nat.le_of_ble_eq_true rfl) rfl ?_
 refine rg_nil (fun _=>by kernel_rfl) ?_
 refine vc_ret ?_
 exact ⟨_,endsG [(2,4,⟨rSp o.h,38,2⟩),(3,5,⟨rSp o.d,38,2⟩)] (.inr rfl) (.cell rfl rfl rfl rfl rfl .nil) rfl rfl trivial ⟨⟨rfl,rSp_flat _⟩,⟨rfl,rSp_flat _⟩,trivial⟩ rfl⟩
theorem spec_l6Put_c {o x:Ow} (ht:o.t.size≤1048576) (hh:o.h.length≤1048576) (hd:o.d.length≤1048576) (hx1:x.t.size≤1048576) (hx2:x.h.length≤1048576) (hx3:x.d.length≤1048576):FDoes Try.prog 62 [.agg #[.string o.t,.slice (some ⟨0,0,none⟩) o.h.length 0,.slice (some ⟨1,0,none⟩) o.d.length 0],.agg #[.string x.t,.slice (some ⟨2,0,none⟩) x.h.length 0,.slice (some ⟨3,0,none⟩) x.d.length 0]] (hp [(0,false,one ⟨rSp o.h,38,0⟩),(1,false,one ⟨rSp o.d,38,0⟩),(2,false,one ⟨rSp x.h,38,0⟩),(3,false,one ⟨rSp x.d,38,0⟩)]) (mkE (.tuple #[.agg #[.string (putO o x).t,.slice (some ⟨4,0,none⟩) (putO o x).h.length 0,.slice (some ⟨5,0,none⟩) (putO o x).d.length 0],.bool (ownOk x)]) [0,1,2,3] [] [(4,⟨rSp (putO o x).h,38,2⟩),(5,⟨rSp (putO o x).d,38,2⟩)]):=by
 have hm:Try.prog.follows .mixedOrders=true:=by kernel_rfl
 have hd_:∀ x_ ∈ ([(0,false,one ⟨rSp o.h,38,0⟩),(1,false,one ⟨rSp o.d,38,0⟩),(2,false,one ⟨rSp x.h,38,0⟩),(3,false,one ⟨rSp x.d,38,0⟩)]:List (Nat × Bool × Fam)),∀ k_ y_,x_.2.2 k_=some y_→DetB (lt 4) y_:=by
  intro x_ hx k_ y_ e
  simp only [List.mem_cons,List.not_mem_nil,or_false] at hx
  rcases hx with rfl|rfl|rfl|rfl
  ·exact det_row (rSp_flat o.h) e
  ·exact det_row (rSp_flat o.d) e
  ·exact det_row (rSp_flat x.h) e
  ·exact det_row (rSp_flat x.d) e
 refine fn_exact (u0:=4) Try.func62 rfl rfl (gets rfl rfl rfl hd_ rfl) ?_
 clear hd_
 refine vc_seq ?_
 refine vc_region hm ?_
 refine gB (u':=5) trivial rfl rfl rfl rfl rfl rfl rfl rfl ?_
 refine gB (u':=6) trivial rfl rfl rfl rfl rfl rfl rfl rfl ?_
 refine gZ (u':=7) trivial rfl rfl rfl rfl rfl rfl rfl rfl ?_
 refine gM trivial (.inr rfl) rfl rfl rfl ?_
 refine rg_nil nofun ?_
 refine vc_seq ?_
 refine vc_seq ?_
 refine vc_region hm ?_
 refine gL trivial rfl rfl rfl rfl rfl rfl rfl rfl ?_
 refine gC0 [2,3] (spec_OwnOk_c (o:=x) hx1 hx2 hx3) trivial rfl rfl rfl rfl ⟨rFlat (rSp_flat x.h) rfl (.inl rfl) rfl,rFlat (rSp_flat x.d) rfl (.inl rfl) rfl,trivial⟩ rfl rfl rfl rfl rfl ?_
 refine gN trivial rfl rfl rfl rfl ?_
 refine rg_nil nofun ?_
 refine cI rfl (fun c8=>?_) (fun c8=>?_)
 ·skip
  have n8:=unT c8
  refine vc_seq ?_
  refine vc_region hm ?_
  refine gL trivial rfl rfl rfl rfl rfl rfl rfl rfl ?_
  refine gCn 9 [0,1,7,8] (spec_l6Copy_c (o:=o) ht hh hd) trivial rfl rfl rfl rfl ⟨rFlat (rSp_flat o.h) rfl (.inl rfl) rfl,rFlat (rSp_flat o.d) rfl (.inl rfl) rfl,trivial⟩ ⟨rSp_flat _,rSp_flat _,trivial⟩ rfl rfl rfl rfl ?_
  refine gT trivial rfl rfl rfl rfl rfl rfl rfl rfl rfl rfl (Nat.le_of_ble_eq_true rfl) rfl ?_
  refine gM trivial (.inr rfl) rfl rfl rfl ?_
  refine rg_nil nofun ?_
  refine vc_ret ?_
  rw [putO_F n8,n8]
  exact ⟨_,endsG [(4,7,⟨rSp o.h,38,2⟩),(5,8,⟨rSp o.d,38,2⟩)] (.inr rfl) (.cell rfl rfl rfl rfl rfl (.tmp rfl rfl .nil)) rfl rfl trivial ⟨⟨rfl,rSp_flat _⟩,⟨rfl,rSp_flat _⟩,trivial⟩ rfl⟩
 ·skip
  have n8:=unF c8
  refine vc_skip ?_
  refine vc_seq ?_
  refine vc_region hm ?_
  refine gL trivial rfl rfl rfl rfl rfl rfl rfl rfl ?_
  refine gCn 9 [2,3,7,8] (spec_l6Copy_c (o:=x) hx1 hx2 hx3) trivial rfl rfl rfl rfl ⟨rFlat (rSp_flat x.h) rfl (.inl rfl) rfl,rFlat (rSp_flat x.d) rfl (.inl rfl) rfl,trivial⟩ ⟨rSp_flat _,rSp_flat _,trivial⟩ rfl rfl rfl rfl ?_
  refine gT trivial rfl rfl rfl rfl rfl rfl rfl rfl rfl rfl (Nat.le_of_ble_eq_true rfl) rfl ?_
  refine gM trivial (.inr rfl) rfl rfl rfl ?_
  refine rg_nil nofun ?_
  refine vc_ret ?_
  rw [putO_T n8,n8]
  exact ⟨_,endsG [(4,7,⟨rSp x.h,38,2⟩),(5,8,⟨rSp x.d,38,2⟩)] (.inr rfl) (.cell rfl rfl rfl rfl rfl (.tmp rfl rfl .nil)) rfl rfl trivial ⟨⟨rfl,rSp_flat _⟩,⟨rfl,rSp_flat _⟩,trivial⟩ rfl⟩


theorem write1_c {t d:ByteArray} {n:Nat} {a:Int} (f g:Nat→Bool) (hn:n=48) (ht:t.size=48) (hw:mayW a d=true):FDoes Try.prog 80 [.slice (some ⟨0,0,none⟩) n 0,vPl f,vPl g,.pointer (some ⟨1,0,none⟩),.pointer (some ⟨2,0,none⟩)] (hp [(0,true,one ⟨rY (bytesL t),5,101⟩),(1,false,one ⟨[.int .i64 a],3,0⟩),(2,false,one ⟨[.string d],9,0⟩)]) (mkE (.tuple #[vPl (putP f (ofP [partW a d]) true),vPl (putP g (ofP [partW a d]) true)]) [1,2] [(0,⟨rY (fL (writeF t d a)),5,101⟩)] []):=by
 have hm:Try.prog.follows .mixedOrders=true:=by kernel_rfl
 have hd_:∀ x_ ∈ ([(0,true,one ⟨rY (bytesL t),5,101⟩),(1,false,one ⟨[.int .i64 a],3,0⟩),(2,false,one ⟨[.string d],9,0⟩)]:List (Nat × Bool × Fam)),∀ k_ y_,x_.2.2 k_=some y_→DetB (lt 3) y_:=by
  intro x_ hx k_ y_ e
  simp only [List.mem_cons,List.not_mem_nil,or_false] at hx
  rcases hx with rfl|rfl|rfl
  ·exact det_row (rY_flat _) e
  ·exact det_row rfl e
  ·exact det_row rfl e
 have hm':=(mayW_in hw).1
 refine fn_exact (u0:=3) Try.func80 rfl rfl (gets rfl rfl rfl hd_ rfl) ?_
 clear hd_
 refine vc_seq ?_
 refine vc_region hm ?_
 refine gB (u':=4) trivial rfl rfl rfl rfl rfl rfl rfl (show cellsL _=plL f from rfl) ?_
 refine gB (u':=5) trivial rfl rfl rfl rfl rfl rfl rfl (show cellsL _=plL g from rfl) ?_
 refine gZ (u':=6) trivial rfl rfl rfl rfl rfl rfl rfl (show cellsL _=plL (fun _=>false) from rfl) ?_
 refine gZ (u':=7) trivial rfl rfl rfl rfl rfl rfl rfl (show cellsL _=plL (fun _=>false) from rfl) ?_
 refine rg_nil nofun ?_
 refine vc_seq ?_
 refine vc_region hm ?_
 refine gM trivial (.inl rfl) rfl rfl rfl ?_
 refine gL trivial rfl rfl rfl rfl rfl rfl rfl rfl ?_
 refine gTail trivial rfl rfl rfl rfl rfl rfl rfl rfl rfl rfl (show (rY (bytesL t)).length=n * 1 by rw [rY_map,List.length_map,bytesL_len,ht,hn]) (by omega) (by omega) ?_
 refine gL trivial rfl rfl rfl rfl rfl rfl rfl rfl ?_
 refine gCopy trivial rfl rfl rfl rfl rfl rfl rfl rfl rfl rfl hm'.2.2.1 (by omega) (show a.toNat * 1 + d.size≤(rY (bytesL t)).length by rw [rY_map,List.length_map,bytesL_len,ht];omega) (copy_fL ht hm'.1 hm'.2.2.2) ?_
 refine rg_nil (fun _=>by kernel_rfl) ?_
 refine vc_seq ?_
 refine vc_region hm ?_
 refine gL trivial rfl rfl rfl rfl rfl rfl rfl rfl ?_
 refine gL trivial rfl rfl rfl rfl rfl rfl rfl rfl ?_
 refine gL trivial rfl rfl rfl rfl rfl rfl rfl rfl ?_
 refine gKT trivial rfl rfl rfl rfl rfl ?_
 refine gA trivial rfl rfl rfl rfl rfl rfl (by omega) ?_
 refine gU trivial rfl rfl rfl rfl rfl rfl rfl rfl ?_
 refine gR (u':=8) (out:=rSp [partW a d]) trivial rfl rfl rfl rfl rfl rfl rfl rfl rfl rfl rfl rfl rfl rfl ?_
 refine gC0 [7] (of_c (l:=[partW a d]) (inB_one (partW_ok hw)) (show 1≤1000000 by decide)) trivial rfl rfl rfl rfl ⟨rFlat (rSp_flat [partW a d]) rfl (.inl rfl) rfl,trivial⟩ rfl rfl (vPl_flat _) rfl rfl ?_
 refine gZ (u':=9) trivial rfl rfl rfl rfl rfl rfl rfl (show cellsL _=plL (fun _=>false) from rfl) ?_
 refine gT trivial rfl rfl rfl rfl rfl rfl rfl rfl rfl rfl zPl pPl ?_
 refine rg_nil nofun ?_
 refine vc_seq ?_
 refine vc_region hm ?_
 refine gL trivial rfl rfl rfl rfl rfl rfl rfl wPl ?_
 refine gL trivial rfl rfl rfl rfl rfl rfl rfl wPl ?_
 refine gC0 [] (put_c (f) (ofP [partW a d]) true) trivial rfl rfl rfl rfl (by trivial) rfl rfl (vPl_flat _) rfl rfl ?_
 refine gL trivial rfl rfl rfl rfl rfl rfl rfl wPl ?_
 refine gL trivial rfl rfl rfl rfl rfl rfl rfl wPl ?_
 refine gC0 [] (put_c (g) (ofP [partW a d]) true) trivial rfl rfl rfl rfl (by trivial) rfl rfl (vPl_flat _) rfl rfl ?_
 refine gT trivial rfl rfl rfl rfl rfl rfl rfl rfl rfl rfl zPl pPl ?_
 refine gT trivial rfl rfl rfl rfl rfl rfl rfl rfl rfl rfl zPl pPl ?_
 refine rg_nil (fun _=>by kernel_rfl) ?_
 refine vc_ret ?_
 exact ⟨_,endsG [] (.inr rfl) (.cell rfl rfl rfl rfl wPl (.cell rfl rfl rfl rfl wPl .nil)) (rn3_flatT (pp_flat _ _)).symm (pp_ok3 _ _) ⟨⟨⟨_,rfl⟩,⟨_,rfl⟩,rY_flat _⟩,trivial⟩ trivial rfl⟩
theorem changed_write_c {o:Ow} {a:Int} {d:ByteArray} {may:Bool} (h:ownOk o=true) (hmay:(may=true→mayW a d=true)):FDoes Try.prog 64 [.agg #[.string o.t,.slice (some ⟨0,0,none⟩) o.h.length 0,.slice (some ⟨1,0,none⟩) o.d.length 0],.bool may,.func (.func 80) #[] #[.pointer (some ⟨2,0,none⟩),.pointer (some ⟨3,0,none⟩)]] (hp [(0,false,one ⟨rSp o.h,38,102⟩),(1,false,one ⟨rSp o.d,38,102⟩),(2,false,one ⟨[.int .i64 a],3,0⟩),(3,false,one ⟨[.string d],9,0⟩)]) (mkE (.tuple #[.agg #[.string (chO may o (writeX o a d)).t,.slice (some ⟨4,0,none⟩) (chO may o (writeX o a d)).h.length 0,.slice (some ⟨5,0,none⟩) (chO may o (writeX o a d)).d.length 0],.bool (chB may (writeX o a d))]) [0,1,2,3] [] [(4,⟨rSp (chO may o (writeX o a d)).h,38,2⟩),(5,⟨rSp (chO may o (writeX o a d)).d,38,2⟩)]):=by
 have hm:Try.prog.follows .mixedOrders=true:=by kernel_rfl
 have hd_:∀ x_ ∈ ([(0,false,one ⟨rSp o.h,38,102⟩),(1,false,one ⟨rSp o.d,38,102⟩),(2,false,one ⟨[.int .i64 a],3,0⟩),(3,false,one ⟨[.string d],9,0⟩)]:List (Nat × Bool × Fam)),∀ k_ y_,x_.2.2 k_=some y_→DetB (lt 4) y_:=by
  intro x_ hx k_ y_ e
  simp only [List.mem_cons,List.not_mem_nil,or_false] at hx
  rcases hx with rfl|rfl|rfl|rfl
  ·exact det_row (rSp_flat o.h) e
  ·exact det_row (rSp_flat o.d) e
  ·exact det_row rfl e
  ·exact det_row rfl e
 refine fn_exact (u0:=4) Try.func64 rfl rfl (gets rfl rfl rfl hd_ rfl) ?_
 clear hd_
 refine vc_seq ?_
 refine vc_region hm ?_
 refine gB (u':=5) trivial rfl rfl rfl rfl rfl rfl rfl rfl ?_
 refine gZ (u':=6) trivial rfl rfl rfl rfl rfl rfl rfl rfl ?_
 refine gM trivial (.inr rfl) rfl rfl rfl ?_
 refine rg_nil nofun ?_
 refine vc_seq ?_
 refine vc_seq ?_
 refine vc_region hm ?_
 refine gL trivial rfl rfl rfl rfl rfl rfl rfl rfl ?_
 refine gC0 [0,1] (impl_OwnOk_c (o:=o) (ok_len h).1 (ok_len h).2.1 (ok_len h).2.2) trivial rfl rfl rfl rfl ⟨rFlat (rSp_flat _) rfl (.inl rfl) rfl,rFlat (rSp_flat _) rfl (.inl rfl) rfl,trivial⟩ rfl rfl rfl rfl rfl ?_
 refine gN trivial rfl rfl rfl rfl ?_
 refine rg_nil nofun ?_
 refine cF rfl (notT h) ?_
 refine vc_skip ?_
 refine vc_seq ?_
 refine vc_seq ?_
 refine vc_region hm ?_
 refine gM trivial (.inl rfl) rfl rfl rfl ?_
 refine gN trivial rfl rfl rfl rfl ?_
 refine rg_nil nofun ?_
 refine cI rfl (fun c17=>?_) (fun c17=>?_)
 ·skip
  have n17:=unT c17
  refine vc_seq ?_
  refine vc_region hm ?_
  refine gL trivial rfl rfl rfl rfl rfl rfl rfl rfl ?_
  refine gCn 8 [0,1,6,7] (kept_c (o:=o) (ok_len h).1 (ok_len h).2.1 (ok_len h).2.2) trivial rfl rfl rfl rfl ⟨rFlat (rSp_flat o.h) rfl (.inr rfl) rfl,rFlat (rSp_flat o.d) rfl (.inr rfl) rfl,trivial⟩ ⟨rSp_flat _,rSp_flat _,trivial⟩ rfl rfl rfl rfl ?_
  refine gT trivial rfl rfl rfl rfl rfl rfl rfl rfl rfl rfl (Nat.le_of_ble_eq_true rfl) rfl ?_
  refine gM trivial (.inr rfl) rfl rfl rfl ?_
  refine rg_nil nofun ?_
  refine vc_ret ?_
  have e_:=chO_F (o:=o) (x:=(writeX o a d)) n17
  rw [e_.1,e_.2]
  exact ⟨_,endsG [(4,6,⟨rSp o.h,38,2⟩),(5,7,⟨rSp o.d,38,2⟩)] (.inr rfl) (.cell rfl rfl rfl rfl rfl (.tmp rfl rfl .nil)) rfl rfl trivial ⟨⟨rfl,rSp_flat _⟩,⟨rfl,rSp_flat _⟩,trivial⟩ rfl⟩
 ·skip
  have n17:=unF c17
  refine vc_skip ?_
  refine vc_seq ?_
  refine vc_region hm ?_
  refine gF trivial rfl rfl rfl rfl rfl ?_
  refine gL trivial rfl rfl rfl rfl rfl rfl rfl rfl ?_
  refine gTB (u':=7) trivial rfl rfl rfl rfl rfl rfl rfl rfl rfl ?_
  refine gM trivial (.inr rfl) rfl rfl rfl ?_
  refine rg_nil nofun ?_
  refine vc_seq ?_
  refine vc_region hm ?_
  refine gM trivial (.inl rfl) rfl rfl rfl ?_
  refine gM trivial (.inl rfl) rfl rfl rfl ?_
  refine gF trivial rfl rfl rfl rfl rfl ?_
  refine gL trivial rfl rfl rfl rfl rfl rfl rfl rfl ?_
  refine gC0 [0] (of_c (l:=o.h) (inB_of (ownOk_have h)) (by have:=spansOk_len (ownOk_have h);omega)) trivial rfl rfl rfl rfl ⟨rFlat (rSp_flat o.h) rfl (.inl rfl) rfl,trivial⟩ rfl rfl (vPl_flat _) rfl rfl ?_
  refine gF trivial rfl rfl rfl rfl rfl ?_
  refine gL trivial rfl rfl rfl rfl rfl rfl rfl rfl ?_
  refine gC0 [1] (of_c (l:=o.d) (inB_of (ownOk_dirty h)) (by have:=spansOk_len (ownOk_dirty h);omega)) trivial rfl rfl rfl rfl ⟨rFlat (rSp_flat o.d) rfl (.inl rfl) rfl,trivial⟩ rfl rfl (vPl_flat _) rfl rfl ?_
  refine gCcG 7 [6,2,3] (write1_c (t:=o.t) (d:=d) (n:=o.t.size) (a:=a) (ofP o.h) (ofP o.d) (ownOk_size h) (ownOk_size h) (hmay n17)) trivial rfl rfl rfl rfl rfl rfl ⟨rFlat (rY_flat _) rfl (.inr rfl) rfl,rFlat (rfl:[Value.int .i64 a].all flat1=true) rfl (.inl rfl) rfl,rFlat (rfl:[Value.string d].all flat1=true) rfl (.inl rfl) rfl,trivial⟩ ⟨rY_flat _,trivial⟩ trivial (rn3_flatT (pp_flat _ _)) rfl (by intro x hx;obtain rfl:=List.mem_singleton.1 hx;exact ⟨_,rfl⟩) (by intro x hx;obtain rfl:=List.mem_singleton.1 hx;exact ⟨_,_,rfl⟩) rfl rfl ?_
  refine gM trivial (.inl rfl) rfl rfl rfl ?_
  refine gE trivial rfl rfl rfl rfl rfl rfl ?_
  refine gE trivial rfl rfl rfl rfl rfl rfl ?_
  refine gZ (u':=8) trivial rfl rfl rfl rfl rfl rfl rfl (show cellsL _=plL (fun _=>false) from rfl) ?_
  refine gZ (u':=9) trivial rfl rfl rfl rfl rfl rfl rfl (show cellsL _=plL (fun _=>false) from rfl) ?_
  refine gT trivial rfl rfl rfl rfl rfl rfl rfl rfl rfl rfl zPl pPl ?_
  refine gT trivial rfl rfl rfl rfl rfl rfl rfl rfl rfl rfl zPl pPl ?_
  refine rg_nil (fun _=>by kernel_rfl) ?_
  refine vc_seq ?_
  refine vc_region hm ?_
  refine gM trivial (.inl rfl) rfl rfl rfl ?_
  refine gBT trivial rfl rfl rfl rfl rfl rfl rfl rfl rfl (fL_len.trans (ownOk_size h).symm) ?_
  refine gL trivial rfl rfl rfl rfl rfl rfl rfl wPl ?_
  refine gCn 10 [9] (spans_c (putP (ofP o.h) (ofP [partW a d]) true)) trivial rfl rfl rfl rfl (by trivial) ⟨rSp_flat _,trivial⟩ rfl rfl rfl rfl ?_
  refine gL trivial rfl rfl rfl rfl rfl rfl rfl wPl ?_
  refine gCn 11 [10] (spans_c (putP (ofP o.d) (ofP [partW a d]) true)) trivial rfl rfl rfl rfl (by trivial) ⟨rSp_flat _,trivial⟩ rfl rfl rfl rfl ?_
  refine gU trivial rfl rfl rfl rfl rfl rfl rfl rfl ?_
  refine gZ (u':=12) trivial rfl rfl rfl rfl rfl rfl rfl rfl ?_
  refine gT trivial rfl rfl rfl rfl rfl rfl rfl rfl rfl rfl (Nat.le_of_ble_eq_true rfl) rfl ?_
  refine rg_nil (fun _=>by kernel_rfl) ?_
  refine vc_seq ?_
  refine vc_seq ?_
  refine vc_region hm ?_
  refine gL trivial rfl rfl rfl rfl rfl rfl rfl rfl ?_
  refine gC0 [9,10] (impl_OwnOk_c (o:=(writeX o a d)) (by show (bytesS _).size≤_;rw [bytesS_size,fL_len];decide) (Nat.le_trans ofL48_len (by decide)) (Nat.le_trans ofL48_len (by decide))) trivial rfl rfl rfl rfl ⟨rFlat (rSp_flat _) rfl (.inl rfl) rfl,rFlat (rSp_flat _) rfl (.inl rfl) rfl,trivial⟩ rfl rfl rfl rfl rfl ?_
  refine gN trivial rfl rfl rfl rfl ?_
  refine rg_nil nofun ?_
  refine cI rfl (fun c44=>?_) (fun c44=>?_)
  ·skip
   have n44:=unT c44
   refine vc_seq ?_
   refine vc_region hm ?_
   refine gL trivial rfl rfl rfl rfl rfl rfl rfl rfl ?_
   refine gCn 14 [0,1,12,13] (kept_c (o:=o) (ok_len h).1 (ok_len h).2.1 (ok_len h).2.2) trivial rfl rfl rfl rfl ⟨rFlat (rSp_flat o.h) rfl (.inr rfl) rfl,rFlat (rSp_flat o.d) rfl (.inr rfl) rfl,trivial⟩ ⟨rSp_flat _,rSp_flat _,trivial⟩ rfl rfl rfl rfl ?_
   refine gT trivial rfl rfl rfl rfl rfl rfl rfl rfl rfl rfl (Nat.le_of_ble_eq_true rfl) rfl ?_
   refine gM trivial (.inr rfl) rfl rfl rfl ?_
   refine rg_nil nofun ?_
   refine vc_ret ?_
   have e_:=chO_TF (o:=o) (x:=(writeX o a d)) n17 n44
   rw [e_.1,e_.2]
   exact ⟨_,endsG [(4,12,⟨rSp o.h,38,2⟩),(5,13,⟨rSp o.d,38,2⟩)] (.inr rfl) (.cell rfl rfl rfl rfl rfl (.tmp rfl rfl .nil)) rfl rfl trivial ⟨⟨rfl,rSp_flat _⟩,⟨rfl,rSp_flat _⟩,trivial⟩ rfl⟩
  ·skip
   have n44:=unF c44
   refine vc_skip ?_
   refine vc_seq ?_
   refine vc_region hm ?_
   refine gL trivial rfl rfl rfl rfl rfl rfl rfl rfl ?_
   refine gT trivial rfl rfl rfl rfl rfl rfl rfl rfl rfl rfl (Nat.le_of_ble_eq_true rfl) rfl ?_
   refine gM trivial (.inr rfl) rfl rfl rfl ?_
   refine rg_nil nofun ?_
   refine vc_ret ?_
   have e_:=chO_TT (o:=o) (x:=(writeX o a d)) n17 n44
   rw [e_.1,e_.2]
   exact ⟨_,endsG [(4,9,⟨rSp (writeX o a d).h,38,2⟩),(5,10,⟨rSp (writeX o a d).d,38,2⟩)] (.inr rfl) (.cell rfl rfl rfl rfl rfl (.tmp rfl rfl .nil)) rfl rfl trivial ⟨⟨rfl,rSp_flat _⟩,⟨rfl,rSp_flat _⟩,trivial⟩ rfl⟩
theorem changed_write_n {o:Ow} {a:Int} {d:ByteArray} {may:Bool} (ht:o.t.size≤1048576) (hh:o.h.length≤1048576) (hd:o.d.length≤1048576) (h:ownOk o=false):FDoes Try.prog 64 [.agg #[.string o.t,.slice (some ⟨0,0,none⟩) o.h.length 0,.slice (some ⟨1,0,none⟩) o.d.length 0],.bool may,.func (.func 80) #[] #[.pointer (some ⟨2,0,none⟩),.pointer (some ⟨3,0,none⟩)]] (hp [(0,false,one ⟨rSp o.h,38,102⟩),(1,false,one ⟨rSp o.d,38,102⟩),(2,false,one ⟨[.int .i64 a],3,0⟩),(3,false,one ⟨[.string d],9,0⟩)]) { v:=.tuple #[.agg #[.string ⟨#[]⟩,.slice none 0 0,.slice none 0 0],.bool false],rd:=[0,1,2,3] }:=by
 have hm:Try.prog.follows .mixedOrders=true:=by kernel_rfl
 have hd_:∀ x_ ∈ ([(0,false,one ⟨rSp o.h,38,102⟩),(1,false,one ⟨rSp o.d,38,102⟩),(2,false,one ⟨[.int .i64 a],3,0⟩),(3,false,one ⟨[.string d],9,0⟩)]:List (Nat × Bool × Fam)),∀ k_ y_,x_.2.2 k_=some y_→DetB (lt 4) y_:=by
  intro x_ hx k_ y_ e
  simp only [List.mem_cons,List.not_mem_nil,or_false] at hx
  rcases hx with rfl|rfl|rfl|rfl
  ·exact det_row (rSp_flat o.h) e
  ·exact det_row (rSp_flat o.d) e
  ·exact det_row rfl e
  ·exact det_row rfl e
 refine fn_exact (u0:=4) Try.func64 rfl rfl (gets rfl rfl rfl hd_ rfl) ?_
 clear hd_
 refine vc_seq ?_
 refine vc_region hm ?_
 refine gB (u':=5) trivial rfl rfl rfl rfl rfl rfl rfl rfl ?_
 refine gZ (u':=6) trivial rfl rfl rfl rfl rfl rfl rfl rfl ?_
 refine gM trivial (.inr rfl) rfl rfl rfl ?_
 refine rg_nil nofun ?_
 refine vc_seq ?_
 refine vc_seq ?_
 refine vc_region hm ?_
 refine gL trivial rfl rfl rfl rfl rfl rfl rfl rfl ?_
 refine gC0 [0,1] (impl_OwnOk_c (o:=o) ht hh hd) trivial rfl rfl rfl rfl ⟨rFlat (rSp_flat o.h) rfl (.inl rfl) rfl,rFlat (rSp_flat o.d) rfl (.inl rfl) rfl,trivial⟩ rfl rfl rfl rfl rfl ?_
 refine gN trivial rfl rfl rfl rfl ?_
 refine rg_nil nofun ?_
 refine cT rfl (notF h) ?_
 refine vc_seq ?_
 refine vc_region hm ?_
 refine gU trivial rfl rfl rfl rfl rfl rfl rfl rfl ?_
 refine gT trivial rfl rfl rfl rfl rfl rfl rfl rfl rfl rfl (Nat.le_of_ble_eq_true rfl) rfl ?_
 refine gM trivial (.inr rfl) rfl rfl rfl ?_
 refine rg_nil nofun ?_
 refine vc_ret ?_
 exact ⟨idm,endsF (.inr rfl) (.cell rfl rfl rfl rfl rfl (.tmp rfl rfl .nil)) rfl rfl rfl⟩
theorem sized_c {n:Int} (h0:0<n) (h1:n≤48):FDoes Try.prog 99 [.string ⟨#[]⟩,.int .i64 n] (hp []) { v:=.string (⟨#[]⟩ ++ blankT n.toNat) }:=by
 have hm:Try.prog.follows .mixedOrders=true:=by kernel_rfl
 have hd_:∀ x ∈ ([]:List (Nat × Bool × Fam)),∀ k y,x.2.2 k=some y→DetB (lt 0) y:=fun x_ hx=>(by cases hx)
 refine fn_exact (u0:=0) Try.func99 rfl rfl (gets rfl rfl rfl hd_ rfl) ?_
 clear hd_
 refine vc_seq ?_
 refine vc_region hm ?_
 refine gM trivial (.inr rfl) rfl rfl rfl ?_
 refine rg_nil nofun ?_
 refine vc_seq ?_
 refine vc_seq ?_
 refine vc_region hm ?_
 refine gM trivial (.inl rfl) rfl rfl rfl ?_
 refine gM trivial (.inl rfl) rfl rfl rfl ?_
 refine gKT trivial rfl rfl rfl rfl rfl ?_
 refine gI trivial rfl rfl rfl rfl rfl rfl ?_
 refine rg_nil nofun ?_
 refine cF rfl (decide_eq_false (by show ¬ n≤0;omega)) ?_
 refine vc_skip ?_
 refine vc_seq ?_
 refine vc_region hm ?_
 refine gM trivial (.inl rfl) rfl rfl rfl ?_
 refine gM trivial (.inl rfl) rfl rfl rfl ?_
 refine gM trivial (.inl rfl) rfl rfl rfl ?_
 refine gKT trivial rfl rfl rfl rfl rfl ?_
 refine gA trivial rfl rfl rfl rfl rfl rfl (by show _≤n - 0∧n - 0≤_;omega) ?_
 refine gC0 [] ((show FDoes Try.prog 105 [.string ⟨#[46]⟩,.int .i64 (n - ((⟨#[]⟩:ByteArray).size:Int))] (hp []) { v:=.string (blankT n.toNat) } by have:=repeat_c (n:=n.toNat) (by omega);rw [show ((n.toNat:Nat):Int)=n - ((⟨#[]⟩:ByteArray).size:Int) by show _=n - 0;omega] at this;exact this)) trivial rfl rfl rfl rfl (by trivial) rfl rfl rfl rfl rfl ?_
 refine gCat trivial rfl rfl rfl rfl rfl (by rw [blankT_size];show 0 + _≤_;omega) ?_
 refine gM trivial (.inr rfl) rfl rfl rfl ?_
 refine rg_nil nofun ?_
 refine vc_ret ?_
 exact ⟨idm,ends0 (.inr rfl) rfl rfl rfl rfl rfl⟩
theorem TextWrite_T {a:Int} {d:ByteArray} (hw:mayW a d=true) (hd4:d.size≤1048576):FDoes Try.prog 79 [.string ⟨#[]⟩,.int .i64 a,.string d] (hp []) { v:=.tuple #[.string (twS a d),.bool true] }:=by
 have hm:Try.prog.follows .mixedOrders=true:=by kernel_rfl
 have hd_:∀ x ∈ ([]:List (Nat × Bool × Fam)),∀ k y,x.2.2 k=some y→DetB (lt 0) y:=fun x_ hx=>(by cases hx)
 have hmw:=(mayW_in hw).1
 have h00:((⟨#[]⟩:ByteArray).size:Int)=0:=rfl
 refine fn_exact (u0:=0) Try.func79 rfl rfl (gets rfl rfl rfl hd_ rfl) ?_
 clear hd_
 refine vc_seq ?_
 refine vc_region hm ?_
 refine gM trivial (.inr rfl) rfl rfl rfl ?_
 refine gM trivial (.inr rfl) rfl rfl rfl ?_
 refine rg_nil nofun ?_
 refine vc_seq ?_
 refine vc_seq ?_
 refine vc_region hm ?_
 refine gM trivial (.inl rfl) rfl rfl rfl ?_
 refine gC0 [] (impl_TextOk_c (s:=⟨#[]⟩) (by decide)) trivial rfl rfl rfl rfl (by trivial) rfl rfl rfl rfl rfl ?_
 refine gN trivial rfl rfl rfl rfl ?_
 refine rg_nil nofun ?_
 refine cF rfl (notT textOk_none) ?_
 refine vc_skip ?_
 refine vc_seq ?_
 refine vc_seq ?_
 refine vc_region hm ?_
 refine gM trivial (.inl rfl) rfl rfl rfl ?_
 refine gI trivial rfl rfl rfl rfl rfl rfl ?_
 refine gM trivial (.inl rfl) rfl rfl rfl ?_
 refine gM ⟨_,_,rfl,rfl,(decide_eq_false (by omega))⟩ (.inl rfl) rfl rfl rfl ?_
 refine gI ⟨_,_,rfl,rfl,(decide_eq_false (by omega))⟩ rfl rfl rfl rfl rfl rfl ?_
 refine gPF trivial rfl rfl (decide_eq_false (by omega)) rfl rfl rfl ?_
 refine gM trivial (.inl rfl) rfl rfl rfl ?_
 refine gM ⟨_,_,rfl,rfl,(decide_eq_false (by omega))⟩ (.inl rfl) rfl rfl rfl ?_
 refine gS ⟨_,_,rfl,rfl,(decide_eq_false (by omega))⟩ rfl rfl rfl rfl rfl rfl ?_
 refine gPF trivial rfl rfl (decide_eq_false (by omega)) rfl rfl rfl ?_
 refine gM trivial (.inl rfl) rfl rfl rfl ?_
 refine gM ⟨_,_,rfl,rfl,(mayW_ne hw)⟩ (.inl rfl) rfl rfl rfl ?_
 refine gC0 [] (impl_TextOk_c (s:=d) (by omega)) ⟨_,_,rfl,rfl,(mayW_ne hw)⟩ rfl rfl rfl rfl (by trivial) rfl rfl rfl rfl rfl ?_
 refine gN ⟨_,_,rfl,rfl,(mayW_ne hw)⟩ rfl rfl rfl rfl ?_
 refine gPF trivial rfl rfl (mayW_ne hw) rfl rfl rfl ?_
 refine gM trivial (.inl rfl) rfl rfl rfl ?_
 refine gM ⟨_,_,rfl,rfl,(notT (mayW_in hw).2)⟩ (.inl rfl) rfl rfl rfl ?_
 refine gM ⟨_,_,rfl,rfl,(notT (mayW_in hw).2)⟩ (.inl rfl) rfl rfl rfl ?_
 refine gKT ⟨_,_,rfl,rfl,(notT (mayW_in hw).2)⟩ rfl rfl rfl rfl rfl ?_
 refine gA ⟨_,_,rfl,rfl,(notT (mayW_in hw).2)⟩ rfl rfl rfl rfl rfl rfl (by omega) ?_
 refine gI ⟨_,_,rfl,rfl,(notT (mayW_in hw).2)⟩ rfl rfl rfl rfl rfl rfl ?_
 refine gPF trivial rfl rfl (notT (mayW_in hw).2) rfl rfl rfl ?_
 refine rg_nil nofun ?_
 refine cF rfl (decide_eq_false (by omega)) ?_
 refine vc_skip ?_
 refine vc_seq ?_
 refine vc_region hm ?_
 refine gM trivial (.inl rfl) rfl rfl rfl ?_
 refine gM trivial (.inl rfl) rfl rfl rfl ?_
 refine gKT trivial rfl rfl rfl rfl rfl ?_
 refine gA trivial rfl rfl rfl rfl rfl rfl (by omega) ?_
 refine gM trivial (.inr rfl) rfl rfl rfl ?_
 refine rg_nil nofun ?_
 refine vc_seq ?_
 refine vc_region hm ?_
 refine gM trivial (.inl rfl) rfl rfl rfl ?_
 refine gM trivial (.inl rfl) rfl rfl rfl ?_
 refine gKT trivial rfl rfl rfl rfl rfl ?_
 refine gM trivial (.inl rfl) rfl rfl rfl ?_
 refine gMx trivial rfl rfl rfl rfl rfl ?_
 refine gC0 [] (sized_c (n:=(if a + d.size > ((⟨#[]⟩:ByteArray).size:Int) then a + d.size else ((⟨#[]⟩:ByteArray).size:Int))) (by split <;> omega) (by split <;> omega)) trivial rfl rfl rfl rfl (by trivial) rfl rfl rfl rfl rfl ?_
 refine gM trivial (.inl rfl) rfl rfl rfl ?_
 refine gSx trivial rfl rfl rfl rfl rfl rfl rfl (by omega) (by omega) (by rw [ByteArray.size_append,blankT_size];show a≤((0 + _:Nat):Int);split <;> omega) ?_
 refine gM trivial (.inl rfl) rfl rfl rfl ?_
 refine gCat trivial rfl rfl rfl rfl rfl (by rw [ByteArray.size_extract];omega) ?_
 refine gM trivial (.inl rfl) rfl rfl rfl ?_
 refine gM trivial (.inl rfl) rfl rfl rfl ?_
 refine gM trivial (.inl rfl) rfl rfl rfl ?_
 refine gKT trivial rfl rfl rfl rfl rfl ?_
 refine gMn trivial rfl rfl rfl rfl rfl ?_
 refine gSx trivial rfl rfl rfl rfl rfl rfl rfl (by split <;> omega) (by split <;> omega) (by omega) ?_
 refine gCat trivial rfl rfl rfl rfl rfl (by rw [ByteArray.size_append,ByteArray.size_extract,ByteArray.size_extract];omega) ?_
 refine gM trivial (.inr rfl) rfl rfl rfl ?_
 refine gM trivial (.inr rfl) rfl rfl rfl ?_
 refine rg_nil (fun _=>by kernel_rfl) ?_
 refine vc_ret ?_
 exact ⟨idm,endsF (.inr rfl) (.tmp rfl rfl (.tmp rfl rfl .nil)) rfl rfl rfl⟩
theorem TextWrite_F {a:Int} {d:ByteArray} (hw:mayW a d=false) (hd4:d.size≤1048576):FDoes Try.prog 79 [.string ⟨#[]⟩,.int .i64 a,.string d] (hp []) { v:=.tuple #[.string ⟨#[]⟩,.bool false] }:=by
 have hm:Try.prog.follows .mixedOrders=true:=by kernel_rfl
 have hd_:∀ x ∈ ([]:List (Nat × Bool × Fam)),∀ k y,x.2.2 k=some y→DetB (lt 0) y:=fun x_ hx=>(by cases hx)
 refine fn_exact (u0:=0) Try.func79 rfl rfl (gets rfl rfl rfl hd_ rfl) ?_
 clear hd_
 refine vc_seq ?_
 refine vc_region hm ?_
 refine gM trivial (.inr rfl) rfl rfl rfl ?_
 refine gM trivial (.inr rfl) rfl rfl rfl ?_
 refine rg_nil nofun ?_
 refine vc_seq ?_
 refine vc_seq ?_
 refine vc_region hm ?_
 refine gM trivial (.inl rfl) rfl rfl rfl ?_
 refine gC0 [] (impl_TextOk_c (s:=⟨#[]⟩) (by decide)) trivial rfl rfl rfl rfl (by trivial) rfl rfl rfl rfl rfl ?_
 refine gN trivial rfl rfl rfl rfl ?_
 refine rg_nil nofun ?_
 refine cF rfl (notT textOk_none) ?_
 refine vc_skip ?_
 refine vc_seq ?_
 refine vc_seq ?_
 refine vc_region hm ?_
 refine gM trivial (.inl rfl) rfl rfl rfl ?_
 refine gI trivial rfl rfl rfl rfl rfl rfl ?_
 refine gM trivial (.inl rfl) rfl rfl rfl ?_
 refine gI2 (d:=14) rfl (fun c14=>?_) (fun c14=>?_)
 ·skip
  have p14:=of_decide_eq_true c14
  refine gO ⟨_,_,rfl,rfl,c14⟩ rfl rfl ?_
  refine gO ⟨_,_,rfl,rfl,c14⟩ rfl rfl ?_
  refine gPT trivial rfl rfl c14 rfl rfl rfl ?_
  refine gM trivial (.inl rfl) rfl rfl rfl ?_
  refine gO ⟨_,_,rfl,rfl,rfl⟩ rfl rfl ?_
  refine gO ⟨_,_,rfl,rfl,rfl⟩ rfl rfl ?_
  refine gPT trivial rfl rfl rfl rfl rfl rfl ?_
  refine gM trivial (.inl rfl) rfl rfl rfl ?_
  refine gO ⟨_,_,rfl,rfl,rfl⟩ rfl rfl ?_
  refine gO ⟨_,_,rfl,rfl,rfl⟩ rfl rfl ?_
  refine gO ⟨_,_,rfl,rfl,rfl⟩ rfl rfl ?_
  refine gPT trivial rfl rfl rfl rfl rfl rfl ?_
  refine gM trivial (.inl rfl) rfl rfl rfl ?_
  refine gO ⟨_,_,rfl,rfl,rfl⟩ rfl rfl ?_
  refine gO ⟨_,_,rfl,rfl,rfl⟩ rfl rfl ?_
  refine gO ⟨_,_,rfl,rfl,rfl⟩ rfl rfl ?_
  refine gO ⟨_,_,rfl,rfl,rfl⟩ rfl rfl ?_
  refine gO ⟨_,_,rfl,rfl,rfl⟩ rfl rfl ?_
  refine gPT trivial rfl rfl rfl rfl rfl rfl ?_
  refine rg_nil nofun ?_
  refine cT rfl rfl ?_
  refine vc_seq ?_
  refine vc_region hm ?_
  refine gM trivial (.inl rfl) rfl rfl rfl ?_
  refine gM trivial (.inr rfl) rfl rfl rfl ?_
  refine gM trivial (.inr rfl) rfl rfl rfl ?_
  refine rg_nil nofun ?_
  refine vc_ret ?_
  exact ⟨idm,endsF (.inr rfl) (.tmp rfl rfl (.tmp rfl rfl .nil)) rfl rfl rfl⟩
 ·skip
  have p14:=of_decide_eq_false c14
  refine gM ⟨_,_,rfl,rfl,c14⟩ (.inl rfl) rfl rfl rfl ?_
  refine gI ⟨_,_,rfl,rfl,c14⟩ rfl rfl rfl rfl rfl rfl ?_
  refine gPF trivial rfl rfl c14 rfl rfl rfl ?_
  refine gM trivial (.inl rfl) rfl rfl rfl ?_
  refine gI2 (d:=18) rfl (fun c18=>?_) (fun c18=>?_)
  ·skip
   have p18:=of_decide_eq_true c18
   refine gO ⟨_,_,rfl,rfl,c18⟩ rfl rfl ?_
   refine gO ⟨_,_,rfl,rfl,c18⟩ rfl rfl ?_
   refine gPT trivial rfl rfl c18 rfl rfl rfl ?_
   refine gM trivial (.inl rfl) rfl rfl rfl ?_
   refine gO ⟨_,_,rfl,rfl,rfl⟩ rfl rfl ?_
   refine gO ⟨_,_,rfl,rfl,rfl⟩ rfl rfl ?_
   refine gO ⟨_,_,rfl,rfl,rfl⟩ rfl rfl ?_
   refine gPT trivial rfl rfl rfl rfl rfl rfl ?_
   refine gM trivial (.inl rfl) rfl rfl rfl ?_
   refine gO ⟨_,_,rfl,rfl,rfl⟩ rfl rfl ?_
   refine gO ⟨_,_,rfl,rfl,rfl⟩ rfl rfl ?_
   refine gO ⟨_,_,rfl,rfl,rfl⟩ rfl rfl ?_
   refine gO ⟨_,_,rfl,rfl,rfl⟩ rfl rfl ?_
   refine gO ⟨_,_,rfl,rfl,rfl⟩ rfl rfl ?_
   refine gPT trivial rfl rfl rfl rfl rfl rfl ?_
   refine rg_nil nofun ?_
   refine cT rfl rfl ?_
   refine vc_seq ?_
   refine vc_region hm ?_
   refine gM trivial (.inl rfl) rfl rfl rfl ?_
   refine gM trivial (.inr rfl) rfl rfl rfl ?_
   refine gM trivial (.inr rfl) rfl rfl rfl ?_
   refine rg_nil nofun ?_
   refine vc_ret ?_
   exact ⟨idm,endsF (.inr rfl) (.tmp rfl rfl (.tmp rfl rfl .nil)) rfl rfl rfl⟩
  ·skip
   have p18:=of_decide_eq_false c18
   refine gM ⟨_,_,rfl,rfl,c18⟩ (.inl rfl) rfl rfl rfl ?_
   refine gS ⟨_,_,rfl,rfl,c18⟩ rfl rfl rfl rfl rfl rfl ?_
   refine gPF trivial rfl rfl c18 rfl rfl rfl ?_
   refine gM trivial (.inl rfl) rfl rfl rfl ?_
   refine gI2 (d:=22) rfl (fun c22=>?_) (fun c22=>?_)
   ·skip
    refine gO ⟨_,_,rfl,rfl,c22⟩ rfl rfl ?_
    refine gO ⟨_,_,rfl,rfl,c22⟩ rfl rfl ?_
    refine gO ⟨_,_,rfl,rfl,c22⟩ rfl rfl ?_
    refine gPT trivial rfl rfl c22 rfl rfl rfl ?_
    refine gM trivial (.inl rfl) rfl rfl rfl ?_
    refine gO ⟨_,_,rfl,rfl,rfl⟩ rfl rfl ?_
    refine gO ⟨_,_,rfl,rfl,rfl⟩ rfl rfl ?_
    refine gO ⟨_,_,rfl,rfl,rfl⟩ rfl rfl ?_
    refine gO ⟨_,_,rfl,rfl,rfl⟩ rfl rfl ?_
    refine gO ⟨_,_,rfl,rfl,rfl⟩ rfl rfl ?_
    refine gPT trivial rfl rfl rfl rfl rfl rfl ?_
    refine rg_nil nofun ?_
    refine cT rfl rfl ?_
    refine vc_seq ?_
    refine vc_region hm ?_
    refine gM trivial (.inl rfl) rfl rfl rfl ?_
    refine gM trivial (.inr rfl) rfl rfl rfl ?_
    refine gM trivial (.inr rfl) rfl rfl rfl ?_
    refine rg_nil nofun ?_
    refine vc_ret ?_
    exact ⟨idm,endsF (.inr rfl) (.tmp rfl rfl (.tmp rfl rfl .nil)) rfl rfl rfl⟩
   ·skip
    refine gM ⟨_,_,rfl,rfl,c22⟩ (.inl rfl) rfl rfl rfl ?_
    refine gC0 [] (impl_TextOk_c (s:=d) (by omega)) ⟨_,_,rfl,rfl,c22⟩ rfl rfl rfl rfl (by trivial) rfl rfl rfl rfl rfl ?_
    refine gN ⟨_,_,rfl,rfl,c22⟩ rfl rfl rfl rfl ?_
    refine gPF trivial rfl rfl c22 rfl rfl rfl ?_
    refine gM trivial (.inl rfl) rfl rfl rfl ?_
    refine gI2 (d:=27) rfl (fun c27=>?_) (fun c27=>?_)
    ·skip
     have n27:=unT c27
     refine gO ⟨_,_,rfl,rfl,c27⟩ rfl rfl ?_
     refine gO ⟨_,_,rfl,rfl,c27⟩ rfl rfl ?_
     refine gO ⟨_,_,rfl,rfl,c27⟩ rfl rfl ?_
     refine gO ⟨_,_,rfl,rfl,c27⟩ rfl rfl ?_
     refine gO ⟨_,_,rfl,rfl,c27⟩ rfl rfl ?_
     refine gPT trivial rfl rfl c27 rfl rfl rfl ?_
     refine rg_nil nofun ?_
     refine cT rfl rfl ?_
     refine vc_seq ?_
     refine vc_region hm ?_
     refine gM trivial (.inl rfl) rfl rfl rfl ?_
     refine gM trivial (.inr rfl) rfl rfl rfl ?_
     refine gM trivial (.inr rfl) rfl rfl rfl ?_
     refine rg_nil nofun ?_
     refine vc_ret ?_
     exact ⟨idm,endsF (.inr rfl) (.tmp rfl rfl (.tmp rfl rfl .nil)) rfl rfl rfl⟩
    ·skip
     have n27:=unF c27
     refine gM ⟨_,_,rfl,rfl,c27⟩ (.inl rfl) rfl rfl rfl ?_
     refine gM ⟨_,_,rfl,rfl,c27⟩ (.inl rfl) rfl rfl rfl ?_
     refine gKT ⟨_,_,rfl,rfl,c27⟩ rfl rfl rfl rfl rfl ?_
     refine gA ⟨_,_,rfl,rfl,c27⟩ rfl rfl rfl rfl rfl rfl (by omega) ?_
     refine gI ⟨_,_,rfl,rfl,c27⟩ rfl rfl rfl rfl rfl rfl ?_
     refine gPF trivial rfl rfl c27 rfl rfl rfl ?_
     refine rg_nil nofun ?_
     refine cI rfl (fun c33=>?_) (fun c33=>?_)
     ·skip
      have p33:=of_decide_eq_true c33
      refine vc_seq ?_
      refine vc_region hm ?_
      refine gM trivial (.inl rfl) rfl rfl rfl ?_
      refine gM trivial (.inr rfl) rfl rfl rfl ?_
      refine gM trivial (.inr rfl) rfl rfl rfl ?_
      refine rg_nil nofun ?_
      refine vc_ret ?_
      exact ⟨idm,endsF (.inr rfl) (.tmp rfl rfl (.tmp rfl rfl .nil)) rfl rfl rfl⟩
     ·skip
      have p33:=of_decide_eq_false c33
      exact absurd (mayW_T (by assumption) (by assumption) (by assumption) (by assumption) (by assumption)) (by rw [hw];decide)
theorem TextWrite_A {a:Int} {d:ByteArray} (hd4:d.size≤1048576):∃ tx:ByteArray,FDoes Try.prog 79 [.string ⟨#[]⟩,.int .i64 a,.string d] (hp []) { v:=.tuple #[.string tx,.bool (mayW a d)] }:=by
 rcases Bool.eq_false_or_eq_true (mayW a d) with hw|hw
 ·rw [hw];exact ⟨_,TextWrite_T hw hd4⟩
 ·rw [hw];exact ⟨_,TextWrite_F hw hd4⟩
theorem impl_OwnWrite_c {o:Ow} {a:Int} {d:ByteArray} (h:ownOk o=true) (hd4:d.size≤1048576):FDoes Try.prog 41 [.agg #[.string o.t,.slice (some ⟨0,0,none⟩) o.h.length 0,.slice (some ⟨1,0,none⟩) o.d.length 0],.int .i64 a,.string d] (hp [(0,false,one ⟨rSp o.h,38,102⟩),(1,false,one ⟨rSp o.d,38,102⟩)]) (mkE (.tuple #[.agg #[.string (chO (mayW a d) o (writeX o a d)).t,.slice (some ⟨2,0,none⟩) (chO (mayW a d) o (writeX o a d)).h.length 0,.slice (some ⟨3,0,none⟩) (chO (mayW a d) o (writeX o a d)).d.length 0],.bool (chB (mayW a d) (writeX o a d))]) [0,1] [] [(2,⟨rSp (chO (mayW a d) o (writeX o a d)).h,38,2⟩),(3,⟨rSp (chO (mayW a d) o (writeX o a d)).d,38,2⟩)]):=by
 have hm:Try.prog.follows .mixedOrders=true:=by kernel_rfl
 have hd_:∀ x_ ∈ ([(0,false,one ⟨rSp o.h,38,102⟩),(1,false,one ⟨rSp o.d,38,102⟩)]:List (Nat × Bool × Fam)),∀ k_ y_,x_.2.2 k_=some y_→DetB (lt 2) y_:=by
  intro x_ hx k_ y_ e
  simp only [List.mem_cons,List.not_mem_nil,or_false] at hx
  rcases hx with rfl|rfl
  ·exact det_row (rSp_flat o.h) e
  ·exact det_row (rSp_flat o.d) e
 obtain ⟨tx,htw⟩:=TextWrite_A (a:=a) (d:=d) hd4
 refine fn_exact (u0:=2) Try.func41 rfl rfl (gets rfl rfl rfl hd_ rfl) ?_
 clear hd_
 refine vc_seq ?_
 refine vc_region hm ?_
 refine gB (u':=3) trivial rfl rfl rfl rfl rfl rfl rfl rfl ?_
 refine gB (u':=4) trivial rfl rfl rfl rfl rfl rfl rfl rfl ?_
 refine gB (u':=5) trivial rfl rfl rfl rfl rfl rfl rfl rfl ?_
 refine gZ (u':=6) trivial rfl rfl rfl rfl rfl rfl rfl rfl ?_
 refine gM trivial (.inr rfl) rfl rfl rfl ?_
 refine rg_nil nofun ?_
 refine vc_seq ?_
 refine vc_region hm ?_
 refine gL trivial rfl rfl rfl rfl rfl rfl rfl rfl ?_
 refine gL trivial rfl rfl rfl rfl rfl rfl rfl rfl ?_
 refine gC0 [] (htw) trivial rfl rfl rfl rfl (by trivial) rfl rfl rfl rfl rfl ?_
 refine gM trivial (.inl rfl) rfl rfl rfl ?_
 refine gE trivial rfl rfl rfl rfl rfl rfl ?_
 refine gE trivial rfl rfl rfl rfl rfl rfl ?_
 refine gM trivial (.inr rfl) rfl rfl rfl ?_
 refine gM trivial (.inr rfl) rfl rfl rfl ?_
 refine rg_nil nofun ?_
 refine vc_seq ?_
 refine vc_region hm ?_
 refine gL trivial rfl rfl rfl rfl rfl rfl rfl rfl ?_
 refine gM trivial (.inl rfl) rfl rfl rfl ?_
 refine gFn trivial rfl rfl rfl rfl rfl ?_
 refine gCn 8 [0,1,3,4,6,7] (changed_write_c (o:=o) (a:=a) (d:=d) (may:=mayW a d) h (fun e=>e)) trivial rfl rfl rfl rfl ⟨rFlat (rSp_flat o.h) rfl (.inr rfl) rfl,rFlat (rSp_flat o.d) rfl (.inr rfl) rfl,rFlat ((rfl:[Value.int .i64 a].all flat1=true)) rfl (.inl rfl) rfl,rFlat ((rfl:[Value.string d].all flat1=true)) rfl (.inl rfl) rfl,trivial⟩ ⟨rSp_flat _,rSp_flat _,trivial⟩ rfl rfl rfl rfl ?_
 refine gE trivial rfl rfl rfl rfl rfl rfl ?_
 refine gE trivial rfl rfl rfl rfl rfl rfl ?_
 refine gT trivial rfl rfl rfl rfl rfl rfl rfl rfl rfl rfl (Nat.le_of_ble_eq_true rfl) rfl ?_
 refine gM trivial (.inr rfl) rfl rfl rfl ?_
 refine rg_nil nofun ?_
 refine vc_ret ?_
 exact ⟨_,endsG [(2,6,⟨rSp (chO (mayW a d) o (writeX o a d)).h,38,2⟩),(3,7,⟨rSp (chO (mayW a d) o (writeX o a d)).d,38,2⟩)] (.inr rfl) (.cell rfl rfl rfl rfl rfl (.tmp rfl rfl .nil)) rfl rfl trivial ⟨⟨rfl,rSp_flat _⟩,⟨rfl,rSp_flat _⟩,trivial⟩ rfl⟩
theorem impl_OwnWrite_n {o:Ow} {a:Int} {d:ByteArray} (ht:o.t.size≤1048576) (hh:o.h.length≤1048576) (hd:o.d.length≤1048576) (h:ownOk o=false) (hd4:d.size≤1048576):FDoes Try.prog 41 [.agg #[.string o.t,.slice (some ⟨0,0,none⟩) o.h.length 0,.slice (some ⟨1,0,none⟩) o.d.length 0],.int .i64 a,.string d] (hp [(0,false,one ⟨rSp o.h,38,102⟩),(1,false,one ⟨rSp o.d,38,102⟩)]) { v:=.tuple #[.agg #[.string ⟨#[]⟩,.slice none 0 0,.slice none 0 0],.bool false],rd:=[0,1] }:=by
 have hm:Try.prog.follows .mixedOrders=true:=by kernel_rfl
 have hd_:∀ x_ ∈ ([(0,false,one ⟨rSp o.h,38,102⟩),(1,false,one ⟨rSp o.d,38,102⟩)]:List (Nat × Bool × Fam)),∀ k_ y_,x_.2.2 k_=some y_→DetB (lt 2) y_:=by
  intro x_ hx k_ y_ e
  simp only [List.mem_cons,List.not_mem_nil,or_false] at hx
  rcases hx with rfl|rfl
  ·exact det_row (rSp_flat o.h) e
  ·exact det_row (rSp_flat o.d) e
 obtain ⟨tx,htw⟩:=TextWrite_A (a:=a) (d:=d) hd4
 refine fn_exact (u0:=2) Try.func41 rfl rfl (gets rfl rfl rfl hd_ rfl) ?_
 clear hd_
 refine vc_seq ?_
 refine vc_region hm ?_
 refine gB (u':=3) trivial rfl rfl rfl rfl rfl rfl rfl rfl ?_
 refine gB (u':=4) trivial rfl rfl rfl rfl rfl rfl rfl rfl ?_
 refine gB (u':=5) trivial rfl rfl rfl rfl rfl rfl rfl rfl ?_
 refine gZ (u':=6) trivial rfl rfl rfl rfl rfl rfl rfl rfl ?_
 refine gM trivial (.inr rfl) rfl rfl rfl ?_
 refine rg_nil nofun ?_
 refine vc_seq ?_
 refine vc_region hm ?_
 refine gL trivial rfl rfl rfl rfl rfl rfl rfl rfl ?_
 refine gL trivial rfl rfl rfl rfl rfl rfl rfl rfl ?_
 refine gC0 [] (htw) trivial rfl rfl rfl rfl (by trivial) rfl rfl rfl rfl rfl ?_
 refine gM trivial (.inl rfl) rfl rfl rfl ?_
 refine gE trivial rfl rfl rfl rfl rfl rfl ?_
 refine gE trivial rfl rfl rfl rfl rfl rfl ?_
 refine gM trivial (.inr rfl) rfl rfl rfl ?_
 refine gM trivial (.inr rfl) rfl rfl rfl ?_
 refine rg_nil nofun ?_
 refine vc_seq ?_
 refine vc_region hm ?_
 refine gL trivial rfl rfl rfl rfl rfl rfl rfl rfl ?_
 refine gM trivial (.inl rfl) rfl rfl rfl ?_
 refine gFn trivial rfl rfl rfl rfl rfl ?_
 refine gC0 [0,1,3,4] (changed_write_n (o:=o) (a:=a) (d:=d) (may:=mayW a d) ht hh hd h) trivial rfl rfl rfl rfl ⟨rFlat (rSp_flat o.h) rfl (.inr rfl) rfl,rFlat (rSp_flat o.d) rfl (.inr rfl) rfl,rFlat ((rfl:[Value.int .i64 a].all flat1=true)) rfl (.inl rfl) rfl,rFlat ((rfl:[Value.string d].all flat1=true)) rfl (.inl rfl) rfl,trivial⟩ rfl rfl rfl rfl rfl ?_
 refine gE trivial rfl rfl rfl rfl rfl rfl ?_
 refine gE trivial rfl rfl rfl rfl rfl rfl ?_
 refine gT trivial rfl rfl rfl rfl rfl rfl rfl rfl rfl rfl (Nat.le_of_ble_eq_true rfl) rfl ?_
 refine gM trivial (.inr rfl) rfl rfl rfl ?_
 refine rg_nil nofun ?_
 refine vc_ret ?_
 exact ⟨idm,endsF (.inr rfl) (.cell rfl rfl rfl rfl rfl (.tmp rfl rfl .nil)) rfl rfl rfl⟩
theorem spec_OwnWrite_n {o:Ow} {a:Int} {d:ByteArray} (ht:o.t.size≤1048576) (hh:o.h.length≤1048576) (hd:o.d.length≤1048576) (h:ownOk o=false) (hd4:d.size≤1048576):FDoes Try.prog 40 [.agg #[.string o.t,.slice (some ⟨0,0,none⟩) o.h.length 0,.slice (some ⟨1,0,none⟩) o.d.length 0],.int .i64 a,.string d] (hp [(0,false,one ⟨rSp o.h,38,102⟩),(1,false,one ⟨rSp o.d,38,102⟩)]) { v:=.tuple #[.agg #[.string ⟨#[]⟩,.slice none 0 0,.slice none 0 0],.bool false],rd:=[0,1] }:=by
 have hm:Try.prog.follows .mixedOrders=true:=by kernel_rfl
 have hd_:∀ x_ ∈ ([(0,false,one ⟨rSp o.h,38,102⟩),(1,false,one ⟨rSp o.d,38,102⟩)]:List (Nat × Bool × Fam)),∀ k_ y_,x_.2.2 k_=some y_→DetB (lt 2) y_:=by
  intro x_ hx k_ y_ e
  simp only [List.mem_cons,List.not_mem_nil,or_false] at hx
  rcases hx with rfl|rfl
  ·exact det_row (rSp_flat o.h) e
  ·exact det_row (rSp_flat o.d) e
 refine fn_exact (u0:=2) Try.func40 rfl rfl (gets rfl rfl rfl hd_ rfl) ?_
 clear hd_
 refine vc_seq ?_
 refine vc_region hm ?_
 refine gB (u':=3) trivial rfl rfl rfl rfl rfl rfl rfl rfl ?_
 refine gZ (u':=4) trivial rfl rfl rfl rfl rfl rfl rfl rfl ?_
 refine gM trivial (.inr rfl) rfl rfl rfl ?_
 refine rg_nil nofun ?_
 refine vc_seq ?_
 refine vc_seq ?_
 refine vc_region hm ?_
 refine gL trivial rfl rfl rfl rfl rfl rfl rfl rfl ?_
 refine gC0 [0,1] (spec_OwnOk_c (o:=o) ht hh hd) trivial rfl rfl rfl rfl ⟨rFlat (rSp_flat o.h) rfl (.inl rfl) rfl,rFlat (rSp_flat o.d) rfl (.inl rfl) rfl,trivial⟩ rfl rfl rfl rfl rfl ?_
 refine gN trivial rfl rfl rfl rfl ?_
 refine rg_nil nofun ?_
 refine cT rfl (notF h) ?_
 refine vc_seq ?_
 refine vc_region hm ?_
 refine gU trivial rfl rfl rfl rfl rfl rfl rfl rfl ?_
 refine gT trivial rfl rfl rfl rfl rfl rfl rfl rfl rfl rfl (Nat.le_of_ble_eq_true rfl) rfl ?_
 refine gM trivial (.inr rfl) rfl rfl rfl ?_
 refine rg_nil nofun ?_
 refine vc_ret ?_
 exact ⟨idm,endsF (.inr rfl) (.cell rfl rfl rfl rfl rfl (.tmp rfl rfl .nil)) rfl rfl rfl⟩
theorem spec_OwnWrite_c {o:Ow} {a:Int} {d:ByteArray} (h:ownOk o=true) (hd4:d.size≤1048576):FDoes Try.prog 40 [.agg #[.string o.t,.slice (some ⟨0,0,none⟩) o.h.length 0,.slice (some ⟨1,0,none⟩) o.d.length 0],.int .i64 a,.string d] (hp [(0,false,one ⟨rSp o.h,38,102⟩),(1,false,one ⟨rSp o.d,38,102⟩)]) (mkE (.tuple #[.agg #[.string (chO (mayW a d) o (writeX o a d)).t,.slice (some ⟨2,0,none⟩) (chO (mayW a d) o (writeX o a d)).h.length 0,.slice (some ⟨3,0,none⟩) (chO (mayW a d) o (writeX o a d)).d.length 0],.bool (chB (mayW a d) (writeX o a d))]) [0,1] [] [(2,⟨rSp (chO (mayW a d) o (writeX o a d)).h,38,2⟩),(3,⟨rSp (chO (mayW a d) o (writeX o a d)).d,38,2⟩)]):=by
 have hm:Try.prog.follows .mixedOrders=true:=by kernel_rfl
 have hd_:∀ x_ ∈ ([(0,false,one ⟨rSp o.h,38,102⟩),(1,false,one ⟨rSp o.d,38,102⟩)]:List (Nat × Bool × Fam)),∀ k_ y_,x_.2.2 k_=some y_→DetB (lt 2) y_:=by
  intro x_ hx k_ y_ e
  simp only [List.mem_cons,List.not_mem_nil,or_false] at hx
  rcases hx with rfl|rfl
  ·exact det_row (rSp_flat o.h) e
  ·exact det_row (rSp_flat o.d) e
 have hsz:=ownOk_size h
 obtain ⟨T,hT⟩:∃ T:ByteArray,T=overT o.t a (a + d.size) d:=⟨_,rfl⟩
 have hT2:mayW a d=true→T=bytesS (fL (writeF o.t d a)):=fun e=>by rw [hT];exact write_over hsz (mayW_in e).1.1 (mayW_in e).1.2.2.2
 have hTX:mayW a d=true→writeX o a d=⟨T,l1ofP (putP (ofP o.h) (ofP [partW a d]) true),l1ofP (putP (ofP o.d) (ofP [partW a d]) true)⟩:=fun e=>by rw [hT2 e]
 have hTs:mayW a d=true→T.size=48:=fun e=>by rw [hT2 e];exact bytesS_size.trans fL_len
 clear hT2
 refine fn_exact (u0:=2) Try.func40 rfl rfl (gets rfl rfl rfl hd_ rfl) ?_
 clear hd_
 refine vc_seq ?_
 refine vc_region hm ?_
 refine gB (u':=3) trivial rfl rfl rfl rfl rfl rfl rfl rfl ?_
 refine gZ (u':=4) trivial rfl rfl rfl rfl rfl rfl rfl rfl ?_
 refine gM trivial (.inr rfl) rfl rfl rfl ?_
 refine rg_nil nofun ?_
 refine vc_seq ?_
 refine vc_seq ?_
 refine vc_region hm ?_
 refine gL trivial rfl rfl rfl rfl rfl rfl rfl rfl ?_
 refine gC0 [0,1] (spec_OwnOk_c (o:=o) (ok_len h).1 (ok_len h).2.1 (ok_len h).2.2) trivial rfl rfl rfl rfl ⟨rFlat (rSp_flat o.h) rfl (.inl rfl) rfl,rFlat (rSp_flat o.d) rfl (.inl rfl) rfl,trivial⟩ rfl rfl rfl rfl rfl ?_
 refine gN trivial rfl rfl rfl rfl ?_
 refine rg_nil nofun ?_
 refine cF rfl (notT h) ?_
 refine vc_skip ?_
 refine vc_seq ?_
 refine vc_seq ?_
 refine vc_region hm ?_
 refine gM trivial (.inl rfl) rfl rfl rfl ?_
 refine gI trivial rfl rfl rfl rfl rfl rfl ?_
 refine gM trivial (.inl rfl) rfl rfl rfl ?_
 refine gI2 (d:=15) rfl (fun c15=>?_) (fun c15=>?_)
 ·skip
  have p15:=of_decide_eq_true c15
  refine gO ⟨_,_,rfl,rfl,c15⟩ rfl rfl ?_
  refine gO ⟨_,_,rfl,rfl,c15⟩ rfl rfl ?_
  refine gPT trivial rfl rfl c15 rfl rfl rfl ?_
  refine gM trivial (.inl rfl) rfl rfl rfl ?_
  refine gO ⟨_,_,rfl,rfl,rfl⟩ rfl rfl ?_
  refine gO ⟨_,_,rfl,rfl,rfl⟩ rfl rfl ?_
  refine gO ⟨_,_,rfl,rfl,rfl⟩ rfl rfl ?_
  refine gPT trivial rfl rfl rfl rfl rfl rfl ?_
  refine gM trivial (.inl rfl) rfl rfl rfl ?_
  refine gO ⟨_,_,rfl,rfl,rfl⟩ rfl rfl ?_
  refine gO ⟨_,_,rfl,rfl,rfl⟩ rfl rfl ?_
  refine gPT trivial rfl rfl rfl rfl rfl rfl ?_
  refine gM trivial (.inl rfl) rfl rfl rfl ?_
  refine gO ⟨_,_,rfl,rfl,rfl⟩ rfl rfl ?_
  refine gO ⟨_,_,rfl,rfl,rfl⟩ rfl rfl ?_
  refine gO ⟨_,_,rfl,rfl,rfl⟩ rfl rfl ?_
  refine gO ⟨_,_,rfl,rfl,rfl⟩ rfl rfl ?_
  refine gO ⟨_,_,rfl,rfl,rfl⟩ rfl rfl ?_
  refine gPT trivial rfl rfl rfl rfl rfl rfl ?_
  refine rg_nil nofun ?_
  refine cT rfl rfl ?_
  refine vc_seq ?_
  refine vc_region hm ?_
  refine gL trivial rfl rfl rfl rfl rfl rfl rfl rfl ?_
  refine gCn 6 [0,1,4,5] (spec_l6Copy_c (o:=o) (ok_len h).1 (ok_len h).2.1 (ok_len h).2.2) trivial rfl rfl rfl rfl ⟨rFlat (rSp_flat o.h) rfl (.inl rfl) rfl,rFlat (rSp_flat o.d) rfl (.inl rfl) rfl,trivial⟩ ⟨rSp_flat _,rSp_flat _,trivial⟩ rfl rfl rfl rfl ?_
  refine gT trivial rfl rfl rfl rfl rfl rfl rfl rfl rfl rfl (Nat.le_of_ble_eq_true rfl) rfl ?_
  refine gM trivial (.inr rfl) rfl rfl rfl ?_
  refine rg_nil nofun ?_
  refine vc_ret ?_
  have e_:=chO_F (o:=o) (x:=(writeX o a d)) (may:=mayW a d) (by first|exact mayW_1 (by assumption)|exact mayW_2 (by assumption)|exact mayW_3 (by assumption)|exact mayW_4 (by assumption)|exact mayW_5 (by assumption))
  rw [e_.1,e_.2]
  exact ⟨_,endsG [(2,4,⟨rSp o.h,38,2⟩),(3,5,⟨rSp o.d,38,2⟩)] (.inr rfl) (.cell rfl rfl rfl rfl rfl (.tmp rfl rfl .nil)) rfl rfl trivial ⟨⟨rfl,rSp_flat _⟩,⟨rfl,rSp_flat _⟩,trivial⟩ rfl⟩
 ·skip
  have p15:=of_decide_eq_false c15
  refine gM ⟨_,_,rfl,rfl,c15⟩ (.inl rfl) rfl rfl rfl ?_
  refine gI ⟨_,_,rfl,rfl,c15⟩ rfl rfl rfl rfl rfl rfl ?_
  refine gPF trivial rfl rfl c15 rfl rfl rfl ?_
  refine gM trivial (.inl rfl) rfl rfl rfl ?_
  refine gI2 (d:=19) rfl (fun c19=>?_) (fun c19=>?_)
  ·skip
   have p19:=of_decide_eq_true c19
   refine gO ⟨_,_,rfl,rfl,c19⟩ rfl rfl ?_
   refine gO ⟨_,_,rfl,rfl,c19⟩ rfl rfl ?_
   refine gO ⟨_,_,rfl,rfl,c19⟩ rfl rfl ?_
   refine gPT trivial rfl rfl c19 rfl rfl rfl ?_
   refine gM trivial (.inl rfl) rfl rfl rfl ?_
   refine gO ⟨_,_,rfl,rfl,rfl⟩ rfl rfl ?_
   refine gO ⟨_,_,rfl,rfl,rfl⟩ rfl rfl ?_
   refine gPT trivial rfl rfl rfl rfl rfl rfl ?_
   refine gM trivial (.inl rfl) rfl rfl rfl ?_
   refine gO ⟨_,_,rfl,rfl,rfl⟩ rfl rfl ?_
   refine gO ⟨_,_,rfl,rfl,rfl⟩ rfl rfl ?_
   refine gO ⟨_,_,rfl,rfl,rfl⟩ rfl rfl ?_
   refine gO ⟨_,_,rfl,rfl,rfl⟩ rfl rfl ?_
   refine gO ⟨_,_,rfl,rfl,rfl⟩ rfl rfl ?_
   refine gPT trivial rfl rfl rfl rfl rfl rfl ?_
   refine rg_nil nofun ?_
   refine cT rfl rfl ?_
   refine vc_seq ?_
   refine vc_region hm ?_
   refine gL trivial rfl rfl rfl rfl rfl rfl rfl rfl ?_
   refine gCn 6 [0,1,4,5] (spec_l6Copy_c (o:=o) (ok_len h).1 (ok_len h).2.1 (ok_len h).2.2) trivial rfl rfl rfl rfl ⟨rFlat (rSp_flat o.h) rfl (.inl rfl) rfl,rFlat (rSp_flat o.d) rfl (.inl rfl) rfl,trivial⟩ ⟨rSp_flat _,rSp_flat _,trivial⟩ rfl rfl rfl rfl ?_
   refine gT trivial rfl rfl rfl rfl rfl rfl rfl rfl rfl rfl (Nat.le_of_ble_eq_true rfl) rfl ?_
   refine gM trivial (.inr rfl) rfl rfl rfl ?_
   refine rg_nil nofun ?_
   refine vc_ret ?_
   have e_:=chO_F (o:=o) (x:=(writeX o a d)) (may:=mayW a d) (by first|exact mayW_1 (by assumption)|exact mayW_2 (by assumption)|exact mayW_3 (by assumption)|exact mayW_4 (by assumption)|exact mayW_5 (by assumption))
   rw [e_.1,e_.2]
   exact ⟨_,endsG [(2,4,⟨rSp o.h,38,2⟩),(3,5,⟨rSp o.d,38,2⟩)] (.inr rfl) (.cell rfl rfl rfl rfl rfl (.tmp rfl rfl .nil)) rfl rfl trivial ⟨⟨rfl,rSp_flat _⟩,⟨rfl,rSp_flat _⟩,trivial⟩ rfl⟩
  ·skip
   have p19:=of_decide_eq_false c19
   refine gM ⟨_,_,rfl,rfl,c19⟩ (.inl rfl) rfl rfl rfl ?_
   refine gC0 [] (spec_TextOk_c (s:=d) (by omega)) ⟨_,_,rfl,rfl,c19⟩ rfl rfl rfl rfl (by trivial) rfl rfl rfl rfl rfl ?_
   refine gN ⟨_,_,rfl,rfl,c19⟩ rfl rfl rfl rfl ?_
   refine gPF trivial rfl rfl c19 rfl rfl rfl ?_
   refine gM trivial (.inl rfl) rfl rfl rfl ?_
   refine gI2 (d:=24) rfl (fun c24=>?_) (fun c24=>?_)
   ·skip
    have n24:=unT c24
    refine gO ⟨_,_,rfl,rfl,c24⟩ rfl rfl ?_
    refine gO ⟨_,_,rfl,rfl,c24⟩ rfl rfl ?_
    refine gPT trivial rfl rfl c24 rfl rfl rfl ?_
    refine gM trivial (.inl rfl) rfl rfl rfl ?_
    refine gO ⟨_,_,rfl,rfl,rfl⟩ rfl rfl ?_
    refine gO ⟨_,_,rfl,rfl,rfl⟩ rfl rfl ?_
    refine gO ⟨_,_,rfl,rfl,rfl⟩ rfl rfl ?_
    refine gO ⟨_,_,rfl,rfl,rfl⟩ rfl rfl ?_
    refine gO ⟨_,_,rfl,rfl,rfl⟩ rfl rfl ?_
    refine gPT trivial rfl rfl rfl rfl rfl rfl ?_
    refine rg_nil nofun ?_
    refine cT rfl rfl ?_
    refine vc_seq ?_
    refine vc_region hm ?_
    refine gL trivial rfl rfl rfl rfl rfl rfl rfl rfl ?_
    refine gCn 6 [0,1,4,5] (spec_l6Copy_c (o:=o) (ok_len h).1 (ok_len h).2.1 (ok_len h).2.2) trivial rfl rfl rfl rfl ⟨rFlat (rSp_flat o.h) rfl (.inl rfl) rfl,rFlat (rSp_flat o.d) rfl (.inl rfl) rfl,trivial⟩ ⟨rSp_flat _,rSp_flat _,trivial⟩ rfl rfl rfl rfl ?_
    refine gT trivial rfl rfl rfl rfl rfl rfl rfl rfl rfl rfl (Nat.le_of_ble_eq_true rfl) rfl ?_
    refine gM trivial (.inr rfl) rfl rfl rfl ?_
    refine rg_nil nofun ?_
    refine vc_ret ?_
    have e_:=chO_F (o:=o) (x:=(writeX o a d)) (may:=mayW a d) (by first|exact mayW_1 (by assumption)|exact mayW_2 (by assumption)|exact mayW_3 (by assumption)|exact mayW_4 (by assumption)|exact mayW_5 (by assumption))
    rw [e_.1,e_.2]
    exact ⟨_,endsG [(2,4,⟨rSp o.h,38,2⟩),(3,5,⟨rSp o.d,38,2⟩)] (.inr rfl) (.cell rfl rfl rfl rfl rfl (.tmp rfl rfl .nil)) rfl rfl trivial ⟨⟨rfl,rSp_flat _⟩,⟨rfl,rSp_flat _⟩,trivial⟩ rfl⟩
   ·skip
    have n24:=unF c24
    refine gM ⟨_,_,rfl,rfl,c24⟩ (.inl rfl) rfl rfl rfl ?_
    refine gS ⟨_,_,rfl,rfl,c24⟩ rfl rfl rfl rfl rfl rfl ?_
    refine gPF trivial rfl rfl c24 rfl rfl rfl ?_
    refine gM trivial (.inl rfl) rfl rfl rfl ?_
    refine gI2 (d:=28) rfl (fun c28=>?_) (fun c28=>?_)
    ·skip
     refine gO ⟨_,_,rfl,rfl,c28⟩ rfl rfl ?_
     refine gO ⟨_,_,rfl,rfl,c28⟩ rfl rfl ?_
     refine gO ⟨_,_,rfl,rfl,c28⟩ rfl rfl ?_
     refine gO ⟨_,_,rfl,rfl,c28⟩ rfl rfl ?_
     refine gO ⟨_,_,rfl,rfl,c28⟩ rfl rfl ?_
     refine gPT trivial rfl rfl c28 rfl rfl rfl ?_
     refine rg_nil nofun ?_
     refine cT rfl rfl ?_
     refine vc_seq ?_
     refine vc_region hm ?_
     refine gL trivial rfl rfl rfl rfl rfl rfl rfl rfl ?_
     refine gCn 6 [0,1,4,5] (spec_l6Copy_c (o:=o) (ok_len h).1 (ok_len h).2.1 (ok_len h).2.2) trivial rfl rfl rfl rfl ⟨rFlat (rSp_flat o.h) rfl (.inl rfl) rfl,rFlat (rSp_flat o.d) rfl (.inl rfl) rfl,trivial⟩ ⟨rSp_flat _,rSp_flat _,trivial⟩ rfl rfl rfl rfl ?_
     refine gT trivial rfl rfl rfl rfl rfl rfl rfl rfl rfl rfl (Nat.le_of_ble_eq_true rfl) rfl ?_
     refine gM trivial (.inr rfl) rfl rfl rfl ?_
     refine rg_nil nofun ?_
     refine vc_ret ?_
     have e_:=chO_F (o:=o) (x:=(writeX o a d)) (may:=mayW a d) (by first|exact mayW_1 (by assumption)|exact mayW_2 (by assumption)|exact mayW_3 (by assumption)|exact mayW_4 (by assumption)|exact mayW_5 (by assumption))
     rw [e_.1,e_.2]
     exact ⟨_,endsG [(2,4,⟨rSp o.h,38,2⟩),(3,5,⟨rSp o.d,38,2⟩)] (.inr rfl) (.cell rfl rfl rfl rfl rfl (.tmp rfl rfl .nil)) rfl rfl trivial ⟨⟨rfl,rSp_flat _⟩,⟨rfl,rSp_flat _⟩,trivial⟩ rfl⟩
    ·skip
     refine gM ⟨_,_,rfl,rfl,c28⟩ (.inl rfl) rfl rfl rfl ?_
     refine gM ⟨_,_,rfl,rfl,c28⟩ (.inl rfl) rfl rfl rfl ?_
     refine gKT ⟨_,_,rfl,rfl,c28⟩ rfl rfl rfl rfl rfl ?_
     refine gA ⟨_,_,rfl,rfl,c28⟩ rfl rfl rfl rfl rfl rfl (by omega) ?_
     refine gI ⟨_,_,rfl,rfl,c28⟩ rfl rfl rfl rfl rfl rfl ?_
     refine gPF trivial rfl rfl c28 rfl rfl rfl ?_
     refine rg_nil nofun ?_
     refine cI rfl (fun c34=>?_) (fun c34=>?_)
     ·skip
      have p34:=of_decide_eq_true c34
      refine vc_seq ?_
      refine vc_region hm ?_
      refine gL trivial rfl rfl rfl rfl rfl rfl rfl rfl ?_
      refine gCn 6 [0,1,4,5] (spec_l6Copy_c (o:=o) (ok_len h).1 (ok_len h).2.1 (ok_len h).2.2) trivial rfl rfl rfl rfl ⟨rFlat (rSp_flat o.h) rfl (.inl rfl) rfl,rFlat (rSp_flat o.d) rfl (.inl rfl) rfl,trivial⟩ ⟨rSp_flat _,rSp_flat _,trivial⟩ rfl rfl rfl rfl ?_
      refine gT trivial rfl rfl rfl rfl rfl rfl rfl rfl rfl rfl (Nat.le_of_ble_eq_true rfl) rfl ?_
      refine gM trivial (.inr rfl) rfl rfl rfl ?_
      refine rg_nil nofun ?_
      refine vc_ret ?_
      have e_:=chO_F (o:=o) (x:=(writeX o a d)) (may:=mayW a d) (by first|exact mayW_1 (by assumption)|exact mayW_2 (by assumption)|exact mayW_3 (by assumption)|exact mayW_4 (by assumption)|exact mayW_5 (by assumption))
      rw [e_.1,e_.2]
      exact ⟨_,endsG [(2,4,⟨rSp o.h,38,2⟩),(3,5,⟨rSp o.d,38,2⟩)] (.inr rfl) (.cell rfl rfl rfl rfl rfl (.tmp rfl rfl .nil)) rfl rfl trivial ⟨⟨rfl,rSp_flat _⟩,⟨rfl,rSp_flat _⟩,trivial⟩ rfl⟩
     ·skip
      have p34:=of_decide_eq_false c34
      refine vc_skip ?_
      refine vc_seq ?_
      refine vc_region hm ?_
      refine gM trivial (.inl rfl) rfl rfl rfl ?_
      refine gM trivial (.inl rfl) rfl rfl rfl ?_
      refine gM trivial (.inl rfl) rfl rfl rfl ?_
      refine gKT trivial rfl rfl rfl rfl rfl ?_
      refine gA trivial rfl rfl rfl rfl rfl rfl (by omega) ?_
      refine gU trivial rfl rfl rfl rfl rfl rfl rfl rfl ?_
      refine gZ (u':=5) trivial rfl rfl rfl rfl rfl rfl rfl rfl ?_
      refine gT trivial rfl rfl rfl rfl rfl rfl rfl rfl rfl rfl (Nat.le_of_ble_eq_true rfl) rfl ?_
      refine rg_nil nofun ?_
      refine vc_seq ?_
      refine vc_region hm ?_
      refine gL trivial rfl rfl rfl rfl rfl rfl rfl rfl ?_
      refine gF trivial rfl rfl rfl rfl rfl ?_
      refine gL trivial rfl rfl rfl rfl rfl rfl rfl rfl ?_
      refine gL trivial rfl rfl rfl rfl rfl rfl rfl rfl ?_
      refine gM trivial (.inl rfl) rfl rfl rfl ?_
      have hmw:mayW a d=true:=mayW_T (by assumption) (by assumption) (by assumption) (by assumption) (by assumption)
      refine gC0 [] (hT ▸ spec_l6Over_c (t:=o.t) (d:=d) (s:=partW a d) (mayW_in hmw).1.1 (by show a≤a + d.size;omega) (by show a + d.size≤(o.t.size:Int);have:=(mayW_in hmw).1;omega) (ok_len h).1 hd4) trivial rfl rfl rfl rfl (by trivial) rfl rfl rfl rfl rfl ?_
      refine gF trivial rfl rfl rfl rfl rfl ?_
      refine gL trivial rfl rfl rfl rfl rfl rfl rfl rfl ?_
      refine gL trivial rfl rfl rfl rfl rfl rfl rfl rfl ?_
      refine gCn 6 [0,5] (spec_l1Add_c (l:=o.h) (s:=partW a d) (ok_len h).2.1 (spanOk_in (partW_ok hmw))) trivial rfl rfl rfl rfl ⟨rFlat (rSp_flat o.h) rfl (.inl rfl) rfl,trivial⟩ ⟨rSp_flat _,trivial⟩ rfl rfl rfl rfl ?_
      refine gF trivial rfl rfl rfl rfl rfl ?_
      refine gL trivial rfl rfl rfl rfl rfl rfl rfl rfl ?_
      refine gL trivial rfl rfl rfl rfl rfl rfl rfl rfl ?_
      refine gCn 7 [1,6] (spec_l1Add_c (l:=o.d) (s:=partW a d) (ok_len h).2.2 (spanOk_in (partW_ok hmw))) trivial rfl rfl rfl rfl ⟨rFlat (rSp_flat o.d) rfl (.inl rfl) rfl,trivial⟩ ⟨rSp_flat _,trivial⟩ rfl rfl rfl rfl ?_
      refine gU trivial rfl rfl rfl rfl rfl rfl rfl rfl ?_
      refine gCn 9 [0,1,5,6,7,8] (spec_l6Put_c (o:=o) (x:=⟨T,l1ofP (putP (ofP o.h) (ofP [partW a d]) true),l1ofP (putP (ofP o.d) (ofP [partW a d]) true)⟩) (ok_len h).1 (ok_len h).2.1 (ok_len h).2.2 (by show T.size≤_;rw [hTs hmw];decide) (Nat.le_trans ofL48_len (by decide)) (Nat.le_trans ofL48_len (by decide))) trivial rfl rfl rfl rfl ⟨rFlat (rSp_flat o.h) rfl (.inl rfl) rfl,rFlat (rSp_flat o.d) rfl (.inl rfl) rfl,rFlat (rSp_flat _) rfl (.inl rfl) rfl,rFlat (rSp_flat _) rfl (.inl rfl) rfl,trivial⟩ ⟨rSp_flat _,rSp_flat _,trivial⟩ rfl rfl rfl rfl ?_
      refine gE trivial rfl rfl rfl rfl rfl rfl ?_
      refine gE trivial rfl rfl rfl rfl rfl rfl ?_
      refine gT trivial rfl rfl rfl rfl rfl rfl rfl rfl rfl rfl (Nat.le_of_ble_eq_true rfl) rfl ?_
      refine gM trivial (.inr rfl) rfl rfl rfl ?_
      refine rg_nil (fun _=>by kernel_rfl) ?_
      refine vc_ret ?_
      have e_:=chO_P (o:=o) (x:=(writeX o a d)) hmw
      rw [e_.1,e_.2,hTX hmw]
      exact ⟨_,endsG [(2,7,⟨rSp (putO o ⟨T,l1ofP (putP (ofP o.h) (ofP [partW a d]) true),l1ofP (putP (ofP o.d) (ofP [partW a d]) true)⟩).h,38,2⟩),(3,8,⟨rSp (putO o ⟨T,l1ofP (putP (ofP o.h) (ofP [partW a d]) true),l1ofP (putP (ofP o.d) (ofP [partW a d]) true)⟩).d,38,2⟩)] (.inr rfl) (.cell rfl rfl rfl rfl rfl (.tmp rfl rfl .nil)) rfl rfl trivial ⟨⟨rfl,rSp_flat _⟩,⟨rfl,rSp_flat _⟩,trivial⟩ rfl⟩
theorem laws_eqSpanS_n : FDoes Try.prog 46 [.slice none 0 0,.slice none 0 0] (hp []) { v:=.bool true }:=by
 have hm:Try.prog.follows .mixedOrders=true:=by kernel_rfl
 have hd_:∀ x ∈ ([]:List (Nat × Bool × Fam)),∀ k y,x.2.2 k=some y→DetB (lt 0) y:=fun x_ hx=>(by cases hx)
 refine fn_exact (u0:=0) Try.func46 rfl rfl (gets rfl rfl rfl hd_ rfl) ?_
 clear hd_
 refine vc_seq ?_
 refine vc_region hm ?_
 refine gM trivial (.inr rfl) rfl rfl rfl ?_
 refine rg_nil nofun ?_
 refine vc_seq ?_
 refine vc_seq ?_
 refine vc_region hm ?_
 refine gM trivial (.inl rfl) rfl rfl rfl ?_
 refine gKN trivial rfl rfl rfl rfl rfl ?_
 refine gM trivial (.inl rfl) rfl rfl rfl ?_
 refine gKN trivial rfl rfl rfl rfl rfl ?_
 refine gI trivial rfl rfl rfl rfl rfl rfl ?_
 refine rg_nil nofun ?_
 refine cF rfl rfl ?_
 refine vc_skip ?_
 refine vc_seq ?_
 refine vc_seq ?_
 refine vc_region hm ?_
 refine gM trivial (.inr rfl) rfl rfl rfl ?_
 refine rg_nil nofun ?_
 refine vc_block ?_
 refine vc_loop' (fun n_ S_=>∃ (j:Nat),j=0∧n_=0∧S_=⟨0,[(0,.slice none 0 0),(1,.slice none 0 0),(5,.int .i64 0)],[]⟩) (m0:=idm) ⟨0,rfl,rfl,rfl⟩ (le_mk rfl ⟨⟨rfl,rfl⟩,⟨rfl,rfl⟩,⟨rfl,rfl⟩,trivial⟩ trivial rfl (fun _ _=>rfl)) ?_
 rintro n_ S_ ⟨j,hj,rfl,rfl⟩
 subst hj
 refine vc_seq ?_
 refine vc_seq ?_
 refine vc_region hm ?_
 refine gM trivial (.inl rfl) rfl rfl rfl ?_
 refine gM trivial (.inl rfl) rfl rfl rfl ?_
 refine gKN trivial rfl rfl rfl rfl rfl ?_
 refine gI trivial rfl rfl rfl rfl rfl rfl ?_
 refine rg_nil nofun ?_
 refine cF rfl rfl ?_
 refine vc_exit ?_
 refine vc_seq ?_
 refine vc_region hm ?_
 refine gM trivial (.inr rfl) rfl rfl rfl ?_
 refine rg_nil nofun ?_
 refine vc_ret ?_
 exact ⟨idm,ends0 (.inr rfl) rfl (eqB rfl) rfl rfl rfl⟩
theorem laws_markSpanS_n {k:Int}:FDoes Try.prog 59 [.slice none 0 0,.int .i64 k] (hp []) { v:=.int .i64 k }:=by
 have hm:Try.prog.follows .mixedOrders=true:=by kernel_rfl
 have hd_:∀ x ∈ ([]:List (Nat × Bool × Fam)),∀ k y,x.2.2 k=some y→DetB (lt 0) y:=fun x_ hx=>(by cases hx)
 refine fn_exact (u0:=0) Try.func59 rfl rfl (gets rfl rfl rfl hd_ rfl) ?_
 clear hd_
 refine vc_seq ?_
 refine vc_region hm ?_
 refine gM trivial (.inr rfl) rfl rfl rfl ?_
 refine rg_nil nofun ?_
 refine vc_seq ?_
 refine vc_seq ?_
 refine vc_region hm ?_
 refine gM trivial (.inr rfl) rfl rfl rfl ?_
 refine rg_nil nofun ?_
 refine vc_block ?_
 refine vc_loop' (fun n_ S_=>∃ (j:Nat),j=0∧n_=0∧S_=⟨0,[(0,.slice none 0 0),(1,.int .i64 k),(5,.int .i64 0)],[]⟩) (m0:=idm) ⟨0,rfl,rfl,rfl⟩ (le_mk rfl ⟨⟨rfl,rfl⟩,⟨rfl,rfl⟩,⟨rfl,rfl⟩,trivial⟩ trivial rfl (fun _ _=>rfl)) ?_
 rintro n_ S_ ⟨j,hj,rfl,rfl⟩
 subst hj
 refine vc_seq ?_
 refine vc_seq ?_
 refine vc_region hm ?_
 refine gM trivial (.inl rfl) rfl rfl rfl ?_
 refine gM trivial (.inl rfl) rfl rfl rfl ?_
 refine gKN trivial rfl rfl rfl rfl rfl ?_
 refine gI trivial rfl rfl rfl rfl rfl rfl ?_
 refine rg_nil nofun ?_
 refine cF rfl rfl ?_
 refine vc_exit ?_
 refine vc_seq ?_
 refine vc_region hm ?_
 refine gM trivial (.inl rfl) rfl rfl rfl ?_
 refine gM trivial (.inr rfl) rfl rfl rfl ?_
 refine rg_nil nofun ?_
 refine vc_ret ?_
 exact ⟨idm,ends0 (.inr rfl) rfl rfl rfl rfl rfl⟩
theorem laws_heldSpanS_n {k:Int}:FDoes Try.prog 67 [.slice none 0 0,.int .i64 k] (hp []) { v:=.int .i64 k }:=by
 have hm:Try.prog.follows .mixedOrders=true:=by kernel_rfl
 have hd_:∀ x ∈ ([]:List (Nat × Bool × Fam)),∀ k y,x.2.2 k=some y→DetB (lt 0) y:=fun x_ hx=>(by cases hx)
 refine fn_exact (u0:=0) Try.func67 rfl rfl (gets rfl rfl rfl hd_ rfl) ?_
 clear hd_
 refine vc_seq ?_
 refine vc_region hm ?_
 refine gM trivial (.inr rfl) rfl rfl rfl ?_
 refine rg_nil nofun ?_
 refine vc_seq ?_
 refine vc_seq ?_
 refine vc_region hm ?_
 refine gM trivial (.inr rfl) rfl rfl rfl ?_
 refine rg_nil nofun ?_
 refine vc_block ?_
 refine vc_loop' (fun n_ S_=>∃ (j:Nat),j=0∧n_=0∧S_=⟨0,[(0,.slice none 0 0),(1,.int .i64 k),(5,.int .i64 0)],[]⟩) (m0:=idm) ⟨0,rfl,rfl,rfl⟩ (le_mk rfl ⟨⟨rfl,rfl⟩,⟨rfl,rfl⟩,⟨rfl,rfl⟩,trivial⟩ trivial rfl (fun _ _=>rfl)) ?_
 rintro n_ S_ ⟨j,hj,rfl,rfl⟩
 subst hj
 refine vc_seq ?_
 refine vc_seq ?_
 refine vc_region hm ?_
 refine gM trivial (.inl rfl) rfl rfl rfl ?_
 refine gM trivial (.inl rfl) rfl rfl rfl ?_
 refine gKN trivial rfl rfl rfl rfl rfl ?_
 refine gI trivial rfl rfl rfl rfl rfl rfl ?_
 refine rg_nil nofun ?_
 refine cF rfl rfl ?_
 refine vc_exit ?_
 refine vc_seq ?_
 refine vc_region hm ?_
 refine gM trivial (.inl rfl) rfl rfl rfl ?_
 refine gM trivial (.inr rfl) rfl rfl rfl ?_
 refine rg_nil nofun ?_
 refine vc_ret ?_
 exact ⟨idm,ends0 (.inr rfl) rfl rfl rfl rfl rfl⟩
theorem laws_eqOwn_n : FDoes Try.prog 17 [.agg #[.string ⟨#[]⟩,.slice none 0 0,.slice none 0 0],.agg #[.string ⟨#[]⟩,.slice none 0 0,.slice none 0 0]] (hp []) { v:=.bool true }:=by
 have hm:Try.prog.follows .mixedOrders=true:=by kernel_rfl
 have hd_:∀ x ∈ ([]:List (Nat × Bool × Fam)),∀ k y,x.2.2 k=some y→DetB (lt 0) y:=fun x_ hx=>(by cases hx)
 refine fn_exact (u0:=0) Try.func17 rfl rfl (gets rfl rfl rfl hd_ rfl) ?_
 clear hd_
 refine vc_seq ?_
 refine vc_region hm ?_
 refine gB (u':=1) trivial rfl rfl rfl rfl rfl rfl rfl rfl ?_
 refine gB (u':=2) trivial rfl rfl rfl rfl rfl rfl rfl rfl ?_
 refine gM trivial (.inr rfl) rfl rfl rfl ?_
 refine rg_nil nofun ?_
 refine vc_seq ?_
 refine vc_seq ?_
 refine vc_region hm ?_
 refine gF trivial rfl rfl rfl rfl rfl ?_
 refine gL trivial rfl rfl rfl rfl rfl rfl rfl rfl ?_
 refine gF trivial rfl rfl rfl rfl rfl ?_
 refine gL trivial rfl rfl rfl rfl rfl rfl rfl rfl ?_
 refine gS trivial rfl rfl rfl rfl rfl rfl ?_
 refine rg_nil nofun ?_
 refine cF rfl (nselfT _) ?_
 refine vc_skip ?_
 refine vc_seq ?_
 refine vc_seq ?_
 refine vc_region hm ?_
 refine gF trivial rfl rfl rfl rfl rfl ?_
 refine gL trivial rfl rfl rfl rfl rfl rfl rfl rfl ?_
 refine gF trivial rfl rfl rfl rfl rfl ?_
 refine gL trivial rfl rfl rfl rfl rfl rfl rfl rfl ?_
 refine gC0 [] (laws_eqSpanS_n) trivial rfl rfl rfl rfl (by trivial) rfl rfl rfl rfl rfl ?_
 refine gN trivial rfl rfl rfl rfl ?_
 refine rg_nil nofun ?_
 refine cF rfl (notT rfl) ?_
 refine vc_skip ?_
 refine vc_seq ?_
 refine vc_seq ?_
 refine vc_region hm ?_
 refine gF trivial rfl rfl rfl rfl rfl ?_
 refine gL trivial rfl rfl rfl rfl rfl rfl rfl rfl ?_
 refine gF trivial rfl rfl rfl rfl rfl ?_
 refine gL trivial rfl rfl rfl rfl rfl rfl rfl rfl ?_
 refine gC0 [] (laws_eqSpanS_n) trivial rfl rfl rfl rfl (by trivial) rfl rfl rfl rfl rfl ?_
 refine gN trivial rfl rfl rfl rfl ?_
 refine rg_nil nofun ?_
 refine cF rfl (notT rfl) ?_
 refine vc_skip ?_
 refine vc_seq ?_
 refine vc_region hm ?_
 refine gM trivial (.inr rfl) rfl rfl rfl ?_
 refine rg_nil nofun ?_
 refine vc_ret ?_
 exact ⟨idm,ends0 (.inr rfl) rfl (eqB rfl) rfl rfl rfl⟩
theorem laws_markOwn_n : FDoes Try.prog 26 [.agg #[.string ⟨#[]⟩,.slice none 0 0,.slice none 0 0],.int .i64 1] (hp []) { v:=.int .i64 1 }:=by
 have hm:Try.prog.follows .mixedOrders=true:=by kernel_rfl
 have hd_:∀ x ∈ ([]:List (Nat × Bool × Fam)),∀ k y,x.2.2 k=some y→DetB (lt 0) y:=fun x_ hx=>(by cases hx)
 refine fn_exact (u0:=0) Try.func26 rfl rfl (gets rfl rfl rfl hd_ rfl) ?_
 clear hd_
 refine vc_seq ?_
 refine vc_region hm ?_
 refine gB (u':=1) trivial rfl rfl rfl rfl rfl rfl rfl rfl ?_
 refine gM trivial (.inr rfl) rfl rfl rfl ?_
 refine rg_nil nofun ?_
 refine vc_seq ?_
 refine vc_region hm ?_
 refine gF trivial rfl rfl rfl rfl rfl ?_
 refine gL trivial rfl rfl rfl rfl rfl rfl rfl rfl ?_
 refine gM trivial (.inl rfl) rfl rfl rfl ?_
 refine gC0 [] (laws_markSpanS_n (k:=1)) trivial rfl rfl rfl rfl (by trivial) rfl rfl rfl rfl rfl ?_
 refine gM trivial (.inr rfl) rfl rfl rfl ?_
 refine rg_nil nofun ?_
 refine vc_seq ?_
 refine vc_region hm ?_
 refine gF trivial rfl rfl rfl rfl rfl ?_
 refine gL trivial rfl rfl rfl rfl rfl rfl rfl rfl ?_
 refine gM trivial (.inl rfl) rfl rfl rfl ?_
 refine gC0 [] (laws_markSpanS_n (k:=1)) trivial rfl rfl rfl rfl (by trivial) rfl rfl rfl rfl rfl ?_
 refine gM trivial (.inr rfl) rfl rfl rfl ?_
 refine rg_nil nofun ?_
 refine vc_seq ?_
 refine vc_region hm ?_
 refine gM trivial (.inl rfl) rfl rfl rfl ?_
 refine gM trivial (.inr rfl) rfl rfl rfl ?_
 refine rg_nil nofun ?_
 refine vc_ret ?_
 exact ⟨idm,ends0 (.inr rfl) rfl rfl rfl rfl rfl⟩
theorem laws_heldOwn_n : FDoes Try.prog 31 [.agg #[.string ⟨#[]⟩,.slice none 0 0,.slice none 0 0],.int .i64 1] (hp []) { v:=.int .i64 1 }:=by
 have hm:Try.prog.follows .mixedOrders=true:=by kernel_rfl
 have hd_:∀ x ∈ ([]:List (Nat × Bool × Fam)),∀ k y,x.2.2 k=some y→DetB (lt 0) y:=fun x_ hx=>(by cases hx)
 refine fn_exact (u0:=0) Try.func31 rfl rfl (gets rfl rfl rfl hd_ rfl) ?_
 clear hd_
 refine vc_seq ?_
 refine vc_region hm ?_
 refine gB (u':=1) trivial rfl rfl rfl rfl rfl rfl rfl rfl ?_
 refine gM trivial (.inr rfl) rfl rfl rfl ?_
 refine rg_nil nofun ?_
 refine vc_seq ?_
 refine vc_region hm ?_
 refine gF trivial rfl rfl rfl rfl rfl ?_
 refine gL trivial rfl rfl rfl rfl rfl rfl rfl rfl ?_
 refine gM trivial (.inl rfl) rfl rfl rfl ?_
 refine gC0 [] (laws_heldSpanS_n (k:=1)) trivial rfl rfl rfl rfl (by trivial) rfl rfl rfl rfl rfl ?_
 refine gM trivial (.inr rfl) rfl rfl rfl ?_
 refine rg_nil nofun ?_
 refine vc_seq ?_
 refine vc_seq ?_
 refine vc_region hm ?_
 refine gM trivial (.inl rfl) rfl rfl rfl ?_
 refine gI trivial rfl rfl rfl rfl rfl rfl ?_
 refine rg_nil nofun ?_
 refine cF rfl rfl ?_
 refine vc_skip ?_
 refine vc_seq ?_
 refine vc_region hm ?_
 refine gF trivial rfl rfl rfl rfl rfl ?_
 refine gL trivial rfl rfl rfl rfl rfl rfl rfl rfl ?_
 refine gM trivial (.inl rfl) rfl rfl rfl ?_
 refine gC0 [] (laws_heldSpanS_n (k:=1)) trivial rfl rfl rfl rfl (by trivial) rfl rfl rfl rfl rfl ?_
 refine gM trivial (.inr rfl) rfl rfl rfl ?_
 refine rg_nil nofun ?_
 refine vc_seq ?_
 refine vc_seq ?_
 refine vc_region hm ?_
 refine gM trivial (.inl rfl) rfl rfl rfl ?_
 refine gI trivial rfl rfl rfl rfl rfl rfl ?_
 refine rg_nil nofun ?_
 refine cF rfl rfl ?_
 refine vc_skip ?_
 refine vc_seq ?_
 refine vc_region hm ?_
 refine gM trivial (.inl rfl) rfl rfl rfl ?_
 refine gM trivial (.inr rfl) rfl rfl rfl ?_
 refine rg_nil nofun ?_
 refine vc_ret ?_
 exact ⟨idm,ends0 (.inr rfl) rfl rfl rfl rfl rfl⟩
theorem laws_markSpanS_c102 {l:List Sp} {k:Int} (hn:l.length≤1048576) (hk:0≤k) (hk2:k≤1073741824):FDoes Try.prog 59 [.slice (some ⟨0,0,none⟩) l.length 0,.int .i64 k] (hp [(0,true,one ⟨rSp l,38,102⟩)]) (mkE (.int .i64 (k + 2 * l.length)) [] [(0,⟨rSp (markSp k l),38,102⟩)] []):=by
 have hm:Try.prog.follows .mixedOrders=true:=by kernel_rfl
 have hd_:∀ x_ ∈ ([(0,true,one ⟨rSp l,38,102⟩)]:List (Nat × Bool × Fam)),∀ k_ y_,x_.2.2 k_=some y_→DetB (lt 1) y_:=by
  intro x_ hx k_ y_ e
  simp only [List.mem_cons,List.not_mem_nil,or_false] at hx
  subst hx
  exact det_row (rSp_flat l) e
 refine fn_exact (u0:=1) Try.func59 rfl rfl (gets rfl rfl rfl hd_ rfl) ?_
 clear hd_
 refine vc_seq ?_
 refine vc_region hm ?_
 refine gM trivial (.inr rfl) rfl rfl rfl ?_
 refine rg_nil nofun ?_
 refine vc_seq ?_
 refine vc_seq ?_
 refine vc_region hm ?_
 refine gM trivial (.inr rfl) rfl rfl rfl ?_
 refine rg_nil nofun ?_
 refine vc_block ?_
 refine vc_loop' (fun n_ S_=>∃ (j:Nat),j≤l.length∧n_=l.length - j∧S_=⟨1,[(0,.slice (some ⟨0,0,none⟩) l.length 0),(1,.int .i64 (k + 2 * j)),(5,.int .i64 j)],[(0,true,one ⟨rSp (markR k l j),38,102⟩)]⟩) (m0:=idm) ⟨0,Nat.zero_le _,rfl,rfl⟩ (le_mk rfl ⟨⟨rfl,rfl⟩,⟨eqI (by omega),rfl⟩,⟨rfl,rfl⟩,trivial⟩ ⟨kFlat (rSp_flat _) (eqH markR_0) id rfl,trivial⟩ rfl (fun _ _=>rfl)) ?_
 rintro n_ S_ ⟨j,hj,rfl,rfl⟩
 refine vc_seq ?_
 refine vc_seq ?_
 refine vc_region hm ?_
 refine gM trivial (.inl rfl) rfl rfl rfl ?_
 refine gM trivial (.inl rfl) rfl rfl rfl ?_
 refine gK trivial rfl rfl rfl rfl rfl rfl (fun h=>by have:=rSp_nil h;rw [markR_len (by omega)] at this;exact this) ?_
 refine gI trivial rfl rfl rfl rfl rfl rfl ?_
 refine rg_nil nofun ?_
 refine cI rfl (fun c9=>?_) (fun c9=>?_)
 ·skip
  have p9:=of_decide_eq_true c9
  refine vc_skip ?_
  refine vc_seq ?_
  refine vc_block ?_
  refine vc_seq ?_
  refine vc_region hm ?_
  refine gM trivial (.inl rfl) rfl rfl rfl ?_
  refine gM trivial (.inl rfl) rfl rfl rfl ?_
  refine gM trivial (.inl rfl) rfl rfl rfl ?_
  refine gX trivial rfl rfl rfl rfl rfl rfl rfl rfl (by omega) p9 (fun h=>rSp_ne (by first|(rw [markR_len (by omega)];exact h)|(rw [List.length_set,markR_len (by omega)];exact h))) ?_
  refine gF trivial rfl rfl rfl rfl rfl ?_
  refine gT trivial rfl rfl rfl rfl rfl rfl rfl rfl rfl rfl (kSp0 (by omega) (by first|(rw [markR_len (by omega)];omega)|(rw [List.length_set,markR_len (by omega)];omega))) (sSp0 (by omega) (by first|(rw [markR_len (by omega)];omega)|(rw [List.length_set,markR_len (by omega)];omega))) ?_
  refine rg_nil nofun ?_
  refine vc_seq ?_
  refine vc_region hm ?_
  refine gM trivial (.inl rfl) rfl rfl rfl ?_
  refine gA trivial rfl rfl rfl rfl rfl rfl (by omega) ?_
  refine gM trivial (.inr rfl) rfl rfl rfl ?_
  refine rg_nil nofun ?_
  refine vc_seq ?_
  refine vc_region hm ?_
  refine gM trivial (.inl rfl) rfl rfl rfl ?_
  refine gM trivial (.inl rfl) rfl rfl rfl ?_
  refine gM trivial (.inl rfl) rfl rfl rfl ?_
  refine gX trivial rfl rfl rfl rfl rfl rfl rfl rfl (by omega) p9 (fun h=>rSp_ne (by first|(rw [markR_len (by omega)];exact h)|(rw [List.length_set,markR_len (by omega)];exact h))) ?_
  refine gF trivial rfl rfl rfl rfl rfl ?_
  refine gT trivial rfl rfl rfl rfl rfl rfl rfl rfl rfl rfl (kSp1 (by omega) (by first|(rw [markR_len (by omega)];omega)|(rw [List.length_set,markR_len (by omega)];omega))) (sSp1 (by omega) (by first|(rw [markR_len (by omega)];omega)|(rw [List.length_set,markR_len (by omega)];omega))) ?_
  refine rg_nil nofun ?_
  refine vc_region hm ?_
  refine gM trivial (.inl rfl) rfl rfl rfl ?_
  refine gA trivial rfl rfl rfl rfl rfl rfl (by omega) ?_
  refine gM trivial (.inr rfl) rfl rfl rfl ?_
  refine rg_nil nofun ?_
  refine vc_region hm ?_
  refine gM trivial (.inl rfl) rfl rfl rfl ?_
  refine gA trivial rfl rfl rfl rfl rfl rfl (by omega) ?_
  refine gM trivial (.inr rfl) rfl rfl rfl ?_
  refine rg_nil nofun ?_
  exact lp_next (m:=idm) ⟨j + 1,(by omega),rfl,rfl⟩ (by omega) (le_mk rfl ⟨⟨rfl,rfl⟩,⟨eqI (by omega),rfl⟩,⟨rfl,rfl⟩,trivial⟩ ⟨kFlat (rSp_flat _) (eqH (congrArg _ (markR_step p9 _ _ _ rfl (by first|rfl|exact at_lo_set p9)))) id rfl,trivial⟩ rfl (fun _ _=>rfl))
 ·skip
  have p9:=of_decide_eq_false c9
  refine vc_exit ?_
  refine vc_seq ?_
  refine vc_region hm ?_
  refine gM trivial (.inl rfl) rfl rfl rfl ?_
  refine gM trivial (.inr rfl) rfl rfl rfl ?_
  refine rg_nil nofun ?_
  refine vc_ret ?_
  rw [markR_end hj p9]
  exact ⟨_,endsG [] (.inr rfl) (.tmp rfl (show plainV (.int .i64 _)=true from rfl) .nil) (by rw [show j=l.length by omega];rfl) rfl ⟨⟨⟨_,rfl⟩,⟨_,rfl⟩,rSp_flat _⟩,trivial⟩ trivial rfl⟩
theorem laws_markSpanS_c2 {l:List Sp} {k:Int} (hn:l.length≤1048576) (hk:0≤k) (hk2:k≤1073741824):FDoes Try.prog 59 [.slice (some ⟨0,0,none⟩) l.length 0,.int .i64 k] (hp [(0,true,one ⟨rSp l,38,2⟩)]) (mkE (.int .i64 (k + 2 * l.length)) [] [(0,⟨rSp (markSp k l),38,2⟩)] []):=by
 have hm:Try.prog.follows .mixedOrders=true:=by kernel_rfl
 have hd_:∀ x_ ∈ ([(0,true,one ⟨rSp l,38,2⟩)]:List (Nat × Bool × Fam)),∀ k_ y_,x_.2.2 k_=some y_→DetB (lt 1) y_:=by
  intro x_ hx k_ y_ e
  simp only [List.mem_cons,List.not_mem_nil,or_false] at hx
  subst hx
  exact det_row (rSp_flat l) e
 refine fn_exact (u0:=1) Try.func59 rfl rfl (gets rfl rfl rfl hd_ rfl) ?_
 clear hd_
 refine vc_seq ?_
 refine vc_region hm ?_
 refine gM trivial (.inr rfl) rfl rfl rfl ?_
 refine rg_nil nofun ?_
 refine vc_seq ?_
 refine vc_seq ?_
 refine vc_region hm ?_
 refine gM trivial (.inr rfl) rfl rfl rfl ?_
 refine rg_nil nofun ?_
 refine vc_block ?_
 refine vc_loop' (fun n_ S_=>∃ (j:Nat),j≤l.length∧n_=l.length - j∧S_=⟨1,[(0,.slice (some ⟨0,0,none⟩) l.length 0),(1,.int .i64 (k + 2 * j)),(5,.int .i64 j)],[(0,true,one ⟨rSp (markR k l j),38,2⟩)]⟩) (m0:=idm) ⟨0,Nat.zero_le _,rfl,rfl⟩ (le_mk rfl ⟨⟨rfl,rfl⟩,⟨eqI (by omega),rfl⟩,⟨rfl,rfl⟩,trivial⟩ ⟨kFlat (rSp_flat _) (eqH markR_0) id rfl,trivial⟩ rfl (fun _ _=>rfl)) ?_
 rintro n_ S_ ⟨j,hj,rfl,rfl⟩
 refine vc_seq ?_
 refine vc_seq ?_
 refine vc_region hm ?_
 refine gM trivial (.inl rfl) rfl rfl rfl ?_
 refine gM trivial (.inl rfl) rfl rfl rfl ?_
 refine gK trivial rfl rfl rfl rfl rfl rfl (fun h=>by have:=rSp_nil h;rw [markR_len (by omega)] at this;exact this) ?_
 refine gI trivial rfl rfl rfl rfl rfl rfl ?_
 refine rg_nil nofun ?_
 refine cI rfl (fun c9=>?_) (fun c9=>?_)
 ·skip
  have p9:=of_decide_eq_true c9
  refine vc_skip ?_
  refine vc_seq ?_
  refine vc_block ?_
  refine vc_seq ?_
  refine vc_region hm ?_
  refine gM trivial (.inl rfl) rfl rfl rfl ?_
  refine gM trivial (.inl rfl) rfl rfl rfl ?_
  refine gM trivial (.inl rfl) rfl rfl rfl ?_
  refine gX trivial rfl rfl rfl rfl rfl rfl rfl rfl (by omega) p9 (fun h=>rSp_ne (by first|(rw [markR_len (by omega)];exact h)|(rw [List.length_set,markR_len (by omega)];exact h))) ?_
  refine gF trivial rfl rfl rfl rfl rfl ?_
  refine gT trivial rfl rfl rfl rfl rfl rfl rfl rfl rfl rfl (kSp0 (by omega) (by first|(rw [markR_len (by omega)];omega)|(rw [List.length_set,markR_len (by omega)];omega))) (sSp0 (by omega) (by first|(rw [markR_len (by omega)];omega)|(rw [List.length_set,markR_len (by omega)];omega))) ?_
  refine rg_nil nofun ?_
  refine vc_seq ?_
  refine vc_region hm ?_
  refine gM trivial (.inl rfl) rfl rfl rfl ?_
  refine gA trivial rfl rfl rfl rfl rfl rfl (by omega) ?_
  refine gM trivial (.inr rfl) rfl rfl rfl ?_
  refine rg_nil nofun ?_
  refine vc_seq ?_
  refine vc_region hm ?_
  refine gM trivial (.inl rfl) rfl rfl rfl ?_
  refine gM trivial (.inl rfl) rfl rfl rfl ?_
  refine gM trivial (.inl rfl) rfl rfl rfl ?_
  refine gX trivial rfl rfl rfl rfl rfl rfl rfl rfl (by omega) p9 (fun h=>rSp_ne (by first|(rw [markR_len (by omega)];exact h)|(rw [List.length_set,markR_len (by omega)];exact h))) ?_
  refine gF trivial rfl rfl rfl rfl rfl ?_
  refine gT trivial rfl rfl rfl rfl rfl rfl rfl rfl rfl rfl (kSp1 (by omega) (by first|(rw [markR_len (by omega)];omega)|(rw [List.length_set,markR_len (by omega)];omega))) (sSp1 (by omega) (by first|(rw [markR_len (by omega)];omega)|(rw [List.length_set,markR_len (by omega)];omega))) ?_
  refine rg_nil nofun ?_
  refine vc_region hm ?_
  refine gM trivial (.inl rfl) rfl rfl rfl ?_
  refine gA trivial rfl rfl rfl rfl rfl rfl (by omega) ?_
  refine gM trivial (.inr rfl) rfl rfl rfl ?_
  refine rg_nil nofun ?_
  refine vc_region hm ?_
  refine gM trivial (.inl rfl) rfl rfl rfl ?_
  refine gA trivial rfl rfl rfl rfl rfl rfl (by omega) ?_
  refine gM trivial (.inr rfl) rfl rfl rfl ?_
  refine rg_nil nofun ?_
  exact lp_next (m:=idm) ⟨j + 1,(by omega),rfl,rfl⟩ (by omega) (le_mk rfl ⟨⟨rfl,rfl⟩,⟨eqI (by omega),rfl⟩,⟨rfl,rfl⟩,trivial⟩ ⟨kFlat (rSp_flat _) (eqH (congrArg _ (markR_step p9 _ _ _ rfl (by first|rfl|exact at_lo_set p9)))) id rfl,trivial⟩ rfl (fun _ _=>rfl))
 ·skip
  have p9:=of_decide_eq_false c9
  refine vc_exit ?_
  refine vc_seq ?_
  refine vc_region hm ?_
  refine gM trivial (.inl rfl) rfl rfl rfl ?_
  refine gM trivial (.inr rfl) rfl rfl rfl ?_
  refine rg_nil nofun ?_
  refine vc_ret ?_
  rw [markR_end hj p9]
  exact ⟨_,endsG [] (.inr rfl) (.tmp rfl (show plainV (.int .i64 _)=true from rfl) .nil) (by rw [show j=l.length by omega];rfl) rfl ⟨⟨⟨_,rfl⟩,⟨_,rfl⟩,rSp_flat _⟩,trivial⟩ trivial rfl⟩
theorem laws_heldSpanS_c {l:List Sp} {k:Int} (hn:l.length≤1048576) (hk:0≤k) (hk2:k≤1073741824):FDoes Try.prog 67 [.slice (some ⟨0,0,none⟩) l.length 0,.int .i64 k] (hp [(0,false,one ⟨rSp (markSp k l),38,0⟩)]) { v:=.int .i64 (k + 2 * l.length),rd:=[0] }:=by
 have hm:Try.prog.follows .mixedOrders=true:=by kernel_rfl
 have hd_:∀ x_ ∈ ([(0,false,one ⟨rSp (markSp k l),38,0⟩)]:List (Nat × Bool × Fam)),∀ k_ y_,x_.2.2 k_=some y_→DetB (lt 1) y_:=by
  intro x_ hx k_ y_ e
  simp only [List.mem_cons,List.not_mem_nil,or_false] at hx
  subst hx
  exact det_row (rSp_flat (markSp k l)) e
 refine fn_exact (u0:=1) Try.func67 rfl rfl (gets rfl rfl rfl hd_ rfl) ?_
 clear hd_
 refine vc_seq ?_
 refine vc_region hm ?_
 refine gM trivial (.inr rfl) rfl rfl rfl ?_
 refine rg_nil nofun ?_
 refine vc_seq ?_
 refine vc_seq ?_
 refine vc_region hm ?_
 refine gM trivial (.inr rfl) rfl rfl rfl ?_
 refine rg_nil nofun ?_
 refine vc_block ?_
 refine vc_loop' (fun n_ S_=>∃ (j:Nat),j≤l.length∧n_=l.length - j∧S_=⟨1,[(0,.slice (some ⟨0,0,none⟩) l.length 0),(1,.int .i64 (k + 2 * j)),(5,.int .i64 j)],[(0,false,one ⟨rSp (markSp k l),38,0⟩)]⟩) (m0:=idm) ⟨0,Nat.zero_le _,rfl,rfl⟩ (le_mk rfl ⟨⟨rfl,rfl⟩,⟨eqI (by omega),rfl⟩,⟨rfl,rfl⟩,trivial⟩ ⟨kFlat (rSp_flat _) rfl id rfl,trivial⟩ rfl (fun _ _=>rfl)) ?_
 rintro n_ S_ ⟨j,hj,rfl,rfl⟩
 refine vc_seq ?_
 refine vc_seq ?_
 refine vc_region hm ?_
 refine gM trivial (.inl rfl) rfl rfl rfl ?_
 refine gM trivial (.inl rfl) rfl rfl rfl ?_
 refine gK trivial rfl rfl rfl rfl rfl rfl (fun h=>by have:=rSp_nil h;rw [markSp_len] at this;exact this) ?_
 refine gI trivial rfl rfl rfl rfl rfl rfl ?_
 refine rg_nil nofun ?_
 refine cI rfl (fun c9=>?_) (fun c9=>?_)
 ·skip
  have p9:=of_decide_eq_true c9
  refine vc_skip ?_
  refine vc_seq ?_
  refine vc_block ?_
  refine vc_seq ?_
  refine vc_seq ?_
  refine vc_region hm ?_
  refine gM trivial (.inl rfl) rfl rfl rfl ?_
  refine gM trivial (.inl rfl) rfl rfl rfl ?_
  refine gX trivial rfl rfl rfl rfl rfl rfl rfl rfl (by omega) p9 (fun h=>rSp_ne (by rw [markSp_len];exact h)) ?_
  refine gF trivial rfl rfl rfl rfl rfl ?_
  refine gL trivial rfl rfl rfl rfl rfl rfl rfl (lSp0 (by omega) (by rw [markSp_len];exact p9)) ?_
  refine gM trivial (.inl rfl) rfl rfl rfl ?_
  refine gI trivial rfl rfl rfl rfl rfl rfl ?_
  refine rg_nil nofun ?_
  refine cF rfl (bne_eq_false_iff_eq.2 (by rw [mark_at p9];rfl)) ?_
  refine vc_skip ?_
  refine vc_seq ?_
  refine vc_region hm ?_
  refine gM trivial (.inl rfl) rfl rfl rfl ?_
  refine gA trivial rfl rfl rfl rfl rfl rfl (by omega) ?_
  refine gM trivial (.inr rfl) rfl rfl rfl ?_
  refine rg_nil nofun ?_
  refine vc_seq ?_
  refine vc_seq ?_
  refine vc_region hm ?_
  refine gM trivial (.inl rfl) rfl rfl rfl ?_
  refine gM trivial (.inl rfl) rfl rfl rfl ?_
  refine gX trivial rfl rfl rfl rfl rfl rfl rfl rfl (by omega) p9 (fun h=>rSp_ne (by rw [markSp_len];exact h)) ?_
  refine gF trivial rfl rfl rfl rfl rfl ?_
  refine gL trivial rfl rfl rfl rfl rfl rfl rfl (lSp1 (by omega) (by rw [markSp_len];exact p9)) ?_
  refine gM trivial (.inl rfl) rfl rfl rfl ?_
  refine gI trivial rfl rfl rfl rfl rfl rfl ?_
  refine rg_nil nofun ?_
  refine cF rfl (bne_eq_false_iff_eq.2 (by rw [mark_at p9];rfl)) ?_
  refine vc_skip ?_
  refine vc_region hm ?_
  refine gM trivial (.inl rfl) rfl rfl rfl ?_
  refine gA trivial rfl rfl rfl rfl rfl rfl (by omega) ?_
  refine gM trivial (.inr rfl) rfl rfl rfl ?_
  refine rg_nil nofun ?_
  refine vc_region hm ?_
  refine gM trivial (.inl rfl) rfl rfl rfl ?_
  refine gA trivial rfl rfl rfl rfl rfl rfl (by omega) ?_
  refine gM trivial (.inr rfl) rfl rfl rfl ?_
  refine rg_nil nofun ?_
  exact lp_next (m:=idm) ⟨j + 1,(by omega),rfl,rfl⟩ (by omega) (le_mk rfl ⟨⟨rfl,rfl⟩,⟨eqI (by omega),rfl⟩,⟨rfl,rfl⟩,trivial⟩ ⟨kFlat (rSp_flat _) rfl id rfl,trivial⟩ rfl (fun _ _=>rfl))
 ·skip
  have p9:=of_decide_eq_false c9
  refine vc_exit ?_
  refine vc_seq ?_
  refine vc_region hm ?_
  refine gM trivial (.inl rfl) rfl rfl rfl ?_
  refine gM trivial (.inr rfl) rfl rfl rfl ?_
  refine rg_nil nofun ?_
  refine vc_ret ?_
  exact ⟨idm,ends0 (.inr rfl) rfl (eqI (by omega)) rfl rfl rfl⟩
theorem laws_markOwn_c102 {o:Ow} {k:Int} (hh:o.h.length≤1048576) (hd:o.d.length≤1048576) (hk:0≤k) (hk2:k≤1048576):FDoes Try.prog 26 [.agg #[.string o.t,.slice (some ⟨0,0,none⟩) o.h.length 0,.slice (some ⟨1,0,none⟩) o.d.length 0],.int .i64 k] (hp [(0,true,one ⟨rSp o.h,38,102⟩),(1,true,one ⟨rSp o.d,38,102⟩)]) (mkE (.int .i64 ((k + 2 * o.h.length) + 2 * o.d.length)) [] [(0,⟨rSp (markSp k o.h),38,102⟩),(1,⟨rSp (markSp (k + 2 * o.h.length) o.d),38,102⟩)] []):=by
 have hm:Try.prog.follows .mixedOrders=true:=by kernel_rfl
 have hd_:∀ x_ ∈ ([(0,true,one ⟨rSp o.h,38,102⟩),(1,true,one ⟨rSp o.d,38,102⟩)]:List (Nat × Bool × Fam)),∀ k_ y_,x_.2.2 k_=some y_→DetB (lt 2) y_:=by
  intro x_ hx k_ y_ e
  simp only [List.mem_cons,List.not_mem_nil,or_false] at hx
  rcases hx with rfl|rfl
  ·exact det_row (rSp_flat o.h) e
  ·exact det_row (rSp_flat o.d) e
 refine fn_exact (u0:=2) Try.func26 rfl rfl (gets rfl rfl rfl hd_ rfl) ?_
 clear hd_
 refine vc_seq ?_
 refine vc_region hm ?_
 refine gB (u':=3) trivial rfl rfl rfl rfl rfl rfl rfl rfl ?_
 refine gM trivial (.inr rfl) rfl rfl rfl ?_
 refine rg_nil nofun ?_
 refine vc_seq ?_
 refine vc_region hm ?_
 refine gF trivial rfl rfl rfl rfl rfl ?_
 refine gL trivial rfl rfl rfl rfl rfl rfl rfl rfl ?_
 refine gM trivial (.inl rfl) rfl rfl rfl ?_
 refine gCG 3 [0] (laws_markSpanS_c102 (l:=o.h) (k:=k) hh hk (by omega)) trivial rfl rfl rfl rfl ⟨rFlat (rSp_flat o.h) rfl (.inr rfl) rfl,trivial⟩ ⟨rSp_flat _,trivial⟩ trivial rfl rfl (by intro x hx;obtain rfl:=List.mem_singleton.1 hx;exact ⟨_,rfl⟩) (by intro x hx;obtain rfl:=List.mem_singleton.1 hx;exact ⟨_,_,rfl⟩) rfl rfl ?_
 refine gM trivial (.inr rfl) rfl rfl rfl ?_
 refine rg_nil nofun ?_
 refine vc_seq ?_
 refine vc_region hm ?_
 refine gF trivial rfl rfl rfl rfl rfl ?_
 refine gL trivial rfl rfl rfl rfl rfl rfl rfl rfl ?_
 refine gM trivial (.inl rfl) rfl rfl rfl ?_
 refine gCG 3 [1] (laws_markSpanS_c102 (l:=o.d) (k:=(k + 2 * o.h.length)) hd (by omega) (by omega)) trivial rfl rfl rfl rfl ⟨rFlat (rSp_flat o.d) rfl (.inr rfl) rfl,trivial⟩ ⟨rSp_flat _,trivial⟩ trivial rfl rfl (by intro x hx;obtain rfl:=List.mem_singleton.1 hx;exact ⟨_,rfl⟩) (by intro x hx;obtain rfl:=List.mem_singleton.1 hx;exact ⟨_,_,rfl⟩) rfl rfl ?_
 refine gM trivial (.inr rfl) rfl rfl rfl ?_
 refine rg_nil nofun ?_
 refine vc_seq ?_
 refine vc_region hm ?_
 refine gM trivial (.inl rfl) rfl rfl rfl ?_
 refine gM trivial (.inr rfl) rfl rfl rfl ?_
 refine rg_nil nofun ?_
 refine vc_ret ?_
 exact ⟨_,endsG [] (.inr rfl) (.tmp rfl rfl .nil) rfl rfl ⟨⟨⟨_,rfl⟩,⟨_,rfl⟩,rSp_flat _⟩,⟨⟨_,rfl⟩,⟨_,rfl⟩,rSp_flat _⟩,trivial⟩ trivial rfl⟩
theorem laws_markOwn_c2 {o:Ow} {k:Int} (hh:o.h.length≤1048576) (hd:o.d.length≤1048576) (hk:0≤k) (hk2:k≤1048576):FDoes Try.prog 26 [.agg #[.string o.t,.slice (some ⟨0,0,none⟩) o.h.length 0,.slice (some ⟨1,0,none⟩) o.d.length 0],.int .i64 k] (hp [(0,true,one ⟨rSp o.h,38,2⟩),(1,true,one ⟨rSp o.d,38,2⟩)]) (mkE (.int .i64 ((k + 2 * o.h.length) + 2 * o.d.length)) [] [(0,⟨rSp (markSp k o.h),38,2⟩),(1,⟨rSp (markSp (k + 2 * o.h.length) o.d),38,2⟩)] []):=by
 have hm:Try.prog.follows .mixedOrders=true:=by kernel_rfl
 have hd_:∀ x_ ∈ ([(0,true,one ⟨rSp o.h,38,2⟩),(1,true,one ⟨rSp o.d,38,2⟩)]:List (Nat × Bool × Fam)),∀ k_ y_,x_.2.2 k_=some y_→DetB (lt 2) y_:=by
  intro x_ hx k_ y_ e
  simp only [List.mem_cons,List.not_mem_nil,or_false] at hx
  rcases hx with rfl|rfl
  ·exact det_row (rSp_flat o.h) e
  ·exact det_row (rSp_flat o.d) e
 refine fn_exact (u0:=2) Try.func26 rfl rfl (gets rfl rfl rfl hd_ rfl) ?_
 clear hd_
 refine vc_seq ?_
 refine vc_region hm ?_
 refine gB (u':=3) trivial rfl rfl rfl rfl rfl rfl rfl rfl ?_
 refine gM trivial (.inr rfl) rfl rfl rfl ?_
 refine rg_nil nofun ?_
 refine vc_seq ?_
 refine vc_region hm ?_
 refine gF trivial rfl rfl rfl rfl rfl ?_
 refine gL trivial rfl rfl rfl rfl rfl rfl rfl rfl ?_
 refine gM trivial (.inl rfl) rfl rfl rfl ?_
 refine gCG 3 [0] (laws_markSpanS_c2 (l:=o.h) (k:=k) hh hk (by omega)) trivial rfl rfl rfl rfl ⟨rFlat (rSp_flat o.h) rfl (.inr rfl) rfl,trivial⟩ ⟨rSp_flat _,trivial⟩ trivial rfl rfl (by intro x hx;obtain rfl:=List.mem_singleton.1 hx;exact ⟨_,rfl⟩) (by intro x hx;obtain rfl:=List.mem_singleton.1 hx;exact ⟨_,_,rfl⟩) rfl rfl ?_
 refine gM trivial (.inr rfl) rfl rfl rfl ?_
 refine rg_nil nofun ?_
 refine vc_seq ?_
 refine vc_region hm ?_
 refine gF trivial rfl rfl rfl rfl rfl ?_
 refine gL trivial rfl rfl rfl rfl rfl rfl rfl rfl ?_
 refine gM trivial (.inl rfl) rfl rfl rfl ?_
 refine gCG 3 [1] (laws_markSpanS_c2 (l:=o.d) (k:=(k + 2 * o.h.length)) hd (by omega) (by omega)) trivial rfl rfl rfl rfl ⟨rFlat (rSp_flat o.d) rfl (.inr rfl) rfl,trivial⟩ ⟨rSp_flat _,trivial⟩ trivial rfl rfl (by intro x hx;obtain rfl:=List.mem_singleton.1 hx;exact ⟨_,rfl⟩) (by intro x hx;obtain rfl:=List.mem_singleton.1 hx;exact ⟨_,_,rfl⟩) rfl rfl ?_
 refine gM trivial (.inr rfl) rfl rfl rfl ?_
 refine rg_nil nofun ?_
 refine vc_seq ?_
 refine vc_region hm ?_
 refine gM trivial (.inl rfl) rfl rfl rfl ?_
 refine gM trivial (.inr rfl) rfl rfl rfl ?_
 refine rg_nil nofun ?_
 refine vc_ret ?_
 exact ⟨_,endsG [] (.inr rfl) (.tmp rfl rfl .nil) rfl rfl ⟨⟨⟨_,rfl⟩,⟨_,rfl⟩,rSp_flat _⟩,⟨⟨_,rfl⟩,⟨_,rfl⟩,rSp_flat _⟩,trivial⟩ trivial rfl⟩
theorem laws_heldOwn_c {o:Ow} {k:Int} (hh:o.h.length≤1048576) (hd:o.d.length≤1048576) (hk:0≤k) (hk2:k≤1048576):FDoes Try.prog 31 [.agg #[.string o.t,.slice (some ⟨0,0,none⟩) o.h.length 0,.slice (some ⟨1,0,none⟩) o.d.length 0],.int .i64 k] (hp [(0,false,one ⟨rSp (markSp k o.h),38,0⟩),(1,false,one ⟨rSp (markSp (k + 2 * o.h.length) o.d),38,0⟩)]) { v:=.int .i64 ((k + 2 * o.h.length) + 2 * o.d.length),rd:=[0,1] }:=by
 have hm:Try.prog.follows .mixedOrders=true:=by kernel_rfl
 have hd_:∀ x_ ∈ ([(0,false,one ⟨rSp (markSp k o.h),38,0⟩),(1,false,one ⟨rSp (markSp (k + 2 * o.h.length) o.d),38,0⟩)]:List (Nat × Bool × Fam)),∀ k_ y_,x_.2.2 k_=some y_→DetB (lt 2) y_:=by
  intro x_ hx k_ y_ e
  simp only [List.mem_cons,List.not_mem_nil,or_false] at hx
  rcases hx with rfl|rfl
  ·exact det_row (rSp_flat (markSp k o.h)) e
  ·exact det_row (rSp_flat (markSp (k + 2 * o.h.length) o.d)) e
 refine fn_exact (u0:=2) Try.func31 rfl rfl (gets rfl rfl rfl hd_ rfl) ?_
 clear hd_
 refine vc_seq ?_
 refine vc_region hm ?_
 refine gB (u':=3) trivial rfl rfl rfl rfl rfl rfl rfl rfl ?_
 refine gM trivial (.inr rfl) rfl rfl rfl ?_
 refine rg_nil nofun ?_
 refine vc_seq ?_
 refine vc_region hm ?_
 refine gF trivial rfl rfl rfl rfl rfl ?_
 refine gL trivial rfl rfl rfl rfl rfl rfl rfl rfl ?_
 refine gM trivial (.inl rfl) rfl rfl rfl ?_
 refine gC0 [0] (laws_heldSpanS_c (l:=o.h) (k:=k) hh hk (by omega)) trivial rfl rfl rfl rfl ⟨rFlat (rSp_flat (markSp k o.h)) rfl (.inl rfl) rfl,trivial⟩ rfl rfl rfl rfl rfl ?_
 refine gM trivial (.inr rfl) rfl rfl rfl ?_
 refine rg_nil nofun ?_
 refine vc_seq ?_
 refine vc_seq ?_
 refine vc_region hm ?_
 refine gM trivial (.inl rfl) rfl rfl rfl ?_
 refine gI trivial rfl rfl rfl rfl rfl rfl ?_
 refine rg_nil nofun ?_
 refine cF rfl (decide_eq_false (by omega)) ?_
 refine vc_skip ?_
 refine vc_seq ?_
 refine vc_region hm ?_
 refine gF trivial rfl rfl rfl rfl rfl ?_
 refine gL trivial rfl rfl rfl rfl rfl rfl rfl rfl ?_
 refine gM trivial (.inl rfl) rfl rfl rfl ?_
 refine gC0 [1] (laws_heldSpanS_c (l:=o.d) (k:=(k + 2 * o.h.length)) hd (by omega) (by omega)) trivial rfl rfl rfl rfl ⟨rFlat (rSp_flat (markSp (k + 2 * o.h.length) o.d)) rfl (.inl rfl) rfl,trivial⟩ rfl rfl rfl rfl rfl ?_
 refine gM trivial (.inr rfl) rfl rfl rfl ?_
 refine rg_nil nofun ?_
 refine vc_seq ?_
 refine vc_seq ?_
 refine vc_region hm ?_
 refine gM trivial (.inl rfl) rfl rfl rfl ?_
 refine gI trivial rfl rfl rfl rfl rfl rfl ?_
 refine rg_nil nofun ?_
 refine cF rfl (decide_eq_false (by omega)) ?_
 refine vc_skip ?_
 refine vc_seq ?_
 refine vc_region hm ?_
 refine gM trivial (.inl rfl) rfl rfl rfl ?_
 refine gM trivial (.inr rfl) rfl rfl rfl ?_
 refine rg_nil nofun ?_
 refine vc_ret ?_
 exact ⟨idm,ends0 (.inr rfl) rfl rfl rfl rfl rfl⟩
end Go.Proofs.Ythionnhbnfblcaa.A
namespace Go.Proofs.Ythionnhbnfblcaa.A
open Go Go.RowKit
open Go.Joins Go.ChangeShapes Go.WideShapes Go.Deep
def RawN (w:World) (v:Value) (N:Nam) (k n:Nat) (cs:List Value):Prop :=
 v=(if N.nil=true then zv N.z else .slice (some ⟨N.blk,k,none⟩) n (N.cap - 0))∧(if N.nil=true then hls k cs = [] else ∃ (c:Array Value) (t:TypeId) (z:Nat × Nat),w.heap[N.blk]?=some (.cells c t z)∧∀ (i:Nat) (x:Value),(hls k cs)[i]?=some x→x ≠ hole→c[i]?=some x)
theorem raw_none {w:World}:RawN w (.slice none 0 0) ⟨0,0,true,none⟩ 0 0 []:=⟨rfl,rfl⟩
theorem raw_of {α:Type} {enc:α→List Value} {m:Nat} (he:∀ x,(enc x).length=m) (hm:0<m) {w:World} {a:Addr} {cap:Nat} {l:List α} (h:∀ i x,(rowL enc l)[i]?=some x→w.cell? (a.add i)=some x):∃ N k,RawN w (.slice (some a) l.length cap) N k l.length (rowL enc l):=by
 rcases l with _|⟨x,xs⟩
 ·exact ⟨⟨0,0,true,some (a,cap)⟩,0,rfl,rfl⟩
 ·have hp0:0<(rowL enc (x :: xs)).length:=by rw [rowL_len he,List.length_cons];exact Nat.mul_pos (Nat.succ_pos _) hm
  have h0:=h 0 _ (List.getElem?_eq_getElem hp0)
  have h1:∃ c t z,w.heap[a.block]?=some (.cells c t z)∧a.spot=none:=by
   have e:a.add 0=a:=by simp [Addr.add]
   unfold World.cell? at h0
   rw [e] at h0
   split at h0
   ·rename_i c t z hh
    refine ⟨c,t,z,hh,?_⟩
    split at h0
    ·cases h0
    ·rename_i hs;simpa using hs
   ·cases h0
  obtain ⟨c,t,z,hh,hs⟩:=h1
  obtain ⟨b,off,sp⟩:=a
  simp only at hs hh
  subst hs
  refine ⟨⟨b,cap,false,none⟩,off,rfl,(if_neg Bool.false_ne_true).mpr ⟨c,t,z,hh,fun i v hv hne=>?_⟩⟩
  unfold hls at hv
  by_cases hi:i<off
  ·rw [List.getElem?_append_left (by simpa using hi)] at hv
   have:=List.mem_of_getElem? hv
   exact absurd (List.eq_of_mem_replicate this) hne
  ·rw [List.getElem?_append_right (by simpa using hi),List.length_replicate] at hv
   have:=h (i - off) v hv
   rw [add_eq,cell_eq hh] at this
   rw [← this]
   congr 1
   omega
def envL (l:List Nam):Env:=fun n=>(l[n % 1000]?).getD ⟨0,0,true,none⟩
theorem raw_at {w:World} {v:Value} {N:Nam} {k n:Nat} {cs:List Value} {t:TypeId} {l:List Nam} {b:Nat} (h:RawN w v N k n cs) (hf:cs.all flat1=true) (hb:l[b]?=some N) (hb':b<1000):famAt (envL l) w b (one ⟨hls k cs,t,0⟩):=by
 intro k' x e
 obtain ⟨rfl,rfl⟩:=one_some e
 have e1:envL l (nm b 0)=N:=by unfold envL;rw [nm_mod hb',hb];rfl
 unfold blkAt
 rw [e1]
 have h2:=h.2
 cases hn:N.nil with
 | true=>rw [hn,if_pos rfl] at h2;rw [if_pos rfl];exact ⟨h2,fun q=>absurd rfl q,(by decide:0<100)⟩
 | false =>
  rw [hn,if_neg (by decide)] at h2
  rw [if_neg (by decide),if_pos rfl]
  obtain ⟨c,t',z,h3,h4⟩:=h2
  refine ⟨c,t',z,h3,fun i v hv hne=>?_⟩
  rw [r1_flat (List.all_eq_true.1 (hls_flat (k:=k) hf) v (List.mem_of_getElem? hv))]
  exact h4 i v hv hne
theorem raw_r1 {w:World} {v:Value} {N:Nam} {k n:Nat} {cs:List Value} {l:List Nam} {b:Nat} (h:RawN w v N k n cs) (hb:l[b]?=some N) (hb':b<1000):r1 (envL l) (.slice (some ⟨b,k,none⟩) n 0)=v:=by
 show (if (envL l b).nil=true then zv (envL l b).z else .slice (some ⟨(envL l b).blk,k,none⟩) n ((envL l b).cap - 0))=v
 have e1:envL l b=N:=by unfold envL;rw [Nat.mod_eq_of_lt hb',hb];rfl
 rw [e1,h.1]
def OwnArg (w:World) (v:Value) (o:Ow) (N0:Nam) (k0:Nat) (N1:Nam) (k1:Nat):Prop :=
 (∃ v1 v2,v = .agg #[.string o.t,v1,v2]∧RawN w v1 N0 k0 o.h.length (rSp o.h)∧RawN w v2 N1 k1 o.d.length (rSp o.d))∧o.t.size≤9223372036854775807∧o.h.length≤9223372036854775807∧o.d.length≤9223372036854775807
theorem ownArg_r3 {w:World} {v:Value} {o:Ow} {N0 N1:Nam} {k0 k1:Nat} {l:List Nam} {a b:Nat} (h:OwnArg w v o N0 k0 N1 k1) (ha:l[a]?=some N0) (hb:l[b]?=some N1) (ha':a<1000) (hb':b<1000):r3 (envL l) (.agg #[.string o.t,.slice (some ⟨a,k0,none⟩) o.h.length 0,.slice (some ⟨b,k1,none⟩) o.d.length 0])=v:=by
 obtain ⟨⟨v1,v2,rfl,h1,h2⟩,_⟩:=h
 have e1:=raw_r1 h1 ha ha'
 have e2:=raw_r1 h2 hb hb'
 simp only [r3,r2,List.map_toArray,List.map_cons,List.map_nil,e1,e2]
 rfl
theorem ownArg_at0 {w:World} {v:Value} {o:Ow} {N0 N1:Nam} {k0 k1:Nat} {l:List Nam} {a:Nat} {t:TypeId} (h:OwnArg w v o N0 k0 N1 k1) (ha:l[a]?=some N0) (ha':a<1000):famAt (envL l) w a (one ⟨hls k0 (rSp o.h),t,0⟩):=by
 obtain ⟨⟨v1,v2,rfl,h1,h2⟩,_⟩:=h
 exact raw_at h1 (rSp_flat _) ha ha'
theorem ownArg_at1 {w:World} {v:Value} {o:Ow} {N0 N1:Nam} {k0 k1:Nat} {l:List Nam} {a:Nat} {t:TypeId} (h:OwnArg w v o N0 k0 N1 k1) (ha:l[a]?=some N1) (ha':a<1000):famAt (envL l) w a (one ⟨hls k1 (rSp o.d),t,0⟩):=by
 obtain ⟨⟨v1,v2,rfl,h1,h2⟩,_⟩:=h
 exact raw_at h2 (rSp_flat _) ha ha'
def AtL (ρ:Env) (w:World):List (Nat × Bool × Fam)→Prop
 | []=>True
 | x :: l=>famAt ρ w x.1 x.2.2∧AtL ρ w l
theorem atL_mem {ρ:Env} {w:World}:∀ {l:List (Nat × Bool × Fam)},AtL ρ w l→∀ b o F,l.lookup b=some (o,F)→famAt ρ w b F
 | x :: l,h,b,o,F,e=>by
  obtain ⟨c,y⟩:=x
  rw [List.lookup_cons] at e
  by_cases hb:b=c
  ·subst hb
   simp at e
   subst e
   exact h.1
  ·have:(b == c)=false:=by simpa using hb
   rw [this] at e
   exact atL_mem h.2 b o F e
theorem law_done {P:Program} {f:FuncId} {args:List Value} {hl:List (Nat × Bool × Fam)} {rd:List Nat} {ρ:Env} {w:World} {vs:Array Value} (h:FDoes P f args (hp hl) { v:=.bool true,rd:=rd }) (ha:(args.map (r3 ρ)).toArray=vs) (hr:AtL ρ w hl) :
  Calls P f vs w fun e w'=>e = .returned (.bool true)∧Below w.heap.size w w':=by
 subst ha
 refine (h.run ρ w ⟨fun b _ o F e=>atL_mem hr b o F e,fun b hb=>(by cases hb)⟩).mono fun e w' ⟨ρ',hB,he⟩=>⟨he,?_⟩
 have hf:=hB.frm
 exact Frm.below ⟨hf.os,hf.tape,hf.output,hf.size,fun k hk hn=>hf.block k hk fun ⟨b,hb,_⟩=>(by cases hb)⟩
section
variable {H:Type} {enc:TypeId × Value→H} {P:Program} {w:World} {base:Nat} {spare:Nat→Bool} {held:Bool}
theorem open_agg3 {r:Reach} {b0:Nat} {t:TypeId} {f0 f1 f2:Field} {v:Value} {d:DataW H} {p:List MemPlace} (hs:P.underlying t=some (.struct #[f0,f1,f2])) (hone:oneCellFields P #[f0,f1,f2]=true) (hC:P.cellsOf t=3)
  (hv:Value.okWide P w r b0 t v) (h:DataW.Trod enc P w base spare held t v d p) :
  ∃ (v0 v1 v2:Value) (y0 y1 y2:DataW H × List MemPlace) (n:Nat),v = .agg #[v0,v1,v2]∧DataW.trod enc P w base spare held n f0.type [v0]=some y0∧DataW.trod enc P w base spare held n f1.type [v1]=some y1∧DataW.trod enc P w base spare held n f2.type [v2]=some y2:=by
 obtain ⟨cs,rfl,hsz⟩:=okWide_struct hs hv
 obtain ⟨l⟩:=cs
 match l,hsz.trans hC with
 | [c0,c1,c2],_ =>
  obtain ⟨fuel,hf⟩:=h
  obtain ⟨xs,n,_,hx,_,hlen,hg⟩:=DataW.trod_struct hs hf
  obtain ⟨o0,k0⟩:=hone_of hone 0 f0 rfl
  obtain ⟨o1,k1⟩:=hone_of hone 1 f1 rfl
  obtain ⟨o2,k2⟩:=hone_of hone 2 f2 rfl
  match xs,hlen with
  | [y0,y1,y2],_ =>
   exact ⟨c0,c1,c2,y0,y1,y2,n,rfl,by simpa [Value.cells,o0,k0] using hg 0 f0 rfl,by simpa [Value.cells,o1,k1] using hg 1 f1 rfl,by simpa [Value.cells,o2,k2] using hg 2 f2 rfl⟩
end
def vInt:Value→Int
 | .int _ n=>n
 | _=>0
def Fits64 (n:Int):Prop:=-9223372036854775808≤n∧n≤9223372036854775807
theorem fits_of {n:Int} (h:(Lit.int .i64 n).wf=true):Fits64 n:=by
 have e1:IntKind.i64.min = -9223372036854775808:=by decide
 have e2:IntKind.i64.max=9223372036854775807:=by decide
 simp only [Lit.wf,e1,e2,Bool.and_eq_true,decide_eq_true_eq] at h
 exact h
section
variable {H:Type} {enc:TypeId × Value→H} {w:World} {base:Nat} {spare:Nat→Bool} {held:Bool}
theorem rd_spansA {fuel:Nat} {v:Value} {x:DataW H × List MemPlace} (h:DataW.trod enc Try.prog w base spare held fuel 22 [v]=some x) :
  ∃ (l:List Sp) (N:Nam) (k:Nat),RawN w v N k l.length (rSp l)∧l.length≤9223372036854775807:=by
 rcases open_slice_pairs Try.underlying22 Try.underlying35 (by kernel_rfl) rfl rfl (by kernel_rfl) (by kernel_rfl) h with ⟨h1,_⟩|⟨a,len,cap,m,n,V0,V1,D0,D1,P0,P1,h1,_,hl,hm,hz,_,hc⟩
 ·simp only [List.cons.injEq,_root_.and_true] at h1
  subst h1
  exact ⟨[],_,_,raw_none,by decide⟩
 ·simp only [List.cons.injEq,_root_.and_true] at h1
  unfold maxLen at hm
  have hlm:len≤m:=by rw [hz];split <;> omega
  have hn:((List.range len).map fun i=>(⟨vInt (V0 i),vInt (V1 i)⟩:Sp)).length=len:=by rw [List.length_map,List.length_range]
  have key:∀ i x,(rSp ((List.range len).map fun i=>(⟨vInt (V0 i),vInt (V1 i)⟩:Sp)))[i]?=some x→w.cell? (a.add i)=some x:=fun i x hx=>by
   have hi:i<len * 2:=by
    have:=(List.getElem?_eq_some_iff.1 hx).1
    rw [rowL_len (n:=2) (fun _=>rfl),hn] at this
    exact this
   have hj:i / 2<len:=by omega
   obtain ⟨q0,q1,t0,t1⟩:=hc (i / 2) (by omega)
   obtain ⟨n0,e0,_,_⟩:=DataW.trod_int Try.underlying3 t0
   obtain ⟨n1,e1,_,_⟩:=DataW.trod_int Try.underlying3 t1
   simp only [List.cons.injEq,_root_.and_true] at e0 e1
   have hg:=rowL_get (enc:=eSp) (n:=2) (fun _=>rfl) ((List.range len).map fun i=>(⟨vInt (V0 i),vInt (V1 i)⟩:Sp)) (i / 2) (i % 2) (by rw [hn];exact hj) (Nat.mod_lt _ (by decide))
   rw [show i / 2 * 2 + i % 2=i by omega,hx,List.getElem_map,List.getElem_range] at hg
   rcases Nat.mod_two_eq_zero_or_one i with hm2|hm2
   ·rw [hm2] at hg
    rw [show a.add i=a.add (i / 2 * 2) by rw [show i / 2 * 2=i by omega],q0,hg,e0];rfl
   ·rw [hm2] at hg
    rw [show a.add i=a.add (i / 2 * 2 + 1) by rw [show i / 2 * 2 + 1=i by omega],q1,hg,e1];rfl
  obtain ⟨N,k,hr⟩:=raw_of (enc:=eSp) (m:=2) (fun _=>rfl) (by decide) (cap:=cap) key
  exact ⟨_,N,k,by rw [h1];rw [hn] at hr ⊢;exact hr,by rw [hn];omega⟩
theorem open_ownA {r:Reach} {b0:Nat} {v:Value} {d:DataW H} {p:List MemPlace} (hv:Value.okWide Try.prog w r b0 24 v) (h:DataW.Trod enc Try.prog w base spare held 24 v d p):∃ o N0 k0 N1 k1,OwnArg w v o N0 k0 N1 k1:=by
 obtain ⟨v0,v1,v2,y0,y1,y2,n,rfl,h0,h1,h2⟩:=open_agg3 Try.underlying24 (by kernel_rfl) (by kernel_rfl) hv h
 obtain ⟨a0,e0,_,hw⟩:=DataW.trod_string Try.underlying9 h0
 simp only [List.cons.injEq,_root_.and_true] at e0
 unfold maxLen at hw
 obtain ⟨l1,N1,k1,q1,z1⟩:=rd_spansA h1
 obtain ⟨l2,N2,k2,q2,z2⟩:=rd_spansA h2
 exact ⟨⟨a0,l1,l2⟩,N1,k1,N2,k2,⟨v1,v2,by rw [e0],q1,q2⟩,hw,z1,z2⟩
theorem open_stringA {r:Reach} {b0:Nat} {v:Value} {d:DataW H} {p:List MemPlace} (hv:Value.okWide Try.prog w r b0 9 v) (h:DataW.Trod enc Try.prog w base spare held 9 v d p):∃ n:ByteArray,v = .string n∧n.size≤9223372036854775807:=by
 obtain ⟨n,rfl,_,_,hw⟩:=Go.ChangeMaps.open_string Try.underlying9 hv h
 exact ⟨n,rfl,hw⟩
theorem open_intA {r:Reach} {b0:Nat} {v:Value} {d:DataW H} {p:List MemPlace} (hv:Value.okWide Try.prog w r b0 3 v) (h:DataW.Trod enc Try.prog w base spare held 3 v d p):∃ n,v = .int .i64 n∧Fits64 n:=by
 obtain ⟨n,rfl,_,_,hw⟩:=open_int Try.underlying3 hv h
 exact ⟨n,rfl,fits_of hw⟩
end
end Go.Proofs.Ythionnhbnfblcaa.A
namespace Go.Proofs.Ythionnhbnfblcaa.A
open Go Go.RowKit
set_option maxHeartbeats 4000000
theorem FnExactOwnWrite_T {o:Ow} {k0 k1:Nat} {a:Int} {d:ByteArray} (ht:o.t.size≤9223372036854775807) (hh:o.h.length≤9223372036854775807) (hd:o.d.length≤9223372036854775807) (h:ownOk o=true):FDoes Try.prog 12 [.agg #[.string o.t,.slice (some ⟨0,k0,none⟩) o.h.length 0,.slice (some ⟨1,k1,none⟩) o.d.length 0],.int .i64 a,.string d] (hp [(0,false,one ⟨hls k0 (rSp o.h),35,0⟩),(1,false,one ⟨hls k1 (rSp o.d),35,0⟩)]) { v:=.bool true,rd:=[0,1] }:=by
 have hm:Try.prog.follows .mixedOrders=true:=by kernel_rfl
 have hd_:∀ x_ ∈ ([(0,false,one ⟨hls k0 (rSp o.h),35,0⟩),(1,false,one ⟨hls k1 (rSp o.d),35,0⟩)]:List (Nat × Bool × Fam)),∀ k_ y_,x_.2.2 k_=some y_→DetB (lt 2) y_:=by
  intro x_ hx k_ y_ e
  simp only [List.mem_cons,List.not_mem_nil,or_false] at hx
  rcases hx with rfl|rfl
  ·exact det_row (hls_flat (rSp_flat o.h)) e
  ·exact det_row (hls_flat (rSp_flat o.d)) e
 have hr:=chO_ok (o:=o) (x:=writeX o a d) (may:=mayW a d) h
 refine fn_exact (u0:=2) Try.func12 rfl rfl (gets rfl rfl rfl hd_ rfl) ?_
 clear hd_
 refine vc_seq ?_
 refine vc_region hm ?_
 refine gB (u':=3) trivial rfl rfl rfl rfl rfl rfl rfl rfl ?_
 refine gM trivial (.inr rfl) rfl rfl rfl ?_
 refine rg_nil nofun ?_
 refine vc_seq ?_
 refine vc_seq ?_
 refine vc_region hm ?_
 refine gM trivial (.inl rfl) rfl rfl rfl ?_
 refine gKT trivial rfl rfl rfl rfl rfl ?_
 refine gI trivial rfl rfl rfl rfl rfl rfl ?_
 refine rg_nil nofun ?_
 refine cI rfl (fun c20=>?_) (fun c20=>?_)
 ·skip
  have p20:=of_decide_eq_true c20
  refine vc_seq ?_
  refine vc_region hm ?_
  refine gM trivial (.inr rfl) rfl rfl rfl ?_
  refine rg_nil nofun ?_
  refine vc_ret ?_
  exact ⟨idm,ends0 (.inr rfl) rfl (eqB rfl) rfl rfl rfl⟩
 ·skip
  have p20:=of_decide_eq_false c20
  refine vc_skip ?_
  refine vc_seq ?_
  refine vc_region hm ?_
  refine gM trivial (.inr rfl) rfl rfl rfl ?_
  refine rg_nil nofun ?_
  refine vc_seq ?_
  refine vc_region hm ?_
  refine gL trivial rfl rfl rfl rfl rfl rfl rfl rfl ?_
  refine gM trivial (.inl rfl) rfl rfl rfl ?_
  refine gC0 [0,1] (laws_szOwn_c (o:=o) (k0:=k0) (k1:=k1) (left:=1048576) (by omega) (by omega) ht hh hd) trivial rfl rfl rfl rfl ⟨rFlat (hls_flat (rSp_flat o.h)) rfl (.inl rfl) rfl,rFlat (hls_flat (rSp_flat o.d)) rfl (.inl rfl) rfl,trivial⟩ rfl rfl rfl rfl rfl ?_
  refine gM trivial (.inr rfl) rfl rfl rfl ?_
  refine rg_nil nofun ?_
  refine vc_seq ?_
  refine vc_seq ?_
  refine vc_region hm ?_
  refine gM trivial (.inl rfl) rfl rfl rfl ?_
  refine gI trivial rfl rfl rfl rfl rfl rfl ?_
  refine rg_nil nofun ?_
  refine cI rfl (fun c25=>?_) (fun c25=>?_)
  ·skip
   have p25:=of_decide_eq_true c25
   refine vc_seq ?_
   refine vc_region hm ?_
   refine gM trivial (.inr rfl) rfl rfl rfl ?_
   refine rg_nil nofun ?_
   refine vc_ret ?_
   exact ⟨idm,ends0 (.inr rfl) rfl (eqB rfl) rfl rfl rfl⟩
  ·skip
   have p25:=of_decide_eq_false c25
   refine vc_skip ?_
   refine vc_seq ?_
   refine vc_region hm ?_
   refine gL trivial rfl rfl rfl rfl rfl rfl rfl rfl ?_
   refine gCn 5 [0,1,3,4] (laws_toOwn_c (o:=o) (k0:=k0) (k1:=k1) (szO_le p25).2.1 (szO_le p25).2.2) trivial rfl rfl rfl rfl ⟨rFlat (hls_flat (rSp_flat o.h)) rfl (.inl rfl) rfl,rFlat (hls_flat (rSp_flat o.d)) rfl (.inl rfl) rfl,trivial⟩ ⟨rSp_flat _,rSp_flat _,trivial⟩ rfl rfl rfl rfl ?_
   refine gM trivial (.inl rfl) rfl rfl rfl ?_
   refine gM trivial (.inl rfl) rfl rfl rfl ?_
   refine gCn 7 [3,4,5,6] (spec_OwnWrite_c (o:=o) (a:=a) (d:=d) h (by omega)) trivial rfl rfl rfl rfl ⟨rFlat (rSp_flat o.h) rfl (.inr rfl) rfl,rFlat (rSp_flat o.d) rfl (.inr rfl) rfl,trivial⟩ ⟨rSp_flat _,rSp_flat _,trivial⟩ rfl rfl rfl rfl ?_
   refine gM trivial (.inl rfl) rfl rfl rfl ?_
   refine gE trivial rfl rfl rfl rfl rfl rfl ?_
   refine gE trivial rfl rfl rfl rfl rfl rfl ?_
   refine gZ (u':=8) trivial rfl rfl rfl rfl rfl rfl rfl rfl ?_
   refine gT trivial rfl rfl rfl rfl rfl rfl rfl rfl rfl rfl (Nat.le_of_ble_eq_true rfl) rfl ?_
   refine gM trivial (.inr rfl) rfl rfl rfl ?_
   refine rg_nil nofun ?_
   refine vc_seq ?_
   refine vc_region hm ?_
   refine gL trivial rfl rfl rfl rfl rfl rfl rfl rfl ?_
   refine gCn 10 [0,1,8,9] (laws_toOwn_c (o:=o) (k0:=k0) (k1:=k1) (szO_le p25).2.1 (szO_le p25).2.2) trivial rfl rfl rfl rfl ⟨rFlat (hls_flat (rSp_flat o.h)) rfl (.inl rfl) rfl,rFlat (hls_flat (rSp_flat o.d)) rfl (.inl rfl) rfl,trivial⟩ ⟨rSp_flat _,rSp_flat _,trivial⟩ rfl rfl rfl rfl ?_
   refine gZ (u':=11) trivial rfl rfl rfl rfl rfl rfl rfl rfl ?_
   refine gT trivial rfl rfl rfl rfl rfl rfl rfl rfl rfl rfl (Nat.le_of_ble_eq_true rfl) rfl ?_
   refine rg_nil nofun ?_
   refine vc_seq ?_
   refine vc_region hm ?_
   refine gL trivial rfl rfl rfl rfl rfl rfl rfl rfl ?_
   refine gM trivial (.inl rfl) rfl rfl rfl ?_
   refine gM trivial (.inl rfl) rfl rfl rfl ?_
   refine gCn 13 [8,9,11,12] (impl_OwnWrite_c (o:=o) (a:=a) (d:=d) h (by omega)) trivial rfl rfl rfl rfl ⟨rFlat (rSp_flat o.h) rfl (.inr rfl) rfl,rFlat (rSp_flat o.d) rfl (.inr rfl) rfl,trivial⟩ ⟨rSp_flat _,rSp_flat _,trivial⟩ rfl rfl rfl rfl ?_
   refine gM trivial (.inl rfl) rfl rfl rfl ?_
   refine gE trivial rfl rfl rfl rfl rfl rfl ?_
   refine gE trivial rfl rfl rfl rfl rfl rfl ?_
   refine gZ (u':=14) trivial rfl rfl rfl rfl rfl rfl rfl rfl ?_
   refine gT trivial rfl rfl rfl rfl rfl rfl rfl rfl rfl rfl (Nat.le_of_ble_eq_true rfl) rfl ?_
   refine gM trivial (.inr rfl) rfl rfl rfl ?_
   refine rg_nil nofun ?_
   refine vc_seq ?_
   refine vc_seq ?_
   refine vc_region hm ?_
   refine gL trivial rfl rfl rfl rfl rfl rfl rfl rfl ?_
   refine gL trivial rfl rfl rfl rfl rfl rfl rfl rfl ?_
   refine gC0 [11,12,5,6] (laws_eqOwn_c (x:=(chO (mayW a d) o (writeX o a d))) (y:=(chO (mayW a d) o (writeX o a d))) hr.2.1 hr.2.2) trivial rfl rfl rfl rfl ⟨rFlat (rSp_flat _) rfl (.inl rfl) rfl,rFlat (rSp_flat _) rfl (.inl rfl) rfl,rFlat (rSp_flat _) rfl (.inl rfl) rfl,rFlat (rSp_flat _) rfl (.inl rfl) rfl,trivial⟩ rfl rfl rfl rfl rfl ?_
   refine gN trivial rfl rfl rfl rfl ?_
   refine gM trivial (.inl rfl) rfl rfl rfl ?_
   refine gM ⟨_,_,rfl,rfl,(notT (eqO_self (chO (mayW a d) o (writeX o a d))))⟩ (.inl rfl) rfl rfl rfl ?_
   refine gM ⟨_,_,rfl,rfl,(notT (eqO_self (chO (mayW a d) o (writeX o a d))))⟩ (.inl rfl) rfl rfl rfl ?_
   refine gBN ⟨_,_,rfl,rfl,(notT (eqO_self (chO (mayW a d) o (writeX o a d))))⟩ rfl rfl rfl rfl rfl rfl ?_
   refine gPF trivial rfl rfl (notT (eqO_self (chO (mayW a d) o (writeX o a d)))) rfl rfl rfl ?_
   refine rg_nil nofun ?_
   refine cF rfl (nself _) ?_
   refine vc_skip ?_
   refine vc_seq ?_
   refine vc_seq ?_
   refine vc_region hm ?_
   refine gL trivial rfl rfl rfl rfl rfl rfl rfl rfl ?_
   refine gL trivial rfl rfl rfl rfl rfl rfl rfl rfl ?_
   refine gCn 16 [0,1,14,15] (laws_toOwn_c (o:=o) (k0:=k0) (k1:=k1) (szO_le p25).2.1 (szO_le p25).2.2) trivial rfl rfl rfl rfl ⟨rFlat (hls_flat (rSp_flat o.h)) rfl (.inl rfl) rfl,rFlat (hls_flat (rSp_flat o.d)) rfl (.inl rfl) rfl,trivial⟩ ⟨rSp_flat _,rSp_flat _,trivial⟩ rfl rfl rfl rfl ?_
   refine gC0 [8,9,14,15] (laws_eqOwn_c (x:=o) (y:=o) (szO_le p25).2.1 (szO_le p25).2.2) trivial rfl rfl rfl rfl ⟨rFlat (rSp_flat o.h) rfl (.inl rfl) rfl,rFlat (rSp_flat o.d) rfl (.inl rfl) rfl,rFlat (rSp_flat o.h) rfl (.inl rfl) rfl,rFlat (rSp_flat o.d) rfl (.inl rfl) rfl,trivial⟩ rfl rfl rfl rfl rfl ?_
   refine gN trivial rfl rfl rfl rfl ?_
   refine rg_nil (fun _=>by kernel_rfl) ?_
   refine cF rfl (notT (eqO_self o)) ?_
   refine vc_skip ?_
   refine vc_seq ?_
   refine vc_region hm ?_
   refine gM trivial (.inr rfl) rfl rfl rfl ?_
   refine rg_nil nofun ?_
   refine vc_seq ?_
   refine vc_region hm ?_
   refine gL trivial rfl rfl rfl rfl rfl rfl rfl rfl ?_
   refine gM trivial (.inl rfl) rfl rfl rfl ?_
   refine gCG 16 [8,9] (laws_markOwn_c102 (o:=o) (k:=1) (szO_le p25).2.1 (szO_le p25).2.2 (by decide) (by decide)) trivial rfl rfl rfl rfl ⟨rFlat (rSp_flat o.h) rfl (.inr rfl) rfl,rFlat (rSp_flat o.d) rfl (.inr rfl) rfl,trivial⟩ ⟨rSp_flat _,rSp_flat _,trivial⟩ trivial rfl rfl (by intro x hx;simp only [List.mem_cons,List.not_mem_nil,or_false] at hx;rcases hx with rfl|rfl <;> exact ⟨_,rfl⟩) (by intro x hx;simp only [List.mem_cons,List.not_mem_nil,or_false] at hx;rcases hx with rfl|rfl <;> exact ⟨_,_,rfl⟩) rfl rfl ?_
   refine gM trivial (.inr rfl) rfl rfl rfl ?_
   refine rg_nil nofun ?_
   refine vc_seq ?_
   refine vc_seq ?_
   refine vc_region hm ?_
   refine gM trivial (.inl rfl) rfl rfl rfl ?_
   refine gI trivial rfl rfl rfl rfl rfl rfl ?_
   refine gM trivial (.inl rfl) rfl rfl rfl ?_
   refine gL ⟨_,_,rfl,rfl,(decide_eq_false (by omega))⟩ rfl rfl rfl rfl rfl rfl rfl rfl ?_
   refine gL ⟨_,_,rfl,rfl,(decide_eq_false (by omega))⟩ rfl rfl rfl rfl rfl rfl rfl rfl ?_
   refine gC0 [11,12,5,6] (laws_eqOwn_c (x:=(chO (mayW a d) o (writeX o a d))) (y:=(chO (mayW a d) o (writeX o a d))) hr.2.1 hr.2.2) ⟨_,_,rfl,rfl,(decide_eq_false (by omega))⟩ rfl rfl rfl rfl ⟨rFlat (rSp_flat _) rfl (.inl rfl) rfl,rFlat (rSp_flat _) rfl (.inl rfl) rfl,rFlat (rSp_flat _) rfl (.inl rfl) rfl,rFlat (rSp_flat _) rfl (.inl rfl) rfl,trivial⟩ rfl rfl rfl rfl rfl ?_
   refine gN ⟨_,_,rfl,rfl,(decide_eq_false (by omega))⟩ rfl rfl rfl rfl ?_
   refine gPF trivial rfl rfl (decide_eq_false (by omega)) rfl rfl rfl ?_
   refine gM trivial (.inl rfl) rfl rfl rfl ?_
   refine gM ⟨_,_,rfl,rfl,(notT (eqO_self (chO (mayW a d) o (writeX o a d))))⟩ (.inl rfl) rfl rfl rfl ?_
   refine gM ⟨_,_,rfl,rfl,(notT (eqO_self (chO (mayW a d) o (writeX o a d))))⟩ (.inl rfl) rfl rfl rfl ?_
   refine gBN ⟨_,_,rfl,rfl,(notT (eqO_self (chO (mayW a d) o (writeX o a d))))⟩ rfl rfl rfl rfl rfl rfl ?_
   refine gPF trivial rfl rfl (notT (eqO_self (chO (mayW a d) o (writeX o a d)))) rfl rfl rfl ?_
   refine rg_nil nofun ?_
   refine cF rfl (nself _) ?_
   refine vc_skip ?_
   refine vc_seq ?_
   refine vc_region hm ?_
   refine gM trivial (.inr rfl) rfl rfl rfl ?_
   refine rg_nil nofun ?_
   refine vc_seq ?_
   refine vc_region hm ?_
   refine gL trivial rfl rfl rfl rfl rfl rfl rfl rfl ?_
   refine gM trivial (.inl rfl) rfl rfl rfl ?_
   refine gCG 16 [11,12] (laws_markOwn_c2 (o:=(chO (mayW a d) o (writeX o a d))) (k:=1) hr.2.1 hr.2.2 (by decide) (by decide)) trivial rfl rfl rfl rfl ⟨rFlat (rSp_flat _) rfl (.inr rfl) rfl,rFlat (rSp_flat _) rfl (.inr rfl) rfl,trivial⟩ ⟨rSp_flat _,rSp_flat _,trivial⟩ trivial rfl rfl (by intro x hx;simp only [List.mem_cons,List.not_mem_nil,or_false] at hx;rcases hx with rfl|rfl <;> exact ⟨_,rfl⟩) (by intro x hx;simp only [List.mem_cons,List.not_mem_nil,or_false] at hx;rcases hx with rfl|rfl <;> exact ⟨_,_,rfl⟩) rfl rfl ?_
   refine gM trivial (.inr rfl) rfl rfl rfl ?_
   refine rg_nil nofun ?_
   refine vc_seq ?_
   refine vc_region hm ?_
   refine gM trivial (.inr rfl) rfl rfl rfl ?_
   refine rg_nil nofun ?_
   refine vc_seq ?_
   refine vc_region hm ?_
   refine gL trivial rfl rfl rfl rfl rfl rfl rfl rfl ?_
   refine gM trivial (.inl rfl) rfl rfl rfl ?_
   refine gC0 [11,12] (laws_heldOwn_c (o:=(chO (mayW a d) o (writeX o a d))) (k:=1) hr.2.1 hr.2.2 (by decide) (by decide)) trivial rfl rfl rfl rfl ⟨rFlat (rSp_flat _) rfl (.inl rfl) rfl,rFlat (rSp_flat _) rfl (.inl rfl) rfl,trivial⟩ rfl rfl rfl rfl rfl ?_
   refine gM trivial (.inr rfl) rfl rfl rfl ?_
   refine rg_nil nofun ?_
   refine vc_seq ?_
   refine vc_seq ?_
   refine vc_region hm ?_
   refine gM trivial (.inl rfl) rfl rfl rfl ?_
   refine gI trivial rfl rfl rfl rfl rfl rfl ?_
   refine rg_nil nofun ?_
   refine cF rfl (decide_eq_false (by omega)) ?_
   refine vc_skip ?_
   refine vc_seq ?_
   refine vc_seq ?_
   refine vc_region hm ?_
   refine gM trivial (.inl rfl) rfl rfl rfl ?_
   refine gM trivial (.inl rfl) rfl rfl rfl ?_
   refine gI trivial rfl rfl rfl rfl rfl rfl ?_
   refine rg_nil nofun ?_
   refine cF rfl (bne_self_eq_false _) ?_
   refine vc_skip ?_
   refine vc_seq ?_
   refine vc_region hm ?_
   refine gL trivial rfl rfl rfl rfl rfl rfl rfl rfl ?_
   refine gCn 18 [0,1,16,17] (laws_toOwn_c (o:=o) (k0:=k0) (k1:=k1) (szO_le p25).2.1 (szO_le p25).2.2) trivial rfl rfl rfl rfl ⟨rFlat (hls_flat (rSp_flat o.h)) rfl (.inl rfl) rfl,rFlat (hls_flat (rSp_flat o.d)) rfl (.inl rfl) rfl,trivial⟩ ⟨rSp_flat _,rSp_flat _,trivial⟩ rfl rfl rfl rfl ?_
   refine gM trivial (.inl rfl) rfl rfl rfl ?_
   refine gM trivial (.inl rfl) rfl rfl rfl ?_
   refine gCn 20 [16,17,18,19] (impl_OwnWrite_c (o:=o) (a:=a) (d:=d) h (by omega)) trivial rfl rfl rfl rfl ⟨rFlat (rSp_flat o.h) rfl (.inr rfl) rfl,rFlat (rSp_flat o.d) rfl (.inr rfl) rfl,trivial⟩ ⟨rSp_flat _,rSp_flat _,trivial⟩ rfl rfl rfl rfl ?_
   refine gM trivial (.inl rfl) rfl rfl rfl ?_
   refine gE trivial rfl rfl rfl rfl rfl rfl ?_
   refine gE trivial rfl rfl rfl rfl rfl rfl ?_
   refine gZ (u':=21) trivial rfl rfl rfl rfl rfl rfl rfl rfl ?_
   refine gT trivial rfl rfl rfl rfl rfl rfl rfl rfl rfl rfl (Nat.le_of_ble_eq_true rfl) rfl ?_
   refine gM trivial (.inr rfl) rfl rfl rfl ?_
   refine rg_nil nofun ?_
   refine vc_seq ?_
   refine vc_seq ?_
   refine vc_region hm ?_
   refine gL trivial rfl rfl rfl rfl rfl rfl rfl rfl ?_
   refine gL trivial rfl rfl rfl rfl rfl rfl rfl rfl ?_
   refine gC0 [18,19,5,6] (laws_eqOwn_c (x:=(chO (mayW a d) o (writeX o a d))) (y:=(chO (mayW a d) o (writeX o a d))) hr.2.1 hr.2.2) trivial rfl rfl rfl rfl ⟨rFlat (rSp_flat _) rfl (.inl rfl) rfl,rFlat (rSp_flat _) rfl (.inl rfl) rfl,rFlat (rSp_flat _) rfl (.inl rfl) rfl,rFlat (rSp_flat _) rfl (.inl rfl) rfl,trivial⟩ rfl rfl rfl rfl rfl ?_
   refine gN trivial rfl rfl rfl rfl ?_
   refine gM trivial (.inl rfl) rfl rfl rfl ?_
   refine gM ⟨_,_,rfl,rfl,(notT (eqO_self (chO (mayW a d) o (writeX o a d))))⟩ (.inl rfl) rfl rfl rfl ?_
   refine gM ⟨_,_,rfl,rfl,(notT (eqO_self (chO (mayW a d) o (writeX o a d))))⟩ (.inl rfl) rfl rfl rfl ?_
   refine gBN ⟨_,_,rfl,rfl,(notT (eqO_self (chO (mayW a d) o (writeX o a d))))⟩ rfl rfl rfl rfl rfl rfl ?_
   refine gPF trivial rfl rfl (notT (eqO_self (chO (mayW a d) o (writeX o a d)))) rfl rfl rfl ?_
   refine rg_nil nofun ?_
   refine cF rfl (nself _) ?_
   refine vc_skip ?_
   refine vc_seq ?_
   refine vc_region hm ?_
   refine gM trivial (.inr rfl) rfl rfl rfl ?_
   refine rg_nil nofun ?_
   refine vc_seq ?_
   refine vc_region hm ?_
   refine gL trivial rfl rfl rfl rfl rfl rfl rfl rfl ?_
   refine gM trivial (.inl rfl) rfl rfl rfl ?_
   refine gC0 [11,12] (laws_heldOwn_c (o:=(chO (mayW a d) o (writeX o a d))) (k:=1) hr.2.1 hr.2.2 (by decide) (by decide)) trivial rfl rfl rfl rfl ⟨rFlat (rSp_flat _) rfl (.inl rfl) rfl,rFlat (rSp_flat _) rfl (.inl rfl) rfl,trivial⟩ rfl rfl rfl rfl rfl ?_
   refine gM trivial (.inr rfl) rfl rfl rfl ?_
   refine rg_nil nofun ?_
   refine vc_seq ?_
   refine vc_seq ?_
   refine vc_region hm ?_
   refine gM trivial (.inl rfl) rfl rfl rfl ?_
   refine gI trivial rfl rfl rfl rfl rfl rfl ?_
   refine rg_nil nofun ?_
   refine cF rfl (decide_eq_false (by omega)) ?_
   refine vc_skip ?_
   refine vc_seq ?_
   refine vc_seq ?_
   refine vc_region hm ?_
   refine gM trivial (.inl rfl) rfl rfl rfl ?_
   refine gM trivial (.inl rfl) rfl rfl rfl ?_
   refine gI trivial rfl rfl rfl rfl rfl rfl ?_
   refine rg_nil nofun ?_
   refine cF rfl (bne_self_eq_false _) ?_
   refine vc_skip ?_
   refine vc_seq ?_
   refine vc_region hm ?_
   refine gM trivial (.inr rfl) rfl rfl rfl ?_
   refine rg_nil nofun ?_
   refine vc_ret ?_
   exact ⟨idm,ends0 (.inr rfl) rfl (eqB rfl) rfl rfl rfl⟩
theorem FnExactOwnWrite_F {o:Ow} {k0 k1:Nat} {a:Int} {d:ByteArray} (ht:o.t.size≤9223372036854775807) (hh:o.h.length≤9223372036854775807) (hd:o.d.length≤9223372036854775807) (h:ownOk o=false):FDoes Try.prog 12 [.agg #[.string o.t,.slice (some ⟨0,k0,none⟩) o.h.length 0,.slice (some ⟨1,k1,none⟩) o.d.length 0],.int .i64 a,.string d] (hp [(0,false,one ⟨hls k0 (rSp o.h),35,0⟩),(1,false,one ⟨hls k1 (rSp o.d),35,0⟩)]) { v:=.bool true,rd:=[0,1] }:=by
 have hm:Try.prog.follows .mixedOrders=true:=by kernel_rfl
 have hd_:∀ x_ ∈ ([(0,false,one ⟨hls k0 (rSp o.h),35,0⟩),(1,false,one ⟨hls k1 (rSp o.d),35,0⟩)]:List (Nat × Bool × Fam)),∀ k_ y_,x_.2.2 k_=some y_→DetB (lt 2) y_:=by
  intro x_ hx k_ y_ e
  simp only [List.mem_cons,List.not_mem_nil,or_false] at hx
  rcases hx with rfl|rfl
  ·exact det_row (hls_flat (rSp_flat o.h)) e
  ·exact det_row (hls_flat (rSp_flat o.d)) e
 refine fn_exact (u0:=2) Try.func12 rfl rfl (gets rfl rfl rfl hd_ rfl) ?_
 clear hd_
 refine vc_seq ?_
 refine vc_region hm ?_
 refine gB (u':=3) trivial rfl rfl rfl rfl rfl rfl rfl rfl ?_
 refine gM trivial (.inr rfl) rfl rfl rfl ?_
 refine rg_nil nofun ?_
 refine vc_seq ?_
 refine vc_seq ?_
 refine vc_region hm ?_
 refine gM trivial (.inl rfl) rfl rfl rfl ?_
 refine gKT trivial rfl rfl rfl rfl rfl ?_
 refine gI trivial rfl rfl rfl rfl rfl rfl ?_
 refine rg_nil nofun ?_
 refine cI rfl (fun c20=>?_) (fun c20=>?_)
 ·skip
  have p20:=of_decide_eq_true c20
  refine vc_seq ?_
  refine vc_region hm ?_
  refine gM trivial (.inr rfl) rfl rfl rfl ?_
  refine rg_nil nofun ?_
  refine vc_ret ?_
  exact ⟨idm,ends0 (.inr rfl) rfl (eqB rfl) rfl rfl rfl⟩
 ·skip
  have p20:=of_decide_eq_false c20
  refine vc_skip ?_
  refine vc_seq ?_
  refine vc_region hm ?_
  refine gM trivial (.inr rfl) rfl rfl rfl ?_
  refine rg_nil nofun ?_
  refine vc_seq ?_
  refine vc_region hm ?_
  refine gL trivial rfl rfl rfl rfl rfl rfl rfl rfl ?_
  refine gM trivial (.inl rfl) rfl rfl rfl ?_
  refine gC0 [0,1] (laws_szOwn_c (o:=o) (k0:=k0) (k1:=k1) (left:=1048576) (by omega) (by omega) ht hh hd) trivial rfl rfl rfl rfl ⟨rFlat (hls_flat (rSp_flat o.h)) rfl (.inl rfl) rfl,rFlat (hls_flat (rSp_flat o.d)) rfl (.inl rfl) rfl,trivial⟩ rfl rfl rfl rfl rfl ?_
  refine gM trivial (.inr rfl) rfl rfl rfl ?_
  refine rg_nil nofun ?_
  refine vc_seq ?_
  refine vc_seq ?_
  refine vc_region hm ?_
  refine gM trivial (.inl rfl) rfl rfl rfl ?_
  refine gI trivial rfl rfl rfl rfl rfl rfl ?_
  refine rg_nil nofun ?_
  refine cI rfl (fun c25=>?_) (fun c25=>?_)
  ·skip
   have p25:=of_decide_eq_true c25
   refine vc_seq ?_
   refine vc_region hm ?_
   refine gM trivial (.inr rfl) rfl rfl rfl ?_
   refine rg_nil nofun ?_
   refine vc_ret ?_
   exact ⟨idm,ends0 (.inr rfl) rfl (eqB rfl) rfl rfl rfl⟩
  ·skip
   have p25:=of_decide_eq_false c25
   refine vc_skip ?_
   refine vc_seq ?_
   refine vc_region hm ?_
   refine gL trivial rfl rfl rfl rfl rfl rfl rfl rfl ?_
   refine gCn 5 [0,1,3,4] (laws_toOwn_c (o:=o) (k0:=k0) (k1:=k1) (szO_le p25).2.1 (szO_le p25).2.2) trivial rfl rfl rfl rfl ⟨rFlat (hls_flat (rSp_flat o.h)) rfl (.inl rfl) rfl,rFlat (hls_flat (rSp_flat o.d)) rfl (.inl rfl) rfl,trivial⟩ ⟨rSp_flat _,rSp_flat _,trivial⟩ rfl rfl rfl rfl ?_
   refine gM trivial (.inl rfl) rfl rfl rfl ?_
   refine gM trivial (.inl rfl) rfl rfl rfl ?_
   refine gC0 [3,4] (spec_OwnWrite_n (o:=o) (a:=a) (d:=d) (szO_le p25).1 (szO_le p25).2.1 (szO_le p25).2.2 h (by omega)) trivial rfl rfl rfl rfl ⟨rFlat (rSp_flat o.h) rfl (.inr rfl) rfl,rFlat (rSp_flat o.d) rfl (.inr rfl) rfl,trivial⟩ rfl rfl rfl rfl rfl ?_
   refine gM trivial (.inl rfl) rfl rfl rfl ?_
   refine gE trivial rfl rfl rfl rfl rfl rfl ?_
   refine gE trivial rfl rfl rfl rfl rfl rfl ?_
   refine gZ (u':=6) trivial rfl rfl rfl rfl rfl rfl rfl rfl ?_
   refine gT trivial rfl rfl rfl rfl rfl rfl rfl rfl rfl rfl (Nat.le_of_ble_eq_true rfl) rfl ?_
   refine gM trivial (.inr rfl) rfl rfl rfl ?_
   refine rg_nil nofun ?_
   refine vc_seq ?_
   refine vc_region hm ?_
   refine gL trivial rfl rfl rfl rfl rfl rfl rfl rfl ?_
   refine gCn 8 [0,1,6,7] (laws_toOwn_c (o:=o) (k0:=k0) (k1:=k1) (szO_le p25).2.1 (szO_le p25).2.2) trivial rfl rfl rfl rfl ⟨rFlat (hls_flat (rSp_flat o.h)) rfl (.inl rfl) rfl,rFlat (hls_flat (rSp_flat o.d)) rfl (.inl rfl) rfl,trivial⟩ ⟨rSp_flat _,rSp_flat _,trivial⟩ rfl rfl rfl rfl ?_
   refine gZ (u':=9) trivial rfl rfl rfl rfl rfl rfl rfl rfl ?_
   refine gT trivial rfl rfl rfl rfl rfl rfl rfl rfl rfl rfl (Nat.le_of_ble_eq_true rfl) rfl ?_
   refine rg_nil nofun ?_
   refine vc_seq ?_
   refine vc_region hm ?_
   refine gL trivial rfl rfl rfl rfl rfl rfl rfl rfl ?_
   refine gM trivial (.inl rfl) rfl rfl rfl ?_
   refine gM trivial (.inl rfl) rfl rfl rfl ?_
   refine gC0 [6,7] (impl_OwnWrite_n (o:=o) (a:=a) (d:=d) (szO_le p25).1 (szO_le p25).2.1 (szO_le p25).2.2 h (by omega)) trivial rfl rfl rfl rfl ⟨rFlat (rSp_flat o.h) rfl (.inr rfl) rfl,rFlat (rSp_flat o.d) rfl (.inr rfl) rfl,trivial⟩ rfl rfl rfl rfl rfl ?_
   refine gM trivial (.inl rfl) rfl rfl rfl ?_
   refine gE trivial rfl rfl rfl rfl rfl rfl ?_
   refine gE trivial rfl rfl rfl rfl rfl rfl ?_
   refine gZ (u':=10) trivial rfl rfl rfl rfl rfl rfl rfl rfl ?_
   refine gT trivial rfl rfl rfl rfl rfl rfl rfl rfl rfl rfl (Nat.le_of_ble_eq_true rfl) rfl ?_
   refine gM trivial (.inr rfl) rfl rfl rfl ?_
   refine rg_nil nofun ?_
   refine vc_seq ?_
   refine vc_seq ?_
   refine vc_region hm ?_
   refine gL trivial rfl rfl rfl rfl rfl rfl rfl rfl ?_
   refine gL trivial rfl rfl rfl rfl rfl rfl rfl rfl ?_
   refine gC0 [] (laws_eqOwn_n) trivial rfl rfl rfl rfl (by trivial) rfl rfl rfl rfl rfl ?_
   refine gN trivial rfl rfl rfl rfl ?_
   refine gM trivial (.inl rfl) rfl rfl rfl ?_
   refine gM ⟨_,_,rfl,rfl,(notT rfl)⟩ (.inl rfl) rfl rfl rfl ?_
   refine gM ⟨_,_,rfl,rfl,(notT rfl)⟩ (.inl rfl) rfl rfl rfl ?_
   refine gBN ⟨_,_,rfl,rfl,(notT rfl)⟩ rfl rfl rfl rfl rfl rfl ?_
   refine gPF trivial rfl rfl (notT rfl) rfl rfl rfl ?_
   refine rg_nil nofun ?_
   refine cF rfl (nself _) ?_
   refine vc_skip ?_
   refine vc_seq ?_
   refine vc_seq ?_
   refine vc_region hm ?_
   refine gL trivial rfl rfl rfl rfl rfl rfl rfl rfl ?_
   refine gL trivial rfl rfl rfl rfl rfl rfl rfl rfl ?_
   refine gCn 12 [0,1,10,11] (laws_toOwn_c (o:=o) (k0:=k0) (k1:=k1) (szO_le p25).2.1 (szO_le p25).2.2) trivial rfl rfl rfl rfl ⟨rFlat (hls_flat (rSp_flat o.h)) rfl (.inl rfl) rfl,rFlat (hls_flat (rSp_flat o.d)) rfl (.inl rfl) rfl,trivial⟩ ⟨rSp_flat _,rSp_flat _,trivial⟩ rfl rfl rfl rfl ?_
   refine gC0 [6,7,10,11] (laws_eqOwn_c (x:=o) (y:=o) (szO_le p25).2.1 (szO_le p25).2.2) trivial rfl rfl rfl rfl ⟨rFlat (rSp_flat o.h) rfl (.inl rfl) rfl,rFlat (rSp_flat o.d) rfl (.inl rfl) rfl,rFlat (rSp_flat o.h) rfl (.inl rfl) rfl,rFlat (rSp_flat o.d) rfl (.inl rfl) rfl,trivial⟩ rfl rfl rfl rfl rfl ?_
   refine gN trivial rfl rfl rfl rfl ?_
   refine rg_nil (fun _=>by kernel_rfl) ?_
   refine cF rfl (notT (eqO_self o)) ?_
   refine vc_skip ?_
   refine vc_seq ?_
   refine vc_region hm ?_
   refine gM trivial (.inr rfl) rfl rfl rfl ?_
   refine rg_nil nofun ?_
   refine vc_seq ?_
   refine vc_region hm ?_
   refine gL trivial rfl rfl rfl rfl rfl rfl rfl rfl ?_
   refine gM trivial (.inl rfl) rfl rfl rfl ?_
   refine gCG 12 [6,7] (laws_markOwn_c102 (o:=o) (k:=1) (szO_le p25).2.1 (szO_le p25).2.2 (by decide) (by decide)) trivial rfl rfl rfl rfl ⟨rFlat (rSp_flat o.h) rfl (.inr rfl) rfl,rFlat (rSp_flat o.d) rfl (.inr rfl) rfl,trivial⟩ ⟨rSp_flat _,rSp_flat _,trivial⟩ trivial rfl rfl (by intro x hx;simp only [List.mem_cons,List.not_mem_nil,or_false] at hx;rcases hx with rfl|rfl <;> exact ⟨_,rfl⟩) (by intro x hx;simp only [List.mem_cons,List.not_mem_nil,or_false] at hx;rcases hx with rfl|rfl <;> exact ⟨_,_,rfl⟩) rfl rfl ?_
   refine gM trivial (.inr rfl) rfl rfl rfl ?_
   refine rg_nil nofun ?_
   refine vc_seq ?_
   refine vc_seq ?_
   refine vc_region hm ?_
   refine gM trivial (.inl rfl) rfl rfl rfl ?_
   refine gI trivial rfl rfl rfl rfl rfl rfl ?_
   refine gM trivial (.inl rfl) rfl rfl rfl ?_
   refine gL ⟨_,_,rfl,rfl,(decide_eq_false (by omega))⟩ rfl rfl rfl rfl rfl rfl rfl rfl ?_
   refine gL ⟨_,_,rfl,rfl,(decide_eq_false (by omega))⟩ rfl rfl rfl rfl rfl rfl rfl rfl ?_
   refine gC0 [] (laws_eqOwn_n) ⟨_,_,rfl,rfl,(decide_eq_false (by omega))⟩ rfl rfl rfl rfl (by trivial) rfl rfl rfl rfl rfl ?_
   refine gN ⟨_,_,rfl,rfl,(decide_eq_false (by omega))⟩ rfl rfl rfl rfl ?_
   refine gPF trivial rfl rfl (decide_eq_false (by omega)) rfl rfl rfl ?_
   refine gM trivial (.inl rfl) rfl rfl rfl ?_
   refine gM ⟨_,_,rfl,rfl,(notT rfl)⟩ (.inl rfl) rfl rfl rfl ?_
   refine gM ⟨_,_,rfl,rfl,(notT rfl)⟩ (.inl rfl) rfl rfl rfl ?_
   refine gBN ⟨_,_,rfl,rfl,(notT rfl)⟩ rfl rfl rfl rfl rfl rfl ?_
   refine gPF trivial rfl rfl (notT rfl) rfl rfl rfl ?_
   refine rg_nil nofun ?_
   refine cF rfl (nself _) ?_
   refine vc_skip ?_
   refine vc_seq ?_
   refine vc_region hm ?_
   refine gM trivial (.inr rfl) rfl rfl rfl ?_
   refine rg_nil nofun ?_
   refine vc_seq ?_
   refine vc_region hm ?_
   refine gL trivial rfl rfl rfl rfl rfl rfl rfl rfl ?_
   refine gM trivial (.inl rfl) rfl rfl rfl ?_
   refine gC0 [] (laws_markOwn_n) trivial rfl rfl rfl rfl (by trivial) rfl rfl rfl rfl rfl ?_
   refine gM trivial (.inr rfl) rfl rfl rfl ?_
   refine rg_nil nofun ?_
   refine vc_seq ?_
   refine vc_region hm ?_
   refine gM trivial (.inr rfl) rfl rfl rfl ?_
   refine rg_nil nofun ?_
   refine vc_seq ?_
   refine vc_region hm ?_
   refine gL trivial rfl rfl rfl rfl rfl rfl rfl rfl ?_
   refine gM trivial (.inl rfl) rfl rfl rfl ?_
   refine gC0 [] (laws_heldOwn_n) trivial rfl rfl rfl rfl (by trivial) rfl rfl rfl rfl rfl ?_
   refine gM trivial (.inr rfl) rfl rfl rfl ?_
   refine rg_nil nofun ?_
   refine vc_seq ?_
   refine vc_seq ?_
   refine vc_region hm ?_
   refine gM trivial (.inl rfl) rfl rfl rfl ?_
   refine gI trivial rfl rfl rfl rfl rfl rfl ?_
   refine rg_nil nofun ?_
   refine cF rfl (decide_eq_false (by omega)) ?_
   refine vc_skip ?_
   refine vc_seq ?_
   refine vc_seq ?_
   refine vc_region hm ?_
   refine gM trivial (.inl rfl) rfl rfl rfl ?_
   refine gM trivial (.inl rfl) rfl rfl rfl ?_
   refine gI trivial rfl rfl rfl rfl rfl rfl ?_
   refine rg_nil nofun ?_
   refine cF rfl (bne_self_eq_false _) ?_
   refine vc_skip ?_
   refine vc_seq ?_
   refine vc_region hm ?_
   refine gL trivial rfl rfl rfl rfl rfl rfl rfl rfl ?_
   refine gCn 14 [0,1,12,13] (laws_toOwn_c (o:=o) (k0:=k0) (k1:=k1) (szO_le p25).2.1 (szO_le p25).2.2) trivial rfl rfl rfl rfl ⟨rFlat (hls_flat (rSp_flat o.h)) rfl (.inl rfl) rfl,rFlat (hls_flat (rSp_flat o.d)) rfl (.inl rfl) rfl,trivial⟩ ⟨rSp_flat _,rSp_flat _,trivial⟩ rfl rfl rfl rfl ?_
   refine gM trivial (.inl rfl) rfl rfl rfl ?_
   refine gM trivial (.inl rfl) rfl rfl rfl ?_
   refine gC0 [12,13] (impl_OwnWrite_n (o:=o) (a:=a) (d:=d) (szO_le p25).1 (szO_le p25).2.1 (szO_le p25).2.2 h (by omega)) trivial rfl rfl rfl rfl ⟨rFlat (rSp_flat o.h) rfl (.inr rfl) rfl,rFlat (rSp_flat o.d) rfl (.inr rfl) rfl,trivial⟩ rfl rfl rfl rfl rfl ?_
   refine gM trivial (.inl rfl) rfl rfl rfl ?_
   refine gE trivial rfl rfl rfl rfl rfl rfl ?_
   refine gE trivial rfl rfl rfl rfl rfl rfl ?_
   refine gZ (u':=15) trivial rfl rfl rfl rfl rfl rfl rfl rfl ?_
   refine gT trivial rfl rfl rfl rfl rfl rfl rfl rfl rfl rfl (Nat.le_of_ble_eq_true rfl) rfl ?_
   refine gM trivial (.inr rfl) rfl rfl rfl ?_
   refine rg_nil nofun ?_
   refine vc_seq ?_
   refine vc_seq ?_
   refine vc_region hm ?_
   refine gL trivial rfl rfl rfl rfl rfl rfl rfl rfl ?_
   refine gL trivial rfl rfl rfl rfl rfl rfl rfl rfl ?_
   refine gC0 [] (laws_eqOwn_n) trivial rfl rfl rfl rfl (by trivial) rfl rfl rfl rfl rfl ?_
   refine gN trivial rfl rfl rfl rfl ?_
   refine gM trivial (.inl rfl) rfl rfl rfl ?_
   refine gM ⟨_,_,rfl,rfl,(notT rfl)⟩ (.inl rfl) rfl rfl rfl ?_
   refine gM ⟨_,_,rfl,rfl,(notT rfl)⟩ (.inl rfl) rfl rfl rfl ?_
   refine gBN ⟨_,_,rfl,rfl,(notT rfl)⟩ rfl rfl rfl rfl rfl rfl ?_
   refine gPF trivial rfl rfl (notT rfl) rfl rfl rfl ?_
   refine rg_nil nofun ?_
   refine cF rfl (nself _) ?_
   refine vc_skip ?_
   refine vc_seq ?_
   refine vc_region hm ?_
   refine gM trivial (.inr rfl) rfl rfl rfl ?_
   refine rg_nil nofun ?_
   refine vc_seq ?_
   refine vc_region hm ?_
   refine gL trivial rfl rfl rfl rfl rfl rfl rfl rfl ?_
   refine gM trivial (.inl rfl) rfl rfl rfl ?_
   refine gC0 [] (laws_heldOwn_n) trivial rfl rfl rfl rfl (by trivial) rfl rfl rfl rfl rfl ?_
   refine gM trivial (.inr rfl) rfl rfl rfl ?_
   refine rg_nil nofun ?_
   refine vc_seq ?_
   refine vc_seq ?_
   refine vc_region hm ?_
   refine gM trivial (.inl rfl) rfl rfl rfl ?_
   refine gI trivial rfl rfl rfl rfl rfl rfl ?_
   refine rg_nil nofun ?_
   refine cF rfl (decide_eq_false (by omega)) ?_
   refine vc_skip ?_
   refine vc_seq ?_
   refine vc_seq ?_
   refine vc_region hm ?_
   refine gM trivial (.inl rfl) rfl rfl rfl ?_
   refine gM trivial (.inl rfl) rfl rfl rfl ?_
   refine gI trivial rfl rfl rfl rfl rfl rfl ?_
   refine rg_nil nofun ?_
   refine cF rfl (bne_self_eq_false _) ?_
   refine vc_skip ?_
   refine vc_seq ?_
   refine vc_region hm ?_
   refine gM trivial (.inr rfl) rfl rfl rfl ?_
   refine rg_nil nofun ?_
   refine vc_ret ?_
   exact ⟨idm,ends0 (.inr rfl) rfl (eqB rfl) rfl rfl rfl⟩
theorem FnExactOwnWrite_c {o:Ow} {k0 k1:Nat} (ht:o.t.size≤9223372036854775807) (hh:o.h.length≤9223372036854775807) (hd:o.d.length≤9223372036854775807) {a:Int} {d:ByteArray} (hs:Fits64 a) (hdz:d.size≤9223372036854775807):FDoes Try.prog 12 [.agg #[.string o.t,.slice (some ⟨0,k0,none⟩) o.h.length 0,.slice (some ⟨1,k1,none⟩) o.d.length 0],.int .i64 a,.string d] (hp [(0,false,one ⟨hls k0 (rSp o.h),35,0⟩),(1,false,one ⟨hls k1 (rSp o.d),35,0⟩)]) { v:=.bool true,rd:=[0,1] }:=by
 cases h:ownOk o with
 | true=>exact FnExactOwnWrite_T (a:=a) (d:=d) ht hh hd h
 | false=>exact FnExactOwnWrite_F (a:=a) (d:=d) ht hh hd h
theorem FnExactOwnWrite_walk {w:World} {v0:Value} {o0:Ow} {N0 M0:Nam} {k0 m0:Nat} (h0:OwnArg w v0 o0 N0 k0 M0 m0) {a1:Int} (h1:Fits64 a1) {a2:ByteArray} (h2:a2.size≤9223372036854775807):Calls Try.prog 12 #[v0,.int .i64 a1,.string a2] w fun e w'=>e = .returned (.bool true)∧Below w.heap.size w w' :=
 law_done (FnExactOwnWrite_c h0.2.1 h0.2.2.1 h0.2.2.2 h1 h2) (ρ:=envL [N0,M0]) (by simp only [List.map_cons,List.map_nil,ownArg_r3 (l:=[N0,M0]) (a:=0) (b:=1) h0 rfl rfl (of_blt rfl) (of_blt rfl),r3_flat (v:=.int .i64 a1) rfl,r3_flat (v:=.string a2) rfl]) ⟨ownArg_at0 h0 rfl (of_blt rfl),ownArg_at1 h0 rfl (of_blt rfl),trivial⟩
end Go.Proofs.Ythionnhbnfblcaa.A

/- Part 2 of the proof of FnExactLockMay: words, contracts of callees, plain lemmas. -/
import Derived.Test.YtcdhnaojdhdehaaZLockMay1
set_option maxHeartbeats 8000000
set_option maxRecDepth 100000
set_option linter.unusedVariables false
set_option linter.unusedSimpArgs false
namespace Go.Proofs.Ytcdhnaojdhdehaa.A
open Go Go.RowKit
structure Ho where
 r:List Sp
 w:List Sp
deriving Inhabited,DecidableEq
structure Hv where
 a:Value
 b:Value
instance:Inhabited Hv:=⟨⟨.slice none 0 0,.slice none 0 0⟩⟩
def eHv (h:Hv):List Value:=[h.a,h.b]
abbrev rHv (xs:List Hv):List Value:=rowL eHv xs
abbrev zo:Nat→Nat:=fun _=>0
def sel (h:Ho) (j:Nat):List Sp:=if j % 2=0 then h.r else h.w
def hv (C:Nat) (off:Nat→Nat) (i:Nat) (h:Ho):Hv:=⟨.slice (some ⟨nm C (2 * i),off (2 * i),none⟩) h.r.length 0,.slice (some ⟨nm C (2 * i + 1),off (2 * i + 1),none⟩) h.w.length 0⟩
def tabV (C:Nat) (off:Nat→Nat) (T:List Ho):List Hv:=(List.range T.length).map fun i=>hv C off i (at_ T (i:Int))
def inF (off:Nat→Nat) (t e:Nat) (T:List Ho):Fam:=fun j=>(T[j / 2]?).map fun h=>⟨hls (off j) (rSp (sel h j)),t,e⟩
theorem tabV_len {C:Nat} {off:Nat→Nat} {T:List Ho}:(tabV C off T).length=T.length:=by simp [tabV]
theorem at_tabV {C:Nat} {off:Nat→Nat} {T:List Ho} {i:Int} (h0:0≤i) (h1:i<T.length):at_ (tabV C off T) i=hv C off i.toNat (at_ T i):=by
 have hi:i.toNat<T.length:=by omega
 have e:((i.toNat:Nat):Int)=i:=by omega
 unfold at_
 rw [List.getD_eq_getElem?_getD,List.getElem?_eq_getElem (by rw [tabV_len];exact hi)]
 simp only [tabV,List.getElem_map,List.getElem_range,Option.getD_some,e]
 rfl
theorem tabV_ne {C:Nat} {off:Nat→Nat} {T:List Ho} (h:0<T.length):rHv (tabV C off T) ≠ []:=row_ne (n:=2) (fun _=>rfl) (by decide) (by rw [tabV_len];exact h)
theorem rHv_nil {xs:List Hv} (h:rHv xs = []):xs.length=0:=row_nil (n:=2) (fun _=>rfl) (by decide) h
theorem tabV_nil {C:Nat} {off:Nat→Nat} {T:List Ho} (h:rHv (tabV C off T) = []):T.length=0:=by have:=rHv_nil h;rw [tabV_len] at this;exact this
theorem lH0 {C:Nat} {off:Nat→Nat} {T:List Ho} {i:Int} (h0:0≤i) (h1:i<T.length):varV false 1 (rHv (tabV C off T)) (0 + i.toNat * 2 + 0)=some (.slice (some ⟨nm C (2 * i.toNat),off (2 * i.toNat),none⟩) (at_ T i).r.length 0) :=
 row_var (f:=0) (n:=2) (fun _=>rfl) (by omega) h0 (by rw [tabV_len];exact h1) (by rw [at_tabV h0 h1];rfl) rfl
theorem lH1 {C:Nat} {off:Nat→Nat} {T:List Ho} {i:Int} (h0:0≤i) (h1:i<T.length):varV false 1 (rHv (tabV C off T)) (0 + i.toNat * 2 + 1)=some (.slice (some ⟨nm C (2 * i.toNat + 1),off (2 * i.toNat + 1),none⟩) (at_ T i).w.length 0) :=
 row_var (f:=1) (n:=2) (fun _=>rfl) (by omega) h0 (by rw [tabV_len];exact h1) (by rw [at_tabV h0 h1];rfl) rfl
theorem aH {C:Nat} {off:Nat→Nat} {T:List Ho} {i:Int} (h0:0≤i) (h1:i<T.length):varV true 2 (rHv (tabV C off T)) (0 + i.toNat * 2)=some (.agg #[.slice (some ⟨nm C (2 * i.toNat),off (2 * i.toNat),none⟩) (at_ T i).r.length 0,.slice (some ⟨nm C (2 * i.toNat + 1),off (2 * i.toNat + 1),none⟩) (at_ T i).w.length 0]):=by
 have:=row_agg (enc:=eHv) (n:=2) (fun _=>rfl) (by decide) (xs:=tabV C off T) (i:=i) (k:=0 + i.toNat * 2) (by omega) h0 (by rw [tabV_len];exact h1) (by rw [at_tabV h0 h1];rfl)
 rw [this,at_tabV h0 h1]
 rfl
theorem mem_rHv {xs:List Hv} {v:Value} (h:v ∈ rHv xs):∃ x ∈ xs,v=x.a∨v=x.b:=by
 obtain ⟨x,hx,hv⟩:=List.mem_flatMap.1 h
 refine ⟨x,hx,?_⟩
 simpa [eHv] using hv
theorem mem_tabV {C:Nat} {off:Nat→Nat} {T:List Ho} {v:Value} (h:v ∈ rHv (tabV C off T)):∃ k l,v = .slice (some ⟨nm C k,off k,none⟩) l 0:=by
 obtain ⟨x,hx,hv⟩:=mem_rHv h
 obtain ⟨i,_,rfl⟩:=List.mem_map.1 hx
 rcases hv with rfl|rfl
 ·exact ⟨_,_,rfl⟩
 ·exact ⟨_,_,rfl⟩
theorem tabV_po {C:Nat} {off:Nat→Nat} {T:List Ho} {τ:NMap}:(rHv (tabV C off T)).all (po1 τ)=true:=List.all_eq_true.2 fun v hv=>by
 obtain ⟨k,l,rfl⟩:=mem_tabV hv
 rfl
theorem tabV_ok {C u:Nat} {off:Nat→Nat} {T:List Ho} (hC:C<1000) (hu:C<u):(rHv (tabV C off T)).all (ok1 u)=true:=List.all_eq_true.2 fun v hv=>by
 obtain ⟨k,l,rfl⟩:=mem_tabV hv
 show Nat.blt (nm C k % 1000) u=true
 rw [nm_mod hC,Nat.blt_eq]
 exact hu
theorem rHv_map {f:Value→Value} {xs ys:List Hv} (h:xs.length=ys.length) (e:∀ i,i<xs.length→f (at_ xs (i:Int)).a=(at_ ys (i:Int)).a∧f (at_ xs (i:Int)).b=(at_ ys (i:Int)).b):(rHv xs).map f=rHv ys:=by
 induction xs generalizing ys with
 | nil=>cases ys with
  | nil=>rfl
  | cons y ys=>cases h
 | cons x xs ih =>
  cases ys with
  | nil=>cases h
  | cons y ys =>
   have h0:=e 0 (by simp)
   have h0:f x.a=y.a∧f x.b=y.b:=h0
   have:=ih (ys:=ys) (by simpa using h) fun i hi=>by
    have:=e (i + 1) (by simp;omega)
    simpa [at_] using this
   show List.map f (eHv x ++ rHv xs)=eHv y ++ rHv ys
   rw [List.map_append,this]
   simp [eHv,h0.1,h0.2]
theorem tabV_tn {ts:List (Nat→Option Nat)} {c C:Nat} {off:Nat→Nat} {T:List Ho} (hc:c<1000) (hg:ts[c]?=some (nF C)):(rHv (tabV c off T)).map (tn1 (tm ts))=rHv (tabV C off T):=by
 refine rHv_map (by rw [tabV_len,tabV_len]) fun i hi=>?_
 rw [tabV_len] at hi
 rw [at_tabV (by omega) (by omega),at_tabV (by omega) (by omega)]
 have e:∀ k,tm ts (nm c k)=some (nm C k):=fun k=>tm_nm hc hg
 simp [hv,tn1,e]
theorem map_hls {τ:NMap} {k:Nat} {cs:List Value}:(hls k cs).map (tn1 τ)=hls k (cs.map (tn1 τ)):=by
 unfold hls
 rw [List.map_append,List.map_replicate]
 rfl
theorem hls_po {τ:NMap} {k:Nat} {cs:List Value} (h:cs.all (po1 τ)=true):(hls k cs).all (po1 τ)=true:=by
 unfold hls
 rw [List.all_append,h,Bool.and_true]
 induction k with
 | zero=>rfl
 | succ k ih=>rw [List.replicate_succ,List.all_cons,ih];rfl
theorem aTab {ts:List (Nat→Option Nat)} {h:List (Nat × Bool × Fam)} {rds:List Nat} {b c t t' e e' B C j k:Nat} {off:Nat→Nat} {T:List Ho} {o':Bool} {F':Fam} (hg:ts[b]?=some (nA (nm B j))) (hc:ts[c]?=some (nF C)) (hl:h.lookup B=some (o',F')) (hF:F' j=some ⟨hls k (rHv (tabV C off T)),t',e'⟩) (ht:e=0∨t'=t) (he:e=0∨e'=e∨(77≤e∧e<100∧e' ≠ 0)) (hb:(Nat.blt b 1000 && Nat.blt B 1000 && rds.contains B)=true) (hcc:Nat.blt c 1000=true):ArgT (tm ts) h rds b (one ⟨hls k (rHv (tabV c off T)),t,e⟩):=by
 refine aRowN hg (hls_po tabV_po) hl hF ⟨?_,fun q=>ht.resolve_left q,he⟩ hb
 show _=(hls k _).map (tn1 (tm ts))
 rw [map_hls,tabV_tn (of_blt hcc) hc]
theorem inF_flat {off:Nat→Nat} {t e:Nat} {T:List Ho} {k:Nat} {y:Blk} (h:inF off t e T k=some y):y.cs.all flat1=true:=by
 unfold inF at h
 simp only [Option.map_eq_some_iff] at h
 obtain ⟨x,_,rfl⟩:=h
 exact hls_flat (rSp_flat _)
theorem aIn {ts:List (Nat→Option Nat)} {h:List (Nat × Bool × Fam)} {rds:List Nat} {c t t' e e' C:Nat} {off:Nat→Nat} {T:List Ho} {o':Bool} (hg:ts[c]?=some (nF C)) (hl:h.lookup C=some (o',inF off t' e' T)) (ht:e=0∨t'=t) (he:e=0∨e'=e∨(77≤e∧e<100∧e' ≠ 0)) (hb:(Nat.blt c 1000 && Nat.blt C 1000 && rds.contains C)=true):ArgT (tm ts) h rds c (inF off t e T):=by
 refine aFam hg hl (fun k x hx=>⟨flat_poL (inF_flat hx),?_⟩) hb
 have hf:=inF_flat hx
 unfold inF at hx
 simp only [Option.map_eq_some_iff] at hx
 obtain ⟨y,hy,rfl⟩:=hx
 refine ⟨⟨hls (off k) (rSp (sel y k)),t',e'⟩,by unfold inF;rw [hy];rfl,?_⟩
 rw [tnb_flat hf]
 exact ⟨rfl,fun q=>ht.resolve_left q,he⟩
theorem inF_0 {off:Nat→Nat} {t e:Nat} {T:List Ho} {i:Int} (h0:0≤i) (h1:i<T.length):inF off t e T (2 * i.toNat)=some ⟨hls (off (2 * i.toNat)) (rSp (at_ T i).r),t,e⟩:=by
 have hi:i.toNat<T.length:=by omega
 unfold inF
 rw [show 2 * i.toNat / 2=i.toNat by omega,List.getElem?_eq_getElem hi,at_nat h0 h1]
 simp [sel]
theorem inF_1 {off:Nat→Nat} {t e:Nat} {T:List Ho} {i:Int} (h0:0≤i) (h1:i<T.length):inF off t e T (2 * i.toNat + 1)=some ⟨hls (off (2 * i.toNat + 1)) (rSp (at_ T i).w),t,e⟩:=by
 have hi:i.toNat<T.length:=by omega
 unfold inF
 rw [show (2 * i.toNat + 1) / 2=i.toNat by omega,List.getElem?_eq_getElem hi,at_nat h0 h1]
 simp [sel,show (2 * i.toNat + 1) % 2=1 by omega]
theorem nX_C {C i a b k:Nat} (h:k ≠ i) (h':k ≠ i + 1):nX C i a b k=some (nm C k):=by unfold nX;rw [if_neg h,if_neg h']
theorem nX_a {C i a b:Nat}:nX C i a b i=some a:=if_pos rfl
theorem nX_b {C i a b:Nat}:nX C i a b (i + 1)=some b:=by unfold nX;rw [if_neg (by omega),if_pos rfl]
theorem re_fold {r u1 u2 C C' i a b:Nat} {ms:List Nat} {t1 t2:List (Nat × Value)} {h1 h2:List (Nat × Bool × Fam)} (hr:(Nat.ble r u2 && Nat.ble r C && Nat.blt C 1000)=true) (ht:KeepTT (tmG ms C (nX C' i a b)) u2 t1 t2) (hh:KeepHT (tmG ms C (nX C' i a b)) u2 h1 h2)
  (hi:(h2.all fun x=>h2.all fun y=>x.1 == C || y.1 == C || !(mp ms x.1 == mp ms y.1) || x.1 == y.1)=true) (hlt:(h2.all fun x=>Nat.blt (mp ms x.1) 1000)=true) (hm:∀ b,b<r→mp ms b=b) (hnd:nodB (h2.map (·.1))=true)
  (hck:((h2.all fun y=>y.1 == C || (!(mp ms y.1 == a) && !(mp ms y.1 == b) && !(mp ms y.1 == C'))) && !(a == b) && !(a == C') && !(b == C') && Nat.blt a 1000 && Nat.blt b 1000 && Nat.blt C' 1000)=true):Re r ⟨u2,t2,h2⟩ ⟨u1,t1,h1⟩:=by
 simp only [Bool.and_eq_true,List.all_eq_true,Bool.or_eq_true,Bool.not_eq_true',beq_eq_false_iff_ne,beq_iff_eq] at hck
 obtain ⟨⟨⟨⟨⟨⟨c1,c2⟩,c3⟩,c4⟩,c5⟩,c6⟩,c7⟩:=hck
 have c5:=of_blt c5
 have c6:=of_blt c6
 have c7:=of_blt c7
 refine re_mk hr ht hh hi hlt hm (fun x hx ex=>⟨fun k k' n' _ _ q1 q2=>?_,fun k n' _ q y hy hy' k' _ e=>?_⟩) hnd
 ·have na:∀ k,nm C' k ≠ a:=fun k e=>by unfold nm at e;omega
  have nb:∀ k,nm C' k ≠ b:=fun k e=>by unfold nm at e;omega
  unfold nX at q1 q2
  split at q1 <;> split at q2
  ·omega
  ·cases q1
   split at q2
   ·cases q2;exact absurd rfl c2
   ·exact absurd (Option.some.inj q2) (na _)
  ·cases q2
   split at q1
   ·cases q1;exact absurd rfl c2
   ·exact absurd (Option.some.inj q1) (na _)
  ·split at q1 <;> split at q2
   ·omega
   ·cases q1;exact absurd (Option.some.inj q2) (nb _)
   ·cases q2;exact absurd (Option.some.inj q1) (nb _)
   ·rw [← q2] at q1
    exact (nm_inj c7 c7 (Option.some.inj q1)).2
 ·subst e
  obtain ⟨⟨d1,d2⟩,d3⟩:=(c1 y hy).resolve_left hy'
  have hy1:=of_blt (List.all_eq_true.1 hlt y hy)
  unfold nX at q
  split at q
  ·have:=Option.some.inj q;unfold nm at this;omega
  ·split at q
   ·have:=Option.some.inj q;unfold nm at this;omega
   ·exact d3 (nm_inj c7 hy1 (Option.some.inj q)).1.symm
theorem re_nil {r u1 u2 C:Nat} {ms:List Nat} {t1 t2:List (Nat × Value)} {h1 h2:List (Nat × Bool × Fam)} (hr:(Nat.ble r u2 && Nat.ble r C && Nat.blt C 1000)=true) (ht:KeepTT (tmG ms C nN) u2 t1 t2) (hh:KeepHT (tmG ms C nN) u2 h1 h2)
  (hi:(h2.all fun x=>h2.all fun y=>x.1 == C || y.1 == C || !(mp ms x.1 == mp ms y.1) || x.1 == y.1)=true) (hlt:(h2.all fun x=>Nat.blt (mp ms x.1) 1000)=true) (hm:∀ b,b<r→mp ms b=b) (hnd:nodB (h2.map (·.1))=true):Re r ⟨u2,t2,h2⟩ ⟨u1,t1,h1⟩ :=
 re_mk hr ht hh hi hlt hm (fun x hx ex=>⟨fun k k' n' _ _ q1 _=>(by cases q1),fun k n' _ q=>(by cases q)⟩) hnd
theorem kPutC {ms:List Nat} {C C' u2 i a b t e e1 ea eb:Nat} {h1:List (Nat × Bool × Fam)} {o o1 oa ob:Bool} {T1 T2:List Ho} {ra rb:List Sp} (hd:∀ j,j ≠ i→T2[j]? ≠ none→T1[j]?=T2[j]?) (hi:T2[i]?=some ⟨ra,rb⟩)
  (hl:h1.lookup C'=some (o1,inF zo t e1 T1)) (ha:h1.lookup a=some (oa,one ⟨rSp ra,t,ea⟩)) (hb:h1.lookup b=some (ob,one ⟨rSp rb,t,eb⟩)) (he:e=0∨((e1=e∨(77≤e∧e<100∧e1 ≠ 0))∧(ea=e∨(77≤e∧e<100∧ea ≠ 0))∧(eb=e∨(77≤e∧e<100∧eb ≠ 0))))
  (ho:o=true→o1=true∧oa=true∧ob=true) (hck:(Nat.blt C u2 && Nat.blt C 1000 && Nat.blt C' 1000 && Nat.blt a 1000 && Nat.blt b 1000)=true):KeepBT (tmG ms C (nX C' (2 * i) a b)) u2 h1 C o (inF zo t e T2):=by
 simp only [Bool.and_eq_true] at hck
 obtain ⟨⟨⟨⟨k1,k2⟩,k3⟩,k4⟩,k5⟩:=hck
 have k3:=of_blt k3
 have k4:=of_blt k4
 have k5:=of_blt k5
 have w:∀ {cs:List Value} {e':Nat},e=0∨e'=e∨(77≤e∧e<100∧e' ≠ 0)→BlkW ⟨cs,t,e⟩ ⟨cs,t,e'⟩:=fun h=>⟨rfl,fun _=>rfl,h⟩
 refine ktC (fun k y hy=>inF_flat hy) (fun k y hy=>?_) (by rw [k1,k2];rfl)
 have hy0:=hy
 unfold inF at hy
 simp only [Option.map_eq_some_iff] at hy
 obtain ⟨x,hx,rfl⟩:=hy
 refine ⟨fun q=>?_,fun n' q=>?_⟩
 ·unfold nX at q
  split at q
  ·cases q
  ·split at q <;> cases q
 ·unfold nX at q
  split at q
  ·cases q
   rename_i hk
   subst hk
   rw [show 2 * i / 2=i by omega,hi] at hx
   cases hx
   refine ⟨oa,_,_,by rw [Nat.mod_eq_of_lt k4];exact ha,by rw [Nat.div_eq_of_lt k4];rfl,?_,fun q=>(ho q).2.1⟩
   have:sel ⟨ra,rb⟩ (2 * i)=ra:=by simp [sel]
   rw [this]
   exact w (he.imp id fun q=>q.2.1)
  ·split at q
   ·cases q
    rename_i hk
    subst hk
    rw [show (2 * i + 1) / 2=i by omega,hi] at hx
    cases hx
    refine ⟨ob,_,_,by rw [Nat.mod_eq_of_lt k5];exact hb,by rw [Nat.div_eq_of_lt k5];rfl,?_,fun q=>(ho q).2.2⟩
    have:sel ⟨ra,rb⟩ (2 * i + 1)=rb:=by simp [sel]
    rw [this]
    exact w (he.imp id fun q=>q.2.2)
   ·cases q
    rename_i h1 h2
    have hne:k / 2 ≠ i:=fun q=>by omega
    have e1:=hd (k / 2) hne (by rw [hx];exact Option.some_ne_none _)
    rw [hx] at e1
    refine ⟨o1,_,⟨hls (zo k) (rSp (sel x k)),t,_⟩,by rw [nm_mod k3];exact hl,by rw [nm_div k3];unfold inF;rw [e1];rfl,w (he.imp id fun q=>q.1),fun q=>(ho q).1⟩
theorem hls_okL {u k:Nat} {cs:List Value} (h:cs.all (ok1 u)=true):(hls k cs).all (ok1 u)=true:=by
 unfold hls
 rw [List.all_append,h,Bool.and_true]
 induction k with
 | zero=>rfl
 | succ k ih=>rw [List.replicate_succ,List.all_cons,ih];rfl
theorem tabV_rn {m:Nat→Nat} {C:Nat} {off:Nat→Nat} {T:List Ho} (hC:C<1000):(rHv (tabV C off T)).map (rn1 m)=rHv (tabV (m C) off T):=by
 refine rHv_map (by rw [tabV_len,tabV_len]) fun i hi=>?_
 rw [tabV_len] at hi
 rw [at_tabV (by omega) (by omega),at_tabV (by omega) (by omega)]
 simp [hv,rn1,rnN_nm hC]
theorem det_tab {C u k0 t e k:Nat} {off:Nat→Nat} {T:List Ho} {y:Blk} (hC:(Nat.blt C 1000 && Nat.blt C u)=true) (h:one ⟨hls k0 (rHv (tabV C off T)),t,e⟩ k=some y):DetB (lt u) y:=by
 rw [Bool.and_eq_true] at hC
 obtain ⟨rfl,rfl⟩:=one_some h
 exact fun ρ ρ' hρ=>okL_det (hls_okL (tabV_ok (of_blt hC.1) (of_blt hC.2))) hρ
theorem det_in {u t e k:Nat} {off:Nat→Nat} {T:List Ho} {y:Blk} (h:inF off t e T k=some y):DetB (lt u) y:=fun ρ ρ' hρ=>okL_det (flat_okL (inF_flat h)) hρ
theorem asTab {m:Nat→Nat} {u C C' j t e:Nat} {T:List Ho} {h:List (Nat × Bool × Fam)} (hl:h.lookup j=some (true,one ⟨rHv (tabV C' zo T),t,e⟩)) (hm:m C=C') (hC:(Nat.blt C 1000 && Nat.blt C u)=true):h.lookup j=some (true,rnF m (one ⟨rHv (tabV C zo T),t,e⟩))∧∀ k y,one ⟨rHv (tabV C zo T),t,e⟩ k=some y→DetB (lt u) y:=by
 have h1:=hC
 rw [Bool.and_eq_true] at h1
 refine ⟨?_,fun k y h=>det_tab (k0:=0) hC h⟩
 rw [hl,rnF_one]
 simp only [Blk.rn]
 rw [tabV_rn (of_blt h1.1),hm]
theorem rnF_in {m:Nat→Nat} {t e:Nat} {off:Nat→Nat} {T:List Ho}:rnF m (inF off t e T)=inF off t e T:=by
 funext k
 unfold rnF
 cases h:inF off t e T k with
 | none=>rfl
 | some y =>
  obtain ⟨cs,t',e'⟩:=y
  show some _=_
  rw [rnb_flat (inF_flat h)]
theorem asIn {m:Nat→Nat} {u j t e:Nat} {off:Nat→Nat} {T:List Ho} {h:List (Nat × Bool × Fam)} (hl:h.lookup j=some (true,inF off t e T)):h.lookup j=some (true,rnF m (inF off t e T))∧∀ k y,inF off t e T k=some y→DetB (lt u) y:=⟨by rw [rnF_in];exact hl,fun k y h=>det_in h⟩
theorem ktTab {ms:List Nat} {C u2 b D D' k t e e':Nat} {g:Nat→Option Nat} {h1:List (Nat × Bool × Fam)} {o o':Bool} {off:Nat→Nat} {T:List Ho} (hl:h1.lookup (mp ms b)=some (o',one ⟨hls k (rHv (tabV D' off T)),t,e'⟩)) (hD:mp ms D=D') (he:e=0∨e'=e∨(77≤e∧e<100∧e' ≠ 0)) (ho:o=true→o'=true) (hb:(Nat.blt b u2 && Nat.blt b 1000 && Nat.blt (mp ms b) 1000 && !(b == C))=true) (hd:(Nat.blt D u2 && Nat.blt D 1000 && !(D == C))=true):KeepBT (tmG ms C g) u2 h1 b o (one ⟨hls k (rHv (tabV D off T)),t,e⟩):=by
 simp only [Bool.and_eq_true,Bool.not_eq_true',beq_eq_false_iff_ne] at hd
 obtain ⟨⟨d1,d2⟩,d3⟩:=hd
 have d2:=of_blt d2
 refine ktRow hl (hls_po tabV_po) (hls_okL (tabV_ok d2 (of_blt d1))) ⟨?_,fun _=>rfl,he⟩ ho hb
 show _=(hls k _).map (tn1 _)
 rw [map_hls]
 refine congrArg (hls k) (Eq.symm (rHv_map (by rw [tabV_len,tabV_len]) fun i hi=>?_))
 rw [tabV_len] at hi
 rw [at_tabV (by omega) (by omega),at_tabV (by omega) (by omega)]
 have e:∀ k,tmG ms C g (nm D k)=some (nm D' k):=fun k=>by rw [tmG_o d2 d3,hD]
 simp [hv,tn1,e]
theorem ktTabC {ms:List Nat} {C C' u2 i a b' b t e e':Nat} {h1:List (Nat × Bool × Fam)} {o o':Bool} {T:List Ho} {xs:List Hv} (hl:h1.lookup (mp ms b)=some (o',one ⟨rHv xs,t,e'⟩)) (hx:xs.length=T.length) (hi:i<T.length→at_ xs (i:Int)=⟨.slice (some ⟨a,0,none⟩) (at_ T (i:Int)).r.length 0,.slice (some ⟨b',0,none⟩) (at_ T (i:Int)).w.length 0⟩) (hj:∀ j:Nat,j<T.length→j ≠ i→at_ xs (j:Int)=hv C' zo j (at_ T (j:Int)))
  (he:e=0∨e'=e∨(77≤e∧e<100∧e' ≠ 0)) (ho:o=true→o'=true) (hb:(Nat.blt b u2 && Nat.blt b 1000 && Nat.blt (mp ms b) 1000 && !(b == C))=true) (hd:(Nat.blt C u2 && Nat.blt C 1000)=true):KeepBT (tmG ms C (nX C' (2 * i) a b')) u2 h1 b o (one ⟨rHv (tabV C zo T),t,e⟩):=by
 simp only [Bool.and_eq_true] at hd
 obtain ⟨d1,d2⟩:=hd
 have d2:=of_blt d2
 refine ktRow hl tabV_po (tabV_ok d2 (of_blt d1)) ⟨?_,fun _=>rfl,he⟩ ho hb
 show _=(rHv _).map (tn1 _)
 symm
 refine rHv_map (by rw [tabV_len,hx]) fun j h=>?_
 rw [tabV_len] at h
 rw [at_tabV (by omega) (by omega)]
 by_cases hji:j=i
 ·subst hji
  rw [hi h]
  have e1:tmG ms C (nX C' (2 * j) a b') (nm C (2 * j))=some a:=by rw [tmG_C d2];exact nX_a
  have e2:tmG ms C (nX C' (2 * j) a b') (nm C (2 * j + 1))=some b':=by rw [tmG_C d2];exact nX_b
  simp [hv,tn1,e1,e2]
 ·rw [hj j h hji]
  have e1:tmG ms C (nX C' (2 * i) a b') (nm C (2 * j))=some (nm C' (2 * j)):=by rw [tmG_C d2];exact nX_C (by omega) (by omega)
  have e2:tmG ms C (nX C' (2 * i) a b') (nm C (2 * j + 1))=some (nm C' (2 * j + 1)):=by rw [tmG_C d2];exact nX_C (by omega) (by omega)
  simp [hv,tn1,e1,e2]
theorem ktTabN {ms:List Nat} {C u2 b n t e e':Nat} {h1:List (Nat × Bool × Fam)} {o o':Bool} {T:List Ho} (hl:h1.lookup (mp ms b)=some (o',one ⟨rHv (List.replicate n default),t,e'⟩)) (hT:T=List.replicate n default) (he:e=0∨e'=e∨(77≤e∧e<100∧e' ≠ 0)) (ho:o=true→o'=true) (hb:(Nat.blt b u2 && Nat.blt b 1000 && Nat.blt (mp ms b) 1000 && !(b == C))=true) (hd:(Nat.blt C u2 && Nat.blt C 1000)=true):KeepBT (tmG ms C nN) u2 h1 b o (one ⟨rHv (tabV C zo T),t,e⟩):=by
 subst hT
 simp only [Bool.and_eq_true] at hd
 obtain ⟨d1,d2⟩:=hd
 have d2:=of_blt d2
 refine ktRow hl tabV_po (tabV_ok d2 (of_blt d1)) ⟨?_,fun _=>rfl,he⟩ ho hb
 show _=(rHv _).map (tn1 _)
 symm
 refine rHv_map (by rw [tabV_len];simp) fun j h=>?_
 rw [tabV_len,List.length_replicate] at h
 rw [at_tabV (by omega) (by simp;omega)]
 have e1:∀ k,tmG ms C nN (nm C k)=none:=fun k=>tmG_C d2
 have e2:at_ (List.replicate n (default:Hv)) (j:Int)=⟨.slice none 0 0,.slice none 0 0⟩:=by simp only [at_,Int.toNat_natCast,List.getD_eq_getElem?_getD,List.getElem?_replicate,if_pos h];rfl
 rw [e2]
 simp [hv,tn1,e1]
theorem ktInN {ms:List Nat} {C u2 n t e:Nat} {h1:List (Nat × Bool × Fam)} {o:Bool} {T:List Ho} (hT:T=List.replicate n default) (he:e<100) (hd:(Nat.blt C u2 && Nat.blt C 1000)=true):KeepBT (tmG ms C nN) u2 h1 C o (inF zo t e T):=by
 subst hT
 refine ktC (fun k y hy=>inF_flat hy) (fun k y hy=>⟨fun _=>?_,fun n' q=>by cases q⟩) hd
 unfold inF at hy
 simp only [Option.map_eq_some_iff,List.getElem?_replicate] at hy
 obtain ⟨x,hx,rfl⟩:=hy
 split at hx
 ·cases hx
  refine ⟨?_,he⟩
  have:sel (default:Ho) k = []:=by unfold sel;split <;> rfl
  rw [this]
  rfl
 ·cases hx
theorem ktIn {ms:List Nat} {C u2 b t e:Nat} {g:Nat→Option Nat} {h1:List (Nat × Bool × Fam)} {o o':Bool} {off:Nat→Nat} {T:List Ho} (hl:h1.lookup (mp ms b)=some (o',inF off t e T)) (ho:o=true→o'=true) (hb:(Nat.blt b u2 && Nat.blt b 1000 && Nat.blt (mp ms b) 1000 && !(b == C))=true):KeepBT (tmG ms C g) u2 h1 b o (inF off t e T):=ktFam (fun k y hy=>inF_flat hy) hl ho hb
theorem rTab {ts:List (Nat→Option Nat)} {b c b' C t e:Nat} {T:List Ho} (hg:ts[b]?=some (nF c)) (hc:ts[b']?=some (nF C)) (hb:Nat.blt b' 1000=true):ts[b]?=some (nF c)∧∀ k z,one ⟨rHv (tabV C zo T),t,e⟩ k=some z→∃ z0,one ⟨rHv (tabV b' zo T),t,e⟩ k=some z0∧z=z0.tn (tm ts)∧z0.cs.all (po1 (tm ts))=true:=by
 refine ⟨hg,fun k z hz=>?_⟩
 obtain ⟨rfl,rfl⟩:=one_some hz
 refine ⟨_,rfl,?_,tabV_po⟩
 show _=Blk.mk ((rHv (tabV b' zo T)).map (tn1 (tm ts))) t e
 rw [tabV_tn (of_blt hb) hc]
theorem rIn {ts:List (Nat→Option Nat)} {b c t e:Nat} {off:Nat→Nat} {T:List Ho} (hg:ts[b]?=some (nF c)):ts[b]?=some (nF c)∧∀ k z,inF off t e T k=some z→∃ z0,inF off t e T k=some z0∧z=z0.tn (tm ts)∧z0.cs.all (po1 (tm ts))=true:=by
 refine ⟨hg,fun k z hz=>⟨z,hz,?_,flat_poL (inF_flat hz)⟩⟩
 obtain ⟨cs,t',e'⟩:=z
 rw [tnb_flat (inF_flat hz)]
theorem tab_put {xs:List Hv} {i k:Nat} {va vb:Value} (hk:k=i * 2) (hi:i<xs.length):putL (rHv xs) k (cellsL (.agg #[va,vb]))=rHv (xs.set i ⟨va,vb⟩):=by
 rw [hk]
 exact rowL_set (enc:=eHv) (n:=2) (fun _=>rfl) xs i ⟨va,vb⟩ hi
theorem fl_at {α:Type} [Inhabited α] {T:List α} {j:Nat} (h:(j:Int)<T.length):(fillR T (j + 1))[j]?=some (at_ T (j:Int)):=by
 rw [← fill_set h,List.getElem?_set_self (by rw [fill_len (by omega)];omega)]
theorem fl_ho {T:List Ho} {j:Nat} (h:(j:Int)<T.length):(fillR T (j + 1))[j]?=some ⟨(at_ T (j:Int)).r,(at_ T (j:Int)).w⟩:=fl_at h
theorem fl_g {α:Type} [Inhabited α] {T:List α} {i j:Nat} (h:(j:Int)<T.length) (hne:i ≠ j):(fillR T j)[i]?=(fillR T (j + 1))[i]?:=by
 rw [← fill_set h,List.getElem?_set_ne (by omega)]
theorem at_of {α:Type} [Inhabited α] {xs:List α} {i:Nat} {x:α} (h:xs[i]?=some x):at_ xs (i:Int)=x:=by
 unfold at_
 rw [List.getD_eq_getElem?_getD,Int.toNat_natCast,h]
 rfl
theorem at_set_self {α:Type} [Inhabited α] {xs:List α} {i:Nat} {x:α} (h:i<xs.length):at_ (xs.set i x) (i:Int)=x:=at_of (by rw [List.getElem?_set_self h])
theorem at_set_ne {α:Type} [Inhabited α] {xs:List α} {i j:Nat} {x:α} (h:i ≠ j):at_ (xs.set j x) (i:Int)=at_ xs (i:Int):=by
 unfold at_
 simp only [List.getD_eq_getElem?_getD,Int.toNat_natCast]
 rw [List.getElem?_set_ne (by omega)]
theorem fl_i {T:List Ho} {C j:Nat} {va vb:Nat} (h:(j:Int)<T.length):at_ ((tabV C zo (fillR T j)).set j ⟨.slice (some ⟨va,0,none⟩) (at_ T (j:Int)).r.length 0,.slice (some ⟨vb,0,none⟩) (at_ T (j:Int)).w.length 0⟩) (j:Int)=⟨.slice (some ⟨va,0,none⟩) (at_ (fillR T (j + 1)) (j:Int)).r.length 0,.slice (some ⟨vb,0,none⟩) (at_ (fillR T (j + 1)) (j:Int)).w.length 0⟩:=by
 rw [at_set_self (by rw [tabV_len,fill_len (by omega)];omega),at_of (fl_at h)]
theorem fl_j {T:List Ho} {C i j:Nat} {x:Hv} (h:(j:Int)<T.length) (hi:i<(fillR T (j + 1)).length) (hne:i ≠ j):at_ ((tabV C zo (fillR T j)).set j x) (i:Int)=hv C zo i (at_ (fillR T (j + 1)) (i:Int)):=by
 rw [fill_len (by omega)] at hi
 rw [at_set_ne hne,at_tabV (by omega) (by rw [fill_len (by omega)];omega)]
 have:=fl_g (T:=T) h hne
 unfold at_
 simp only [List.getD_eq_getElem?_getD,Int.toNat_natCast]
 rw [this]
theorem rig_of {m:Nat→Nat} {r:Nat} (h:((List.range r).all fun b=>m b == b)=true):∀ b,b<r→m b=b:=fun b hb=>by
 simpa using List.all_eq_true.1 h b (List.mem_range.2 hb)
section
variable {P:Program} {nt:Nat} {ops:Array Oper} {draw:Bool} {rest:List Oper} {u d:Nat} {t:List (Nat × Value)} {h:List (Nat × Bool × Fam)} {acc:List Eff} {K:St→Prop} {o:Oper}
theorem gEqPn {ty yt e:TypeId} {x y:Operand} {f g:Nat→Bool} (hw:wantT (tl t) ops o) (hop:o.op = .binOp .neq ty x y yt) (hu:P.underlying ty=some (.array 48 e)) (he:P.underlying e=some .bool) (hz:szP P e=some 1) (ha:aggP P e=some false) (hq:P.eqGuardType P.depth ty=false) (hx:ev t x=some (vPl f)) (hy:ev t y=some (vPl g)) (hs:o.dst=some d) (hn:Nat.blt d nt=true)
  (k:RG P nt ops draw rest ⟨u,(d,.bool (!eqP f g)) :: t,h⟩ (acc ++ [{ v:=.bool (!eqP f g) }]) K):RG P nt ops draw (o :: rest) ⟨u,t,h⟩ acc K:=by
 refine gV (does_flat hw rfl fun ρ ac w ht hah=>?_) hs hn k
 have e1:ac.eval x = .agg (plL f).toArray:=(ev_sound (ρ:=ρ) (by rw [hop];simp [Op.operands]) ht hx).trans (r3_flat (vPl_flat f))
 have e2:ac.eval y = .agg (plL g).toArray:=(ev_sound (ρ:=ρ) (by rw [hop];simp [Op.operands]) ht hy).trans (r3_flat (vPl_flat g))
 have e3:=run_eqArr (P:=P) (w:=w) hu he hz ha (plL f).toArray (plL g).toArray (fun i hi=>plL_get hi) (fun i hi=>plL_get hi)
 have e4:(eqGuard .neq ty x y (.agg (plL f).toArray) (.agg (plL g).toArray)).run P w = .ok () w:=by
  simp [eqGuard,program,Sem.run_bind,Sem.run_pure,Sem.run,hq]
 simp only [execOp,hop,e1,e2,Sem.run_bind,e4,Result.andThen_ok,binOp,e3,Sem.run_pure]
 rfl
end
def tot:List Ho→Int
 | []=>0
 | h :: T=>(h.r.length + h.w.length:Int) + tot T
theorem tot_nn:∀ T:List Ho,0≤tot T
 | []=>Int.le_refl _
 | h :: T=>by have:=tot_nn T;unfold tot;omega
theorem tot_take {T:List Ho} {j:Nat} (h:(j:Int)<T.length):tot (T.take (j + 1))=tot (T.take j) + ((at_ T (j:Int)).r.length + (at_ T (j:Int)).w.length):=by
 induction T generalizing j with
 | nil=>simp at h;omega
 | cons x T ih =>
  cases j with
  | zero=>simp [tot,at_]
  | succ j =>
   have:=ih (j:=j) (by simp at h;omega)
   have e:at_ (x :: T) ((j + 1:Nat):Int)=at_ T (j:Int):=by
    unfold at_
    simp only [Int.toNat_natCast,List.getD_eq_getElem?_getD,List.getElem?_cons_succ]
   rw [e]
   simp only [List.take_succ_cons,tot]
   omega
theorem tot_le {T:List Ho}:∀ j,tot (T.take j)≤tot T:=fun j=>by
 induction T generalizing j with
 | nil=>simp
 | cons x T ih =>
  cases j with
  | zero=>simp only [List.take_zero,tot];have:=tot_nn T;omega
  | succ j=>simp only [List.take_succ_cons,tot];have:=ih j;omega
theorem tot_at {T:List Ho} {h:Ho} (hm:h ∈ T):(h.r.length:Int) + h.w.length≤tot T:=by
 induction T with
 | nil=>cases hm
 | cons x T ih =>
  rcases List.mem_cons.1 hm with rfl|hm
  ·have:=tot_nn T;unfold tot;omega
  ·have:=ih hm;unfold tot;omega
def szH (o:Ho) (left:Int):Int:=if left - o.r.length - o.w.length<0 then -1 else left - o.r.length - o.w.length
def szT (T:List Ho) (left:Int):Int:=if left - T.length - tot T<0 then -1 else left - T.length - tot T
theorem szT_le {T:List Ho} {left:Int} (h:¬ szT T left<0):(T.length:Int) + tot T≤left∧szT T left=left - T.length - tot T:=by
 unfold szT at h ⊢
 split at h
 ·omega
 ·rename_i hc;rw [if_neg hc];omega
theorem szT_B {T:List Ho} {left:Int} (h:¬ szT T left<0) (hl:left≤1048576):T.length≤1048576∧∀ x ∈ T,x.r.length≤1048576∧x.w.length≤1048576:=by
 have h1:=(szT_le h).1
 have:=tot_nn T
 refine ⟨by omega,fun x hx=>?_⟩
 have:=tot_at hx
 omega
theorem szT_1 {T:List Ho} {left:Int} (h:left - T.length<0):szT T left = -1:=by have:=tot_nn T;unfold szT;rw [if_pos (by omega)]
theorem szT_2 {T:List Ho} {left:Int} {j:Nat} (hj:(j:Int)<T.length) (h:szH (at_ T (j:Int)) (left - T.length - tot (T.take j))<0):szT T left = -1:=by
 have h1:=tot_take hj
 have h2:=tot_le (T:=T) (j + 1)
 unfold szH at h
 unfold szT
 split at h
 ·rw [if_pos (by omega)]
 ·omega
theorem szT_3 {T:List Ho} {left:Int} {j:Nat} (hj:¬ (j:Int)<T.length) (hj2:j≤T.length) (h:0≤left - T.length - tot (T.take j)):left - T.length - tot (T.take j)=szT T left:=by
 have:j=T.length:=by omega
 subst this
 rw [List.take_length] at h ⊢
 unfold szT
 rw [if_neg (by omega)]
theorem szH_n {o:Ho} {left:Int} (h:¬ szH o left<0):szH o left=left - o.r.length - o.w.length∧0≤left - o.r.length - o.w.length:=by
 unfold szH at h ⊢
 split at h
 ·omega
 ·rename_i hc;rw [if_neg hc];omega
theorem szT_step {T:List Ho} {left:Int} {j:Nat} (hj:(j:Int)<T.length) (h:¬ szH (at_ T (j:Int)) (left - T.length - tot (T.take j))<0):szH (at_ T (j:Int)) (left - T.length - tot (T.take j))=left - T.length - tot (T.take (j + 1))∧0≤left - T.length - tot (T.take (j + 1)):=by
 have h1:=tot_take hj
 have h2:=szH_n h
 omega
theorem ho_ne1 {a b:Ho} (h:decide (a.r=b.r)=false):decide (a=b)=false:=decide_eq_false fun e=>of_decide_eq_false h (by rw [e])
theorem ho_ne2 {a b:Ho} (h:decide (a.w=b.w)=false):decide (a=b)=false:=decide_eq_false fun e=>of_decide_eq_false h (by rw [e])
theorem ho_eq {a b:Ho} (h:decide (a.r=b.r)=true) (k:decide (a.w=b.w)=true):decide (a=b)=true:=by
 cases a;cases b;cases of_decide_eq_true h;cases of_decide_eq_true k;exact decide_eq_true rfl
theorem at_ne {α:Type} [Inhabited α] {a b:List α} {j:Nat} (h:at_ a (j:Int) ≠ at_ b (j:Int)):a ≠ b:=fun e=>h (by rw [e])
theorem len_ne {α:Type} {a b:List α} (h:(a.length:Int) ≠ b.length):a ≠ b:=fun e=>h (by rw [e])
end Go.Proofs.Ytcdhnaojdhdehaa.A
namespace Go.Proofs.Ytcdhnaojdhdehaa.A
open Go Go.RowKit
set_option maxHeartbeats 4000000
theorem impl_SpanOk_c (s:Sp):FDoes Try.prog 53 [vSp s] (hp []) { v:=.bool (spanOk s) }:=by
 have hm:Try.prog.follows .mixedOrders=true:=by kernel_rfl
 have hd_:∀ x ∈ ([]:List (Nat × Bool × Fam)),∀ k y,x.2.2 k=some y→DetB (lt 0) y:=fun x_ hx=>(by cases hx)
 refine fn_exact (u0:=0) Try.func53 rfl rfl (gets rfl rfl rfl hd_ rfl) ?_
 clear hd_
 refine vc_seq ?_
 refine vc_region hm ?_
 refine gB (u':=1) trivial rfl rfl rfl rfl rfl rfl rfl rfl ?_
 refine gM trivial (.inr rfl) rfl rfl rfl ?_
 refine rg_nil nofun ?_
 refine vc_seq ?_
 refine vc_region hm ?_
 refine gF trivial rfl rfl rfl rfl rfl ?_
 refine gL trivial rfl rfl rfl rfl rfl rfl rfl rfl ?_
 refine gI trivial rfl rfl rfl rfl rfl rfl ?_
 refine gM trivial (.inl rfl) rfl rfl rfl ?_
 refine gI2 (d:=6) rfl (fun c6=>?_) (fun c6=>?_)
 ·skip
  have p6:=of_decide_eq_true c6
  refine gF ⟨_,_,rfl,rfl,c6⟩ rfl rfl rfl rfl rfl ?_
  refine gL ⟨_,_,rfl,rfl,c6⟩ rfl rfl rfl rfl rfl rfl rfl rfl ?_
  refine gF ⟨_,_,rfl,rfl,c6⟩ rfl rfl rfl rfl rfl ?_
  refine gL ⟨_,_,rfl,rfl,c6⟩ rfl rfl rfl rfl rfl rfl rfl rfl ?_
  refine gI ⟨_,_,rfl,rfl,c6⟩ rfl rfl rfl rfl rfl rfl ?_
  refine gPT trivial rfl rfl c6 rfl rfl rfl ?_
  refine gM trivial (.inl rfl) rfl rfl rfl ?_
  refine gI2 (d:=13) rfl (fun c13=>?_) (fun c13=>?_)
  ·skip
   have p13:=of_decide_eq_true c13
   refine gF ⟨_,_,rfl,rfl,c13⟩ rfl rfl rfl rfl rfl ?_
   refine gL ⟨_,_,rfl,rfl,c13⟩ rfl rfl rfl rfl rfl rfl rfl rfl ?_
   refine gI ⟨_,_,rfl,rfl,c13⟩ rfl rfl rfl rfl rfl rfl ?_
   refine gPT trivial rfl rfl c13 rfl rfl rfl ?_
   refine gM trivial (.inr rfl) rfl rfl rfl ?_
   refine rg_nil nofun ?_
   refine vc_ret ?_
   exact ⟨idm,ends0 (.inr rfl) rfl (eqB (by first|rfl|exact decide_eq_true (by omega)|exact decide_eq_false (by omega)|exact decide_eq_decide.2 (by omega))) rfl rfl rfl⟩
  ·skip
   have p13:=of_decide_eq_false c13
   refine gO ⟨_,_,rfl,rfl,c13⟩ rfl rfl ?_
   refine gO ⟨_,_,rfl,rfl,c13⟩ rfl rfl ?_
   refine gO ⟨_,_,rfl,rfl,c13⟩ rfl rfl ?_
   refine gPF trivial rfl rfl c13 rfl rfl rfl ?_
   refine gM trivial (.inr rfl) rfl rfl rfl ?_
   refine rg_nil nofun ?_
   refine vc_ret ?_
   exact ⟨idm,ends0 (.inr rfl) rfl (eqB (by first|rfl|exact decide_eq_true (by omega)|exact decide_eq_false (by omega)|exact decide_eq_decide.2 (by omega))) rfl rfl rfl⟩
 ·skip
  have p6:=of_decide_eq_false c6
  refine gO ⟨_,_,rfl,rfl,c6⟩ rfl rfl ?_
  refine gO ⟨_,_,rfl,rfl,c6⟩ rfl rfl ?_
  refine gO ⟨_,_,rfl,rfl,c6⟩ rfl rfl ?_
  refine gO ⟨_,_,rfl,rfl,c6⟩ rfl rfl ?_
  refine gO ⟨_,_,rfl,rfl,c6⟩ rfl rfl ?_
  refine gPF trivial rfl rfl c6 rfl rfl rfl ?_
  refine gM trivial (.inl rfl) rfl rfl rfl ?_
  refine gO ⟨_,_,rfl,rfl,rfl⟩ rfl rfl ?_
  refine gO ⟨_,_,rfl,rfl,rfl⟩ rfl rfl ?_
  refine gO ⟨_,_,rfl,rfl,rfl⟩ rfl rfl ?_
  refine gPF trivial rfl rfl rfl rfl rfl rfl ?_
  refine gM trivial (.inr rfl) rfl rfl rfl ?_
  refine rg_nil nofun ?_
  refine vc_ret ?_
  exact ⟨idm,ends0 (.inr rfl) rfl (eqB (by first|rfl|exact decide_eq_true (by omega)|exact decide_eq_false (by omega)|exact decide_eq_decide.2 (by omega))) rfl rfl rfl⟩
theorem spec_SpanOk_c (s:Sp):FDoes Try.prog 50 [vSp s] (hp []) { v:=.bool (spanOk s) }:=by
 have hm:Try.prog.follows .mixedOrders=true:=by kernel_rfl
 have hd_:∀ x ∈ ([]:List (Nat × Bool × Fam)),∀ k y,x.2.2 k=some y→DetB (lt 0) y:=fun x_ hx=>(by cases hx)
 refine fn_exact (u0:=0) Try.func50 rfl rfl (gets rfl rfl rfl hd_ rfl) ?_
 clear hd_
 refine vc_seq ?_
 refine vc_region hm ?_
 refine gB (u':=1) trivial rfl rfl rfl rfl rfl rfl rfl rfl ?_
 refine gM trivial (.inr rfl) rfl rfl rfl ?_
 refine rg_nil nofun ?_
 refine vc_seq ?_
 refine vc_region hm ?_
 refine gF trivial rfl rfl rfl rfl rfl ?_
 refine gL trivial rfl rfl rfl rfl rfl rfl rfl rfl ?_
 refine gI trivial rfl rfl rfl rfl rfl rfl ?_
 refine gM trivial (.inl rfl) rfl rfl rfl ?_
 refine gI2 (d:=6) rfl (fun c6=>?_) (fun c6=>?_)
 ·skip
  have p6:=of_decide_eq_true c6
  refine gF ⟨_,_,rfl,rfl,c6⟩ rfl rfl rfl rfl rfl ?_
  refine gL ⟨_,_,rfl,rfl,c6⟩ rfl rfl rfl rfl rfl rfl rfl rfl ?_
  refine gF ⟨_,_,rfl,rfl,c6⟩ rfl rfl rfl rfl rfl ?_
  refine gL ⟨_,_,rfl,rfl,c6⟩ rfl rfl rfl rfl rfl rfl rfl rfl ?_
  refine gI ⟨_,_,rfl,rfl,c6⟩ rfl rfl rfl rfl rfl rfl ?_
  refine gPT trivial rfl rfl c6 rfl rfl rfl ?_
  refine gM trivial (.inl rfl) rfl rfl rfl ?_
  refine gI2 (d:=13) rfl (fun c13=>?_) (fun c13=>?_)
  ·skip
   have p13:=of_decide_eq_true c13
   refine gF ⟨_,_,rfl,rfl,c13⟩ rfl rfl rfl rfl rfl ?_
   refine gL ⟨_,_,rfl,rfl,c13⟩ rfl rfl rfl rfl rfl rfl rfl rfl ?_
   refine gI ⟨_,_,rfl,rfl,c13⟩ rfl rfl rfl rfl rfl rfl ?_
   refine gPT trivial rfl rfl c13 rfl rfl rfl ?_
   refine gM trivial (.inr rfl) rfl rfl rfl ?_
   refine rg_nil nofun ?_
   refine vc_ret ?_
   exact ⟨idm,ends0 (.inr rfl) rfl (eqB (by first|rfl|exact decide_eq_true (by omega)|exact decide_eq_false (by omega)|exact decide_eq_decide.2 (by omega))) rfl rfl rfl⟩
  ·skip
   have p13:=of_decide_eq_false c13
   refine gO ⟨_,_,rfl,rfl,c13⟩ rfl rfl ?_
   refine gO ⟨_,_,rfl,rfl,c13⟩ rfl rfl ?_
   refine gO ⟨_,_,rfl,rfl,c13⟩ rfl rfl ?_
   refine gPF trivial rfl rfl c13 rfl rfl rfl ?_
   refine gM trivial (.inr rfl) rfl rfl rfl ?_
   refine rg_nil nofun ?_
   refine vc_ret ?_
   exact ⟨idm,ends0 (.inr rfl) rfl (eqB (by first|rfl|exact decide_eq_true (by omega)|exact decide_eq_false (by omega)|exact decide_eq_decide.2 (by omega))) rfl rfl rfl⟩
 ·skip
  have p6:=of_decide_eq_false c6
  refine gO ⟨_,_,rfl,rfl,c6⟩ rfl rfl ?_
  refine gO ⟨_,_,rfl,rfl,c6⟩ rfl rfl ?_
  refine gO ⟨_,_,rfl,rfl,c6⟩ rfl rfl ?_
  refine gO ⟨_,_,rfl,rfl,c6⟩ rfl rfl ?_
  refine gO ⟨_,_,rfl,rfl,c6⟩ rfl rfl ?_
  refine gPF trivial rfl rfl c6 rfl rfl rfl ?_
  refine gM trivial (.inl rfl) rfl rfl rfl ?_
  refine gO ⟨_,_,rfl,rfl,rfl⟩ rfl rfl ?_
  refine gO ⟨_,_,rfl,rfl,rfl⟩ rfl rfl ?_
  refine gO ⟨_,_,rfl,rfl,rfl⟩ rfl rfl ?_
  refine gPF trivial rfl rfl rfl rfl rfl rfl ?_
  refine gM trivial (.inr rfl) rfl rfl rfl ?_
  refine rg_nil nofun ?_
  refine vc_ret ?_
  exact ⟨idm,ends0 (.inr rfl) rfl (eqB (by first|rfl|exact decide_eq_true (by omega)|exact decide_eq_false (by omega)|exact decide_eq_decide.2 (by omega))) rfl rfl rfl⟩
theorem spec_SpansOk_c {l:List Sp} (hn:l.length≤1048576):FDoes Try.prog 43 [.slice (some ⟨0,0,none⟩) l.length 0] (hp [(0,false,one ⟨rSp l,33,0⟩)]) { v:=.bool (spansOk l),rd:=[0] }:=by
 have hm:Try.prog.follows .mixedOrders=true:=by kernel_rfl
 have hd_:∀ x_ ∈ ([(0,false,one ⟨rSp l,33,0⟩)]:List (Nat × Bool × Fam)),∀ k_ y_,x_.2.2 k_=some y_→DetB (lt 1) y_:=by
  intro x_ hx k_ y_ e
  simp only [List.mem_cons,List.not_mem_nil,or_false] at hx
  subst hx
  exact det_row (rSp_flat l) e
 refine fn_exact (u0:=1) Try.func43 rfl rfl (gets rfl rfl rfl hd_ rfl) ?_
 clear hd_
 refine vc_seq ?_
 refine vc_region hm ?_
 refine gM trivial (.inr rfl) rfl rfl rfl ?_
 refine rg_nil nofun ?_
 refine vc_seq ?_
 refine vc_seq ?_
 refine vc_region hm ?_
 refine gM trivial (.inr rfl) rfl rfl rfl ?_
 refine rg_nil nofun ?_
 refine vc_block ?_
 refine vc_loop' (fun n_ S_=>∃ (j:Nat),j≤l.length∧(List.range j).all (spansAt l)=true∧n_=l.length - j∧S_=⟨1,[(0,.slice (some ⟨0,0,none⟩) l.length 0),(3,.int .i64 j)],[(0,false,one ⟨rSp l,33,0⟩)]⟩) (m0:=idm) ⟨0,Nat.zero_le _,rfl,rfl,rfl⟩ (le_mk rfl ⟨⟨rfl,rfl⟩,⟨rfl,rfl⟩,trivial⟩ ⟨kFlat (rSp_flat l) rfl id rfl,trivial⟩ rfl (fun _ _=>rfl)) ?_
 rintro n_ S_ ⟨j,hj,ha,rfl,rfl⟩
 refine vc_seq ?_
 refine vc_seq ?_
 refine vc_region hm ?_
 refine gM trivial (.inl rfl) rfl rfl rfl ?_
 refine gM trivial (.inl rfl) rfl rfl rfl ?_
 refine gK trivial rfl rfl rfl rfl rfl rfl rSp_nil ?_
 refine gI trivial rfl rfl rfl rfl rfl rfl ?_
 refine rg_nil nofun ?_
 refine cI rfl (fun c7=>?_) (fun c7=>?_)
 ·skip
  have p7:=of_decide_eq_true c7
  refine vc_skip ?_
  refine vc_seq ?_
  refine vc_block ?_
  refine vc_seq ?_
  refine vc_region hm ?_
  refine gM trivial (.inl rfl) rfl rfl rfl ?_
  refine gM trivial (.inl rfl) rfl rfl rfl ?_
  refine gX trivial rfl rfl rfl rfl rfl rfl rfl rfl (by omega) (by omega) rSp_ne ?_
  refine gL trivial rfl rfl rfl rfl rfl rfl rfl (aSp (by omega) (by omega)) ?_
  refine gC0 [] (spec_SpanOk_c (at_ l (j:Int))) trivial rfl rfl rfl rfl (by trivial) rfl rfl rfl rfl rfl ?_
  refine gN trivial rfl rfl rfl rfl ?_
  refine gM trivial (.inl rfl) rfl rfl rfl ?_
  refine gI2 (d:=16) rfl (fun c16=>?_) (fun c16=>?_)
  ·skip
   have n16:=unT c16
   refine gO ⟨_,_,rfl,rfl,c16⟩ rfl rfl ?_
   refine gO ⟨_,_,rfl,rfl,c16⟩ rfl rfl ?_
   refine gO ⟨_,_,rfl,rfl,c16⟩ rfl rfl ?_
   refine gO ⟨_,_,rfl,rfl,trivial⟩ rfl rfl ?_
   refine gO ⟨_,_,rfl,rfl,trivial⟩ rfl rfl ?_
   refine gO ⟨_,_,rfl,rfl,trivial⟩ rfl rfl ?_
   refine gO ⟨_,_,rfl,rfl,trivial⟩ rfl rfl ?_
   refine gO ⟨_,_,rfl,rfl,trivial⟩ rfl rfl ?_
   refine gO ⟨_,_,rfl,rfl,trivial⟩ rfl rfl ?_
   refine gO ⟨_,_,rfl,rfl,trivial⟩ rfl rfl ?_
   refine gO ⟨_,_,rfl,rfl,trivial⟩ rfl rfl ?_
   refine gO ⟨_,_,rfl,rfl,trivial⟩ rfl rfl ?_
   refine gO ⟨_,_,rfl,rfl,trivial⟩ rfl rfl ?_
   refine gO ⟨_,_,rfl,rfl,trivial⟩ rfl rfl ?_
   refine gO ⟨_,_,rfl,rfl,trivial⟩ rfl rfl ?_
   refine gO ⟨_,_,rfl,rfl,c16⟩ rfl rfl ?_
   refine gPT trivial rfl rfl c16 rfl rfl rfl ?_
   refine rg_nil (fun _=>by kernel_rfl) ?_
   refine cT rfl rfl ?_
   refine vc_seq ?_
   refine vc_region hm ?_
   refine gM trivial (.inr rfl) rfl rfl rfl ?_
   refine rg_nil nofun ?_
   refine vc_ret ?_
   exact ⟨idm,ends0 (.inr rfl) rfl (eqB (spansOk_1 p7 (by first|exact spansAt_1 (by assumption)|exact spansAt_2 (by omega)))) rfl rfl rfl⟩
  ·skip
   have n16:=unF c16
   refine gM ⟨_,_,rfl,rfl,c16⟩ (.inl rfl) rfl rfl rfl ?_
   refine gI ⟨_,_,rfl,rfl,c16⟩ rfl rfl rfl rfl rfl rfl ?_
   refine gM ⟨_,_,rfl,rfl,c16⟩ (.inl rfl) rfl rfl rfl ?_
   refine gI2 (d:=19) rfl (fun c19=>?_) (fun c19=>?_)
   ·skip
    have p19:=of_decide_eq_true c19
    refine gM ⟨_,_,rfl,rfl,c19⟩ (.inl rfl) rfl rfl rfl ?_
    refine gM ⟨_,_,rfl,rfl,c19⟩ (.inl rfl) rfl rfl rfl ?_
    refine gA ⟨_,_,rfl,rfl,c19⟩ rfl rfl rfl rfl rfl rfl (by omega) ?_
    refine gX ⟨_,_,rfl,rfl,c19⟩ rfl rfl rfl rfl rfl rfl rfl rfl (by omega) (by omega) rSp_ne ?_
    refine gF ⟨_,_,rfl,rfl,c19⟩ rfl rfl rfl rfl rfl ?_
    refine gL ⟨_,_,rfl,rfl,c19⟩ rfl rfl rfl rfl rfl rfl rfl (lSp1 (by omega) (by omega)) ?_
    refine gM ⟨_,_,rfl,rfl,c19⟩ (.inl rfl) rfl rfl rfl ?_
    refine gM ⟨_,_,rfl,rfl,c19⟩ (.inl rfl) rfl rfl rfl ?_
    refine gX ⟨_,_,rfl,rfl,c19⟩ rfl rfl rfl rfl rfl rfl rfl rfl (by omega) (by omega) rSp_ne ?_
    refine gF ⟨_,_,rfl,rfl,c19⟩ rfl rfl rfl rfl rfl ?_
    refine gL ⟨_,_,rfl,rfl,c19⟩ rfl rfl rfl rfl rfl rfl rfl (lSp0 (by omega) (by omega)) ?_
    refine gI ⟨_,_,rfl,rfl,c19⟩ rfl rfl rfl rfl rfl rfl ?_
    refine gPT ⟨_,_,rfl,rfl,c16⟩ rfl rfl c19 rfl rfl rfl ?_
    refine gPF trivial rfl rfl c16 rfl rfl rfl ?_
    refine rg_nil (fun _=>by kernel_rfl) ?_
    refine cI rfl (fun c33=>?_) (fun c33=>?_)
    ·skip
     have p33:=of_decide_eq_true c33
     refine vc_seq ?_
     refine vc_region hm ?_
     refine gM trivial (.inr rfl) rfl rfl rfl ?_
     refine rg_nil nofun ?_
     refine vc_ret ?_
     exact ⟨idm,ends0 (.inr rfl) rfl (eqB (spansOk_1 p7 (by first|exact spansAt_1 (by assumption)|exact spansAt_2 (by omega)))) rfl rfl rfl⟩
    ·skip
     have p33:=of_decide_eq_false c33
     refine vc_skip ?_
     refine vc_region hm ?_
     refine gM trivial (.inl rfl) rfl rfl rfl ?_
     refine gA trivial rfl rfl rfl rfl rfl rfl (by omega) ?_
     refine gM trivial (.inr rfl) rfl rfl rfl ?_
     refine rg_nil nofun ?_
     exact lp_next (m:=idm) ⟨j + 1,(by omega),(all_step ha (spansAt_3 (by assumption) (by omega))),rfl,rfl⟩ (by omega) (le_mk rfl ⟨⟨rfl,rfl⟩,⟨rfl,rfl⟩,trivial⟩ ⟨kFlat (rSp_flat l) rfl id rfl,trivial⟩ rfl (fun _ _=>rfl))
   ·skip
    have p19:=of_decide_eq_false c19
    refine gO ⟨_,_,rfl,rfl,c19⟩ rfl rfl ?_
    refine gO ⟨_,_,rfl,rfl,c19⟩ rfl rfl ?_
    refine gO ⟨_,_,rfl,rfl,c19⟩ rfl rfl ?_
    refine gO ⟨_,_,rfl,rfl,c19⟩ rfl rfl ?_
    refine gO ⟨_,_,rfl,rfl,c19⟩ rfl rfl ?_
    refine gO ⟨_,_,rfl,rfl,c19⟩ rfl rfl ?_
    refine gO ⟨_,_,rfl,rfl,c19⟩ rfl rfl ?_
    refine gO ⟨_,_,rfl,rfl,c19⟩ rfl rfl ?_
    refine gO ⟨_,_,rfl,rfl,c19⟩ rfl rfl ?_
    refine gO ⟨_,_,rfl,rfl,c19⟩ rfl rfl ?_
    refine gO ⟨_,_,rfl,rfl,c19⟩ rfl rfl ?_
    refine gO ⟨_,_,rfl,rfl,c19⟩ rfl rfl ?_
    refine gPF ⟨_,_,rfl,rfl,c16⟩ rfl rfl c19 rfl rfl rfl ?_
    refine gPF trivial rfl rfl c16 rfl rfl rfl ?_
    refine rg_nil (fun _=>by kernel_rfl) ?_
    refine cF rfl rfl ?_
    refine vc_skip ?_
    refine vc_region hm ?_
    refine gM trivial (.inl rfl) rfl rfl rfl ?_
    refine gA trivial rfl rfl rfl rfl rfl rfl (by omega) ?_
    refine gM trivial (.inr rfl) rfl rfl rfl ?_
    refine rg_nil nofun ?_
    exact lp_next (m:=idm) ⟨j + 1,(by omega),(all_step ha (spansAt_3 (by assumption) (by omega))),rfl,rfl⟩ (by omega) (le_mk rfl ⟨⟨rfl,rfl⟩,⟨rfl,rfl⟩,trivial⟩ ⟨kFlat (rSp_flat l) rfl id rfl,trivial⟩ rfl (fun _ _=>rfl))
 ·skip
  have p7:=of_decide_eq_false c7
  refine vc_exit ?_
  refine vc_seq ?_
  refine vc_region hm ?_
  refine gM trivial (.inl rfl) rfl rfl rfl ?_
  refine gK trivial rfl rfl rfl rfl rfl rfl rSp_nil ?_
  refine gI trivial rfl rfl rfl rfl rfl rfl ?_
  refine gM trivial (.inr rfl) rfl rfl rfl ?_
  refine rg_nil nofun ?_
  refine vc_ret ?_
  exact ⟨idm,ends0 (.inr rfl) rfl (eqB (spansOk_2 hj p7 ha)) rfl rfl rfl⟩
theorem impl_SpansOk_c {l:List Sp} (hn:l.length≤1048576):FDoes Try.prog 45 [.slice (some ⟨0,0,none⟩) l.length 0] (hp [(0,false,one ⟨rSp l,33,0⟩)]) { v:=.bool (spansOk l),rd:=[0] }:=by
 have hm:Try.prog.follows .mixedOrders=true:=by kernel_rfl
 have hd_:∀ x_ ∈ ([(0,false,one ⟨rSp l,33,0⟩)]:List (Nat × Bool × Fam)),∀ k_ y_,x_.2.2 k_=some y_→DetB (lt 1) y_:=by
  intro x_ hx k_ y_ e
  simp only [List.mem_cons,List.not_mem_nil,or_false] at hx
  subst hx
  exact det_row (rSp_flat l) e
 refine fn_exact (u0:=1) Try.func45 rfl rfl (gets rfl rfl rfl hd_ rfl) ?_
 clear hd_
 refine vc_seq ?_
 refine vc_region hm ?_
 refine gM trivial (.inr rfl) rfl rfl rfl ?_
 refine rg_nil nofun ?_
 refine vc_seq ?_
 refine vc_seq ?_
 refine vc_region hm ?_
 refine gM trivial (.inl rfl) rfl rfl rfl ?_
 refine gK trivial rfl rfl rfl rfl rfl rfl rSp_nil ?_
 refine gM trivial (.inl rfl) rfl rfl rfl ?_
 refine rg_nil nofun ?_
 refine vc_block ?_
 refine vc_loop' (fun n_ S_=>∃ (j:Nat),j≤l.length∧(List.range j).all (spansAt l)=true∧n_=l.length - j∧S_=⟨1,[(0,.slice (some ⟨0,0,none⟩) l.length 0),(5,.slice (some ⟨0,0,none⟩) l.length 0),(6,.int .i64 l.length),(7,.int .i64 j)],[(0,false,one ⟨rSp l,33,0⟩)]⟩) (m0:=idm) ⟨0,Nat.zero_le _,rfl,rfl,rfl⟩ (le_mk rfl ⟨⟨rfl,rfl⟩,⟨rfl,rfl⟩,⟨rfl,rfl⟩,⟨rfl,rfl⟩,trivial⟩ ⟨kFlat (rSp_flat l) rfl id rfl,trivial⟩ rfl (fun _ _=>rfl)) ?_
 rintro n_ S_ ⟨j,hj,ha,rfl,rfl⟩
 refine vc_seq ?_
 refine vc_region hm ?_
 refine gI trivial rfl rfl rfl rfl rfl rfl ?_
 refine rg_nil nofun ?_
 refine vc_seq ?_
 refine cI rfl (fun c8=>?_) (fun c8=>?_)
 ·skip
  have p8:=of_decide_eq_true c8
  refine vc_skip ?_
  refine vc_seq ?_
  refine vc_block ?_
  refine vc_seq ?_
  refine vc_region hm ?_
  refine gM trivial (.inl rfl) rfl rfl rfl ?_
  refine gX trivial rfl rfl rfl rfl rfl rfl rfl rfl (by omega) (by omega) rSp_ne ?_
  refine gL trivial rfl rfl rfl rfl rfl rfl rfl (aSp (by omega) (by omega)) ?_
  refine gZ (u':=2) trivial rfl rfl rfl rfl rfl rfl rfl rfl ?_
  refine gM trivial (.inr rfl) rfl rfl rfl ?_
  refine gT trivial rfl rfl rfl rfl rfl rfl rfl rfl rfl rfl (Nat.le_of_ble_eq_true rfl) rfl ?_
  refine rg_nil nofun ?_
  refine vc_seq ?_
  refine vc_region hm ?_
  refine gL trivial rfl rfl rfl rfl rfl rfl rfl rfl ?_
  refine gC0 [] (impl_SpanOk_c (at_ l (j:Int))) trivial rfl rfl rfl rfl (by trivial) rfl rfl rfl rfl rfl ?_
  refine gN trivial rfl rfl rfl rfl ?_
  refine gM trivial (.inl rfl) rfl rfl rfl ?_
  refine gI2 (d:=15) rfl (fun c15=>?_) (fun c15=>?_)
  ·skip
   have n15:=unT c15
   refine gO ⟨_,_,rfl,rfl,c15⟩ rfl rfl ?_
   refine gO ⟨_,_,rfl,rfl,c15⟩ rfl rfl ?_
   refine gO ⟨_,_,rfl,rfl,c15⟩ rfl rfl ?_
   refine gO ⟨_,_,rfl,rfl,trivial⟩ rfl rfl ?_
   refine gO ⟨_,_,rfl,rfl,trivial⟩ rfl rfl ?_
   refine gO ⟨_,_,rfl,rfl,trivial⟩ rfl rfl ?_
   refine gO ⟨_,_,rfl,rfl,trivial⟩ rfl rfl ?_
   refine gO ⟨_,_,rfl,rfl,trivial⟩ rfl rfl ?_
   refine gO ⟨_,_,rfl,rfl,trivial⟩ rfl rfl ?_
   refine gO ⟨_,_,rfl,rfl,trivial⟩ rfl rfl ?_
   refine gO ⟨_,_,rfl,rfl,trivial⟩ rfl rfl ?_
   refine gO ⟨_,_,rfl,rfl,trivial⟩ rfl rfl ?_
   refine gO ⟨_,_,rfl,rfl,c15⟩ rfl rfl ?_
   refine gPT trivial rfl rfl c15 rfl rfl rfl ?_
   refine rg_nil (fun _=>by kernel_rfl) ?_
   refine cT rfl rfl ?_
   refine vc_seq ?_
   refine vc_region hm ?_
   refine gM trivial (.inr rfl) rfl rfl rfl ?_
   refine rg_nil nofun ?_
   refine vc_ret ?_
   exact ⟨idm,ends0 (.inr rfl) rfl (eqB (spansOk_1 p8 (by first|exact spansAt_1 (by assumption)|exact spansAt_2 (by omega)))) rfl rfl rfl⟩
  ·skip
   have n15:=unF c15
   refine gM ⟨_,_,rfl,rfl,c15⟩ (.inl rfl) rfl rfl rfl ?_
   refine gI ⟨_,_,rfl,rfl,c15⟩ rfl rfl rfl rfl rfl rfl ?_
   refine gM ⟨_,_,rfl,rfl,c15⟩ (.inl rfl) rfl rfl rfl ?_
   refine gI2 (d:=18) rfl (fun c18=>?_) (fun c18=>?_)
   ·skip
    have p18:=of_decide_eq_true c18
    refine gM ⟨_,_,rfl,rfl,c18⟩ (.inl rfl) rfl rfl rfl ?_
    refine gM ⟨_,_,rfl,rfl,c18⟩ (.inl rfl) rfl rfl rfl ?_
    refine gA ⟨_,_,rfl,rfl,c18⟩ rfl rfl rfl rfl rfl rfl (by omega) ?_
    refine gX ⟨_,_,rfl,rfl,c18⟩ rfl rfl rfl rfl rfl rfl rfl rfl (by omega) (by omega) rSp_ne ?_
    refine gF ⟨_,_,rfl,rfl,c18⟩ rfl rfl rfl rfl rfl ?_
    refine gL ⟨_,_,rfl,rfl,c18⟩ rfl rfl rfl rfl rfl rfl rfl (lSp1 (by omega) (by omega)) ?_
    refine gF ⟨_,_,rfl,rfl,c18⟩ rfl rfl rfl rfl rfl ?_
    refine gL ⟨_,_,rfl,rfl,c18⟩ rfl rfl rfl rfl rfl rfl rfl rfl ?_
    refine gI ⟨_,_,rfl,rfl,c18⟩ rfl rfl rfl rfl rfl rfl ?_
    refine gPT ⟨_,_,rfl,rfl,c15⟩ rfl rfl c18 rfl rfl rfl ?_
    refine gPF trivial rfl rfl c15 rfl rfl rfl ?_
    refine rg_nil (fun _=>by kernel_rfl) ?_
    refine cI rfl (fun c29=>?_) (fun c29=>?_)
    ·skip
     have p29:=of_decide_eq_true c29
     refine vc_seq ?_
     refine vc_region hm ?_
     refine gM trivial (.inr rfl) rfl rfl rfl ?_
     refine rg_nil nofun ?_
     refine vc_ret ?_
     exact ⟨idm,ends0 (.inr rfl) rfl (eqB (spansOk_1 p8 (by first|exact spansAt_1 (by assumption)|exact spansAt_2 (by omega)))) rfl rfl rfl⟩
    ·skip
     have p29:=of_decide_eq_false c29
     refine vc_skip ?_
     refine vc_region hm ?_
     refine gA trivial rfl rfl rfl rfl rfl rfl (by omega) ?_
     refine gM trivial (.inl rfl) rfl rfl rfl ?_
     refine rg_nil nofun ?_
     exact lp_next (m:=idm) ⟨j + 1,(by omega),(all_step ha (spansAt_3 (by assumption) (by omega))),rfl,rfl⟩ (by omega) (le_mk rfl ⟨⟨rfl,rfl⟩,⟨rfl,rfl⟩,⟨rfl,rfl⟩,⟨rfl,rfl⟩,trivial⟩ ⟨kFlat (rSp_flat l) rfl id rfl,trivial⟩ rfl (fun _ _=>rfl))
   ·skip
    have p18:=of_decide_eq_false c18
    refine gO ⟨_,_,rfl,rfl,c18⟩ rfl rfl ?_
    refine gO ⟨_,_,rfl,rfl,c18⟩ rfl rfl ?_
    refine gO ⟨_,_,rfl,rfl,c18⟩ rfl rfl ?_
    refine gO ⟨_,_,rfl,rfl,c18⟩ rfl rfl ?_
    refine gO ⟨_,_,rfl,rfl,c18⟩ rfl rfl ?_
    refine gO ⟨_,_,rfl,rfl,c18⟩ rfl rfl ?_
    refine gO ⟨_,_,rfl,rfl,c18⟩ rfl rfl ?_
    refine gO ⟨_,_,rfl,rfl,c18⟩ rfl rfl ?_
    refine gO ⟨_,_,rfl,rfl,c18⟩ rfl rfl ?_
    refine gPF ⟨_,_,rfl,rfl,c15⟩ rfl rfl c18 rfl rfl rfl ?_
    refine gPF trivial rfl rfl c15 rfl rfl rfl ?_
    refine rg_nil (fun _=>by kernel_rfl) ?_
    refine cF rfl rfl ?_
    refine vc_skip ?_
    refine vc_region hm ?_
    refine gA trivial rfl rfl rfl rfl rfl rfl (by omega) ?_
    refine gM trivial (.inl rfl) rfl rfl rfl ?_
    refine rg_nil nofun ?_
    exact lp_next (m:=idm) ⟨j + 1,(by omega),(all_step ha (spansAt_3 (by assumption) (by omega))),rfl,rfl⟩ (by omega) (le_mk rfl ⟨⟨rfl,rfl⟩,⟨rfl,rfl⟩,⟨rfl,rfl⟩,⟨rfl,rfl⟩,trivial⟩ ⟨kFlat (rSp_flat l) rfl id rfl,trivial⟩ rfl (fun _ _=>rfl))
 ·skip
  have p8:=of_decide_eq_false c8
  refine vc_exit ?_
  refine vc_seq ?_
  refine vc_region hm ?_
  refine gM trivial (.inl rfl) rfl rfl rfl ?_
  refine gK trivial rfl rfl rfl rfl rfl rfl rSp_nil ?_
  refine gI trivial rfl rfl rfl rfl rfl rfl ?_
  refine gM trivial (.inr rfl) rfl rfl rfl ?_
  refine rg_nil nofun ?_
  refine vc_ret ?_
  exact ⟨idm,ends0 (.inr rfl) rfl (eqB (spansOk_2 hj p8 ha)) rfl rfl rfl⟩
theorem spec_l1In_c {l:List Sp} {a:Int} (hn:l.length≤1048576):FDoes Try.prog 63 [.slice (some ⟨0,0,none⟩) l.length 0,.int .i64 a] (hp [(0,false,one ⟨rSp l,33,0⟩)]) { v:=.bool (l1In l a),rd:=[0] }:=by
 have hm:Try.prog.follows .mixedOrders=true:=by kernel_rfl
 have hd_:∀ x_ ∈ ([(0,false,one ⟨rSp l,33,0⟩)]:List (Nat × Bool × Fam)),∀ k_ y_,x_.2.2 k_=some y_→DetB (lt 1) y_:=by
  intro x_ hx k_ y_ e
  simp only [List.mem_cons,List.not_mem_nil,or_false] at hx
  subst hx
  exact det_row (rSp_flat l) e
 refine fn_exact (u0:=1) Try.func63 rfl rfl (gets rfl rfl rfl hd_ rfl) ?_
 clear hd_
 refine vc_seq ?_
 refine vc_region hm ?_
 refine gM trivial (.inr rfl) rfl rfl rfl ?_
 refine rg_nil nofun ?_
 refine vc_seq ?_
 refine vc_seq ?_
 refine vc_region hm ?_
 refine gM trivial (.inr rfl) rfl rfl rfl ?_
 refine rg_nil nofun ?_
 refine vc_block ?_
 refine vc_loop' (fun n_ S_=>∃ (j:Nat),j≤l.length∧(l.take j).any (inS a)=false∧n_=l.length - j∧S_=⟨1,[(0,.slice (some ⟨0,0,none⟩) l.length 0),(1,.int .i64 a),(5,.int .i64 j)],[(0,false,one ⟨rSp l,33,0⟩)]⟩) (m0:=idm) ⟨0,Nat.zero_le _,rfl,rfl,rfl⟩ (le_mk rfl ⟨⟨rfl,rfl⟩,⟨rfl,rfl⟩,⟨rfl,rfl⟩,trivial⟩ ⟨kFlat (rSp_flat l) rfl id rfl,trivial⟩ rfl (fun _ _=>rfl)) ?_
 rintro n_ S_ ⟨j,hj,ha,rfl,rfl⟩
 refine vc_seq ?_
 refine vc_seq ?_
 refine vc_region hm ?_
 refine gM trivial (.inl rfl) rfl rfl rfl ?_
 refine gM trivial (.inl rfl) rfl rfl rfl ?_
 refine gK trivial rfl rfl rfl rfl rfl rfl rSp_nil ?_
 refine gI trivial rfl rfl rfl rfl rfl rfl ?_
 refine rg_nil nofun ?_
 refine cI rfl (fun c9=>?_) (fun c9=>?_)
 ·skip
  have p9:=of_decide_eq_true c9
  refine vc_skip ?_
  refine vc_seq ?_
  refine vc_block ?_
  refine vc_seq ?_
  refine vc_region hm ?_
  refine gM trivial (.inl rfl) rfl rfl rfl ?_
  refine gM trivial (.inl rfl) rfl rfl rfl ?_
  refine gM trivial (.inl rfl) rfl rfl rfl ?_
  refine gX trivial rfl rfl rfl rfl rfl rfl rfl rfl (by omega) (by omega) rSp_ne ?_
  refine gF trivial rfl rfl rfl rfl rfl ?_
  refine gL trivial rfl rfl rfl rfl rfl rfl rfl (lSp0 (by omega) (by omega)) ?_
  refine gI trivial rfl rfl rfl rfl rfl rfl ?_
  refine gM trivial (.inl rfl) rfl rfl rfl ?_
  refine gI2 (d:=19) rfl (fun c19=>?_) (fun c19=>?_)
  ·skip
   have p19:=of_decide_eq_true c19
   refine gM ⟨_,_,rfl,rfl,c19⟩ (.inl rfl) rfl rfl rfl ?_
   refine gM ⟨_,_,rfl,rfl,c19⟩ (.inl rfl) rfl rfl rfl ?_
   refine gM ⟨_,_,rfl,rfl,c19⟩ (.inl rfl) rfl rfl rfl ?_
   refine gX ⟨_,_,rfl,rfl,c19⟩ rfl rfl rfl rfl rfl rfl rfl rfl (by omega) (by omega) rSp_ne ?_
   refine gF ⟨_,_,rfl,rfl,c19⟩ rfl rfl rfl rfl rfl ?_
   refine gL ⟨_,_,rfl,rfl,c19⟩ rfl rfl rfl rfl rfl rfl rfl (lSp1 (by omega) (by omega)) ?_
   refine gI ⟨_,_,rfl,rfl,c19⟩ rfl rfl rfl rfl rfl rfl ?_
   refine gPT trivial rfl rfl c19 rfl rfl rfl ?_
   refine rg_nil nofun ?_
   refine cI rfl (fun c27=>?_) (fun c27=>?_)
   ·skip
    have p27:=of_decide_eq_true c27
    refine vc_seq ?_
    refine vc_region hm ?_
    refine gM trivial (.inr rfl) rfl rfl rfl ?_
    refine rg_nil nofun ?_
    refine vc_ret ?_
    exact ⟨idm,ends0 (.inr rfl) rfl (eqB (any_of_at (by omega) p9 (decide_eq_true (by omega)))) rfl rfl rfl⟩
   ·skip
    have p27:=of_decide_eq_false c27
    refine vc_skip ?_
    refine vc_region hm ?_
    refine gM trivial (.inl rfl) rfl rfl rfl ?_
    refine gA trivial rfl rfl rfl rfl rfl rfl (by omega) ?_
    refine gM trivial (.inr rfl) rfl rfl rfl ?_
    refine rg_nil nofun ?_
    exact lp_next (m:=idm) ⟨j + 1,(by omega),(any_step p9 ha (decide_eq_false (by omega))),rfl,rfl⟩ (by omega) (le_mk rfl ⟨⟨rfl,rfl⟩,⟨rfl,rfl⟩,⟨rfl,rfl⟩,trivial⟩ ⟨kFlat (rSp_flat l) rfl id rfl,trivial⟩ rfl (fun _ _=>rfl))
  ·skip
   have p19:=of_decide_eq_false c19
   refine gO ⟨_,_,rfl,rfl,c19⟩ rfl rfl ?_
   refine gO ⟨_,_,rfl,rfl,c19⟩ rfl rfl ?_
   refine gO ⟨_,_,rfl,rfl,c19⟩ rfl rfl ?_
   refine gO ⟨_,_,rfl,rfl,c19⟩ rfl rfl ?_
   refine gO ⟨_,_,rfl,rfl,c19⟩ rfl rfl ?_
   refine gO ⟨_,_,rfl,rfl,c19⟩ rfl rfl ?_
   refine gO ⟨_,_,rfl,rfl,c19⟩ rfl rfl ?_
   refine gPF trivial rfl rfl c19 rfl rfl rfl ?_
   refine rg_nil nofun ?_
   refine cF rfl rfl ?_
   refine vc_skip ?_
   refine vc_region hm ?_
   refine gM trivial (.inl rfl) rfl rfl rfl ?_
   refine gA trivial rfl rfl rfl rfl rfl rfl (by omega) ?_
   refine gM trivial (.inr rfl) rfl rfl rfl ?_
   refine rg_nil nofun ?_
   exact lp_next (m:=idm) ⟨j + 1,(by omega),(any_step p9 ha (decide_eq_false (by omega))),rfl,rfl⟩ (by omega) (le_mk rfl ⟨⟨rfl,rfl⟩,⟨rfl,rfl⟩,⟨rfl,rfl⟩,trivial⟩ ⟨kFlat (rSp_flat l) rfl id rfl,trivial⟩ rfl (fun _ _=>rfl))
 ·skip
  have p9:=of_decide_eq_false c9
  refine vc_exit ?_
  refine vc_seq ?_
  refine vc_region hm ?_
  refine gM trivial (.inr rfl) rfl rfl rfl ?_
  refine rg_nil nofun ?_
  refine vc_ret ?_
  exact ⟨idm,ends0 (.inr rfl) rfl (eqB (any_all hj p9 ha)) rfl rfl rfl⟩
theorem of_c {l:List Sp} (hl:inB l) (hn:l.length≤1000000):FDoes Try.prog 46 [.slice (some ⟨0,0,none⟩) l.length 0] (hp [(0,false,one ⟨rSp l,33,0⟩)]) { v:=vPl (ofP l),rd:=[0] }:=by
 have hm:Try.prog.follows .mixedOrders=true:=by kernel_rfl
 have hd_:∀ x_ ∈ ([(0,false,one ⟨rSp l,33,0⟩)]:List (Nat × Bool × Fam)),∀ k_ y_,x_.2.2 k_=some y_→DetB (lt 1) y_:=by
  intro x_ hx k_ y_ e
  simp only [List.mem_cons,List.not_mem_nil,or_false] at hx
  subst hx
  exact det_row (rSp_flat l) e
 refine fn_exact (u0:=1) Try.func46 rfl rfl (gets rfl rfl rfl hd_ rfl) ?_
 clear hd_
 refine vc_seq ?_
 refine vc_region hm ?_
 refine gZ (u':=2) trivial rfl rfl rfl rfl rfl rfl rfl (show cellsL _=plL (fun _=>false) from rfl) ?_
 refine rg_nil nofun ?_
 refine vc_seq ?_
 refine vc_region hm ?_
 refine gZ (u':=3) trivial rfl rfl rfl rfl rfl rfl rfl (show cellsL _=plL (fun _=>false) from rfl) ?_
 refine rg_nil nofun ?_
 refine vc_seq ?_
 refine vc_seq ?_
 refine vc_region hm ?_
 refine gM trivial (.inl rfl) rfl rfl rfl ?_
 refine gK trivial rfl rfl rfl rfl rfl rfl rSp_nil ?_
 refine gM trivial (.inl rfl) rfl rfl rfl ?_
 refine rg_nil nofun ?_
 refine vc_block ?_
 refine vc_loop' (fun n_ S_=>∃ (j:Nat),j≤l.length∧n_=l.length - j∧S_=⟨3,[(2,.pointer (some ⟨1,0,none⟩)),(3,.pointer (some ⟨2,0,none⟩)),(7,.slice (some ⟨0,0,none⟩) l.length 0),(8,.int .i64 l.length),(9,.int .i64 j)],[(0,false,one ⟨rSp l,33,0⟩),(1,true,one ⟨plL (fun _=>false),60,48⟩),(2,true,one ⟨plL (ofP (l.take j)),60,48⟩)]⟩) (m0:=idm) ⟨0,Nat.zero_le _,rfl,rfl⟩ (le_mk rfl ⟨⟨rfl,rfl⟩,⟨rfl,rfl⟩,⟨rfl,rfl⟩,⟨rfl,rfl⟩,⟨rfl,rfl⟩,trivial⟩ ⟨kFlat (rSp_flat l) rfl id rfl,kFlat (plL_flat _) rfl id rfl,kFlat (plL_flat _) rfl id rfl,trivial⟩ rfl (fun _ _=>rfl)) ?_
 rintro n_ S_ ⟨j,hj,rfl,rfl⟩
 refine vc_seq ?_
 refine vc_region hm ?_
 refine gI trivial rfl rfl rfl rfl rfl rfl ?_
 refine rg_nil nofun ?_
 refine vc_seq ?_
 refine cI rfl (fun c10=>?_) (fun c10=>?_)
 ·skip
  have p10:=of_decide_eq_true c10
  refine vc_skip ?_
  refine vc_seq ?_
  refine vc_block ?_
  refine vc_seq ?_
  refine vc_region hm ?_
  refine gX trivial rfl rfl rfl rfl rfl rfl rfl rfl (by omega) p10 rSp_ne ?_
  refine gL trivial rfl rfl rfl rfl rfl rfl rfl (aSp (by omega) p10) ?_
  refine gZ (u':=4) trivial rfl rfl rfl rfl rfl rfl rfl rfl ?_
  refine gT trivial rfl rfl rfl rfl rfl rfl rfl rfl rfl rfl (Nat.le_of_ble_eq_true rfl) rfl ?_
  refine rg_nil nofun ?_
  refine vc_seq ?_
  refine vc_region hm ?_
  refine gF trivial rfl rfl rfl rfl rfl ?_
  refine gL trivial rfl rfl rfl rfl rfl rfl rfl rfl ?_
  refine gM trivial (.inr rfl) rfl rfl rfl ?_
  refine rg_nil nofun ?_
  refine vc_block ?_
  refine vc_loop' (fun n_ S_=>∃ (i:Int),(at_ l (j:Int)).lo≤i∧n_=((at_ l (j:Int)).hi - i).toNat∧S_=⟨4,[(2,.pointer (some ⟨1,0,none⟩)),(3,.pointer (some ⟨2,0,none⟩)),(7,.slice (some ⟨0,0,none⟩) l.length 0),(8,.int .i64 l.length),(9,.int .i64 j),(5,.pointer (some ⟨3,0,none⟩)),(6,.int .i64 i)],[(0,false,one ⟨rSp l,33,0⟩),(1,true,one ⟨plL (fun _=>false),60,48⟩),(2,true,one ⟨plL (fillTo (ofP (l.take j)) (at_ l (j:Int)).lo i (at_ l (j:Int)).hi true),60,48⟩),(3,true,one ⟨[.int .i64 (at_ l (j:Int)).lo,.int .i64 (at_ l (j:Int)).hi],33,2⟩)]⟩) (m0:=idm) ⟨(at_ l (j:Int)).lo,Int.le_refl _,rfl,rfl⟩ (le_mk rfl ⟨⟨rfl,rfl⟩,⟨rfl,rfl⟩,⟨rfl,rfl⟩,⟨rfl,rfl⟩,⟨rfl,rfl⟩,⟨rfl,rfl⟩,⟨rfl,rfl⟩,trivial⟩ ⟨kFlat (rSp_flat l) rfl id rfl,kFlat (plL_flat _) rfl id rfl,kFlat (plL_flat _) (eqH fillTo_start) id rfl,kCells rfl rfl id rfl,trivial⟩ rfl (fun _ _=>rfl)) ?_
  rintro n_ S_ ⟨i,hi,rfl,rfl⟩
  have hb1:=hl _ (at_mem (by omega) p10)
  refine vc_seq ?_
  refine vc_seq ?_
  refine vc_region hm ?_
  refine gM trivial (.inl rfl) rfl rfl rfl ?_
  refine gF trivial rfl rfl rfl rfl rfl ?_
  refine gL trivial rfl rfl rfl rfl rfl rfl rfl rfl ?_
  refine gI trivial rfl rfl rfl rfl rfl rfl ?_
  refine rg_nil nofun ?_
  refine cI rfl (fun c18=>?_) (fun c18=>?_)
  ·skip
   have p18:=of_decide_eq_true c18
   refine vc_skip ?_
   refine vc_seq ?_
   refine vc_block ?_
   refine vc_region hm ?_
   refine gM trivial (.inl rfl) rfl rfl rfl ?_
   refine gXA trivial rfl rfl rfl rfl rfl rfl rfl (by omega) (by omega) ?_
   refine gT trivial rfl rfl rfl rfl rfl rfl rfl rfl rfl rfl (kPl (by omega) (by omega)) (sPl (by omega) (by omega)) ?_
   refine rg_nil nofun ?_
   refine vc_region hm ?_
   refine gM trivial (.inl rfl) rfl rfl rfl ?_
   refine gA trivial rfl rfl rfl rfl rfl rfl (by omega) ?_
   refine gM trivial (.inr rfl) rfl rfl rfl ?_
   refine rg_nil nofun ?_
   exact lp_next (m:=idm) ⟨i + 1,(by omega),rfl,rfl⟩ (by omega) (le_mk rfl ⟨⟨rfl,rfl⟩,⟨rfl,rfl⟩,⟨rfl,rfl⟩,⟨rfl,rfl⟩,⟨rfl,rfl⟩,⟨rfl,rfl⟩,⟨rfl,rfl⟩,trivial⟩ ⟨kFlat (rSp_flat l) rfl id rfl,kFlat (plL_flat _) rfl id rfl,kFlat (plL_flat _) (eqH (fillTo_step (by omega) hi p18)) id rfl,kCells rfl rfl id rfl,trivial⟩ rfl (fun _ _=>rfl))
  ·skip
   have p18:=of_decide_eq_false c18
   refine vc_exit ?_
   refine vc_region hm ?_
   refine gA trivial rfl rfl rfl rfl rfl rfl (by omega) ?_
   refine gM trivial (.inl rfl) rfl rfl rfl ?_
   refine rg_nil nofun ?_
   exact lp_next (m:=idm) ⟨j + 1,(by omega),rfl,rfl⟩ (by omega) (le_mk rfl ⟨⟨rfl,rfl⟩,⟨rfl,rfl⟩,⟨rfl,rfl⟩,⟨rfl,rfl⟩,⟨rfl,rfl⟩,trivial⟩ ⟨kFlat (rSp_flat l) rfl id rfl,kFlat (plL_flat _) rfl id rfl,kFlat (plL_flat _) (eqH (of_step p10 p18)) id rfl,trivial⟩ rfl (fun _ _=>rfl))
 ·skip
  have p10:=of_decide_eq_false c10
  refine vc_exit ?_
  refine vc_seq ?_
  refine vc_region hm ?_
  refine gL trivial rfl rfl rfl rfl rfl rfl rfl wPl ?_
  refine gT trivial rfl rfl rfl rfl rfl rfl rfl rfl rfl rfl zPl pPl ?_
  refine rg_nil nofun ?_
  refine vc_ret ?_
  obtain rfl:j=l.length:=by omega
  rw [List.take_length]
  exact ⟨idm,endsF (.inr rfl) (.cell rfl rfl rfl rfl wPl .nil) rfl (vPl_flat _) rfl⟩
theorem laws_toSpan_c (s:Sp):FDoes Try.prog 19 [vSp s] (hp []) { v:=vSp s }:=by
 have hm:Try.prog.follows .mixedOrders=true:=by kernel_rfl
 have hd_:∀ x ∈ ([]:List (Nat × Bool × Fam)),∀ k y,x.2.2 k=some y→DetB (lt 0) y:=fun x_ hx=>(by cases hx)
 refine fn_exact (u0:=0) Try.func19 rfl rfl (gets rfl rfl rfl hd_ rfl) ?_
 clear hd_
 refine vc_seq ?_
 refine vc_region hm ?_
 refine gB (u':=1) trivial rfl rfl rfl rfl rfl rfl rfl rfl ?_
 refine gZ (u':=2) trivial rfl rfl rfl rfl rfl rfl rfl rfl ?_
 refine rg_nil nofun ?_
 refine vc_seq ?_
 refine vc_region hm ?_
 refine gZ (u':=3) trivial rfl rfl rfl rfl rfl rfl rfl rfl ?_
 refine rg_nil nofun ?_
 refine vc_seq ?_
 refine vc_region hm ?_
 refine gF trivial rfl rfl rfl rfl rfl ?_
 refine gL trivial rfl rfl rfl rfl rfl rfl rfl rfl ?_
 refine gF trivial rfl rfl rfl rfl rfl ?_
 refine gT trivial rfl rfl rfl rfl rfl rfl rfl rfl rfl rfl (Nat.le_of_ble_eq_true rfl) rfl ?_
 refine rg_nil nofun ?_
 refine vc_seq ?_
 refine vc_region hm ?_
 refine gF trivial rfl rfl rfl rfl rfl ?_
 refine gL trivial rfl rfl rfl rfl rfl rfl rfl rfl ?_
 refine gF trivial rfl rfl rfl rfl rfl ?_
 refine gT trivial rfl rfl rfl rfl rfl rfl rfl rfl rfl rfl (Nat.le_of_ble_eq_true rfl) rfl ?_
 refine rg_nil nofun ?_
 refine vc_seq ?_
 refine vc_region hm ?_
 refine gL trivial rfl rfl rfl rfl rfl rfl rfl rfl ?_
 refine gT trivial rfl rfl rfl rfl rfl rfl rfl rfl rfl rfl (Nat.le_of_ble_eq_true rfl) rfl ?_
 refine rg_nil nofun ?_
 refine vc_ret ?_
 exact ⟨idm,endsF (.inr rfl) (.cell rfl rfl rfl rfl rfl .nil) rfl rfl rfl⟩
theorem laws_toSpanS_c {l:List Sp} {k:Nat} (hn:l.length≤1048576):FDoes Try.prog 70 [.slice (some ⟨0,k,none⟩) l.length 0] (hp [(0,false,one ⟨hls k (rSp l),31,0⟩)]) (mkE (.slice (some ⟨1,0,none⟩) l.length 0) [0] [] [(1,⟨rSp l,33,102⟩)]):=by
 have hm:Try.prog.follows .mixedOrders=true:=by kernel_rfl
 have hd_:∀ x_ ∈ ([(0,false,one ⟨hls k (rSp l),31,0⟩)]:List (Nat × Bool × Fam)),∀ k_ y_,x_.2.2 k_=some y_→DetB (lt 1) y_:=by
  intro x_ hx k_ y_ e
  simp only [List.mem_cons,List.not_mem_nil,or_false] at hx
  subst hx
  exact det_row (hls_flat (rSp_flat l)) e
 refine fn_exact (u0:=1) Try.func70 rfl rfl (gets rfl rfl rfl hd_ rfl) ?_
 clear hd_
 refine vc_seq ?_
 refine vc_region hm ?_
 refine gM trivial (.inr rfl) rfl rfl rfl ?_
 refine rg_nil nofun ?_
 refine vc_seq ?_
 refine vc_region hm ?_
 refine gM trivial (.inl rfl) rfl rfl rfl ?_
 refine gK trivial rfl rfl rfl rfl rfl rfl (hls_nil rSp_nil) ?_
 refine gMk (u':=2) trivial rfl rfl rfl rfl rfl rfl rfl rfl rfl rfl rfl rfl rfl rfl ⟨(show 16 * l.length≤1000000000 by omega),by omega⟩ (fill_zeros (enc:=eSp) (n:=2) (fun _=>rfl) (by decide) rfl l) ?_
 refine gM trivial (.inr rfl) rfl rfl rfl ?_
 refine rg_nil nofun ?_
 refine vc_seq ?_
 refine vc_seq ?_
 refine vc_region hm ?_
 refine gM trivial (.inr rfl) rfl rfl rfl ?_
 refine rg_nil nofun ?_
 refine vc_block ?_
 refine vc_loop' (fun n_ S_=>∃ (j:Nat),j≤l.length∧n_=l.length - j∧S_=⟨2,[(0,.slice (some ⟨0,k,none⟩) l.length 0),(3,.slice (some ⟨1,0,none⟩) l.length 0),(4,.int .i64 j)],[(0,false,one ⟨hls k (rSp l),31,0⟩),(1,true,one ⟨rSp (fillR l j),33,102⟩)]⟩) (m0:=idm) ⟨0,Nat.zero_le _,rfl,rfl⟩ (le_mk rfl ⟨⟨rfl,rfl⟩,⟨rfl,rfl⟩,⟨rfl,rfl⟩,trivial⟩ ⟨kFlat (hls_flat (rSp_flat l)) rfl id rfl,kFlat (rSp_flat _) rfl id rfl,trivial⟩ rfl (fun _ _=>rfl)) ?_
 rintro n_ S_ ⟨j,hj,rfl,rfl⟩
 refine vc_seq ?_
 refine vc_seq ?_
 refine vc_region hm ?_
 refine gM trivial (.inl rfl) rfl rfl rfl ?_
 refine gM trivial (.inl rfl) rfl rfl rfl ?_
 refine gK trivial rfl rfl rfl rfl rfl rfl (hls_nil rSp_nil) ?_
 refine gI trivial rfl rfl rfl rfl rfl rfl ?_
 refine rg_nil nofun ?_
 refine cI rfl (fun c11=>?_) (fun c11=>?_)
 ·skip
  have p11:=of_decide_eq_true c11
  refine vc_skip ?_
  refine vc_seq ?_
  refine vc_block ?_
  refine vc_region hm ?_
  refine gM trivial (.inl rfl) rfl rfl rfl ?_
  refine gM trivial (.inl rfl) rfl rfl rfl ?_
  refine gM trivial (.inl rfl) rfl rfl rfl ?_
  refine gM trivial (.inl rfl) rfl rfl rfl ?_
  refine gX trivial rfl rfl rfl rfl rfl rfl rfl rfl (by omega) p11 (fun h=>hls_ne (rSp_ne h)) ?_
  refine gL trivial rfl rfl rfl rfl rfl rfl rfl (wR (aSp (by omega) p11) rfl) ?_
  refine gC0 [] (laws_toSpan_c (at_ l (j:Int))) trivial rfl rfl rfl rfl (by trivial) rfl rfl rfl rfl rfl ?_
  refine gX trivial rfl rfl rfl rfl rfl rfl rfl rfl (by omega) p11 (fun h=>rSp_ne (by rw [fill_len (by omega)];exact h)) ?_
  refine gT trivial rfl rfl rfl rfl rfl rfl rfl rfl rfl rfl (fill_room (n:=2) (fun _=>rfl) (show 0 + (j:Int).toNat * 2=j * 2 by omega) p11) (fill_put (n:=2) (fun _=>rfl) (show 0 + (j:Int).toNat * 2=j * 2 by omega) rfl p11) ?_
  refine rg_nil nofun ?_
  refine vc_region hm ?_
  refine gM trivial (.inl rfl) rfl rfl rfl ?_
  refine gA trivial rfl rfl rfl rfl rfl rfl (by omega) ?_
  refine gM trivial (.inr rfl) rfl rfl rfl ?_
  refine rg_nil nofun ?_
  exact lp_next (m:=idm) ⟨j + 1,(by omega),rfl,rfl⟩ (by omega) (le_mk rfl ⟨⟨rfl,rfl⟩,⟨rfl,rfl⟩,⟨rfl,rfl⟩,trivial⟩ ⟨kFlat (hls_flat (rSp_flat l)) rfl id rfl,kFlat (rSp_flat _) rfl id rfl,trivial⟩ rfl (fun _ _=>rfl))
 ·skip
  have p11:=of_decide_eq_false c11
  refine vc_exit ?_
  refine vc_seq ?_
  refine vc_region hm ?_
  refine gM trivial (.inl rfl) rfl rfl rfl ?_
  refine gM trivial (.inr rfl) rfl rfl rfl ?_
  refine rg_nil nofun ?_
  refine vc_ret ?_
  obtain rfl:j=l.length:=by omega
  rw [fill_end]
  exact ⟨_,endsG [(1,1,⟨rSp l,33,102⟩)] (.inr rfl) (.tmp rfl rfl .nil) rfl rfl trivial ⟨⟨rfl,rSp_flat l⟩,trivial⟩ rfl⟩
theorem laws_szSpanS_c {l:List Sp} {k:Nat} {left:Int} (h0:0≤left) (h1:left≤1048576) (hn:l.length≤9223372036854775807):FDoes Try.prog 69 [.slice (some ⟨0,k,none⟩) l.length 0,.int .i64 left] (hp [(0,false,one ⟨hls k (rSp l),31,0⟩)]) { v:=.int .i64 (szL left l.length),rd:=[0] }:=by
 have hm:Try.prog.follows .mixedOrders=true:=by kernel_rfl
 have hd_:∀ x_ ∈ ([(0,false,one ⟨hls k (rSp l),31,0⟩)]:List (Nat × Bool × Fam)),∀ k_ y_,x_.2.2 k_=some y_→DetB (lt 1) y_:=by
  intro x_ hx k_ y_ e
  simp only [List.mem_cons,List.not_mem_nil,or_false] at hx
  subst hx
  exact det_row (hls_flat (rSp_flat l)) e
 refine fn_exact (u0:=1) Try.func69 rfl rfl (gets rfl rfl rfl hd_ rfl) ?_
 clear hd_
 refine vc_seq ?_
 refine vc_region hm ?_
 refine gM trivial (.inr rfl) rfl rfl rfl ?_
 refine rg_nil nofun ?_
 refine vc_seq ?_
 refine vc_region hm ?_
 refine gM trivial (.inl rfl) rfl rfl rfl ?_
 refine gM trivial (.inl rfl) rfl rfl rfl ?_
 refine gK trivial rfl rfl rfl rfl rfl rfl (hls_nil rSp_nil) ?_
 refine gA trivial rfl rfl rfl rfl rfl rfl (by omega) ?_
 refine gM trivial (.inr rfl) rfl rfl rfl ?_
 refine rg_nil nofun ?_
 refine vc_seq ?_
 refine vc_seq ?_
 refine vc_region hm ?_
 refine gM trivial (.inl rfl) rfl rfl rfl ?_
 refine gI trivial rfl rfl rfl rfl rfl rfl ?_
 refine rg_nil nofun ?_
 refine cI rfl (fun c10=>?_) (fun c10=>?_)
 ·skip
  have p10:=of_decide_eq_true c10
  refine vc_seq ?_
  refine vc_region hm ?_
  refine gM trivial (.inr rfl) rfl rfl rfl ?_
  refine rg_nil nofun ?_
  refine vc_ret ?_
  exact ⟨idm,ends0 (.inr rfl) rfl (eqI (by unfold szL;first|rw [if_pos (by assumption)]|rw [if_neg (by assumption)])) rfl rfl rfl⟩
 ·skip
  have p10:=of_decide_eq_false c10
  refine vc_skip ?_
  refine vc_seq ?_
  refine vc_region hm ?_
  refine gM trivial (.inl rfl) rfl rfl rfl ?_
  refine gM trivial (.inr rfl) rfl rfl rfl ?_
  refine rg_nil nofun ?_
  refine vc_ret ?_
  exact ⟨idm,ends0 (.inr rfl) rfl (eqI (by unfold szL;first|rw [if_pos (by assumption)]|rw [if_neg (by assumption)])) rfl rfl rfl⟩
theorem laws_eqSpan_c (a b:Sp):FDoes Try.prog 75 [vSp a,vSp b] (hp []) { v:=.bool (decide (a=b)) }:=by
 have hm:Try.prog.follows .mixedOrders=true:=by kernel_rfl
 have hd_:∀ x ∈ ([]:List (Nat × Bool × Fam)),∀ k y,x.2.2 k=some y→DetB (lt 0) y:=fun x_ hx=>(by cases hx)
 refine fn_exact (u0:=0) Try.func75 rfl rfl (gets rfl rfl rfl hd_ rfl) ?_
 clear hd_
 refine vc_seq ?_
 refine vc_region hm ?_
 refine gB (u':=1) trivial rfl rfl rfl rfl rfl rfl rfl rfl ?_
 refine gB (u':=2) trivial rfl rfl rfl rfl rfl rfl rfl rfl ?_
 refine gM trivial (.inr rfl) rfl rfl rfl ?_
 refine rg_nil nofun ?_
 refine vc_seq ?_
 refine vc_seq ?_
 refine vc_region hm ?_
 refine gF trivial rfl rfl rfl rfl rfl ?_
 refine gL trivial rfl rfl rfl rfl rfl rfl rfl rfl ?_
 refine gF trivial rfl rfl rfl rfl rfl ?_
 refine gL trivial rfl rfl rfl rfl rfl rfl rfl rfl ?_
 refine gI trivial rfl rfl rfl rfl rfl rfl ?_
 refine rg_nil nofun ?_
 refine cI rfl (fun c9=>?_) (fun c9=>?_)
 ·skip
  have p9:=bne_iff_ne.1 c9
  refine vc_seq ?_
  refine vc_region hm ?_
  refine gM trivial (.inr rfl) rfl rfl rfl ?_
  refine rg_nil nofun ?_
  refine vc_ret ?_
  exact ⟨idm,ends0 (.inr rfl) rfl (eqB (by first|exact decide_eq_false (sp_ne1 (by assumption))|exact decide_eq_false (sp_ne2 (by assumption))|exact decide_eq_true (sp_eq (by assumption) (by assumption)))) rfl rfl rfl⟩
 ·skip
  have p9:=bne_eq_false_iff_eq.1 c9
  refine vc_skip ?_
  refine vc_seq ?_
  refine vc_seq ?_
  refine vc_region hm ?_
  refine gF trivial rfl rfl rfl rfl rfl ?_
  refine gL trivial rfl rfl rfl rfl rfl rfl rfl rfl ?_
  refine gF trivial rfl rfl rfl rfl rfl ?_
  refine gL trivial rfl rfl rfl rfl rfl rfl rfl rfl ?_
  refine gI trivial rfl rfl rfl rfl rfl rfl ?_
  refine rg_nil nofun ?_
  refine cI rfl (fun c14=>?_) (fun c14=>?_)
  ·skip
   have p14:=bne_iff_ne.1 c14
   refine vc_seq ?_
   refine vc_region hm ?_
   refine gM trivial (.inr rfl) rfl rfl rfl ?_
   refine rg_nil nofun ?_
   refine vc_ret ?_
   exact ⟨idm,ends0 (.inr rfl) rfl (eqB (by first|exact decide_eq_false (sp_ne1 (by assumption))|exact decide_eq_false (sp_ne2 (by assumption))|exact decide_eq_true (sp_eq (by assumption) (by assumption)))) rfl rfl rfl⟩
  ·skip
   have p14:=bne_eq_false_iff_eq.1 c14
   refine vc_skip ?_
   refine vc_seq ?_
   refine vc_region hm ?_
   refine gM trivial (.inr rfl) rfl rfl rfl ?_
   refine rg_nil nofun ?_
   refine vc_ret ?_
   exact ⟨idm,ends0 (.inr rfl) rfl (eqB (by first|exact decide_eq_false (sp_ne1 (by assumption))|exact decide_eq_false (sp_ne2 (by assumption))|exact decide_eq_true (sp_eq (by assumption) (by assumption)))) rfl rfl rfl⟩
theorem laws_eqSpanS_c {a b:List Sp} (hn:a.length≤1048576):FDoes Try.prog 71 [.slice (some ⟨0,0,none⟩) a.length 0,.slice (some ⟨1,0,none⟩) b.length 0] (hp [(0,false,one ⟨rSp a,33,0⟩),(1,false,one ⟨rSp b,33,0⟩)]) { v:=.bool (decide (a=b)),rd:=[0,1] }:=by
 have hm:Try.prog.follows .mixedOrders=true:=by kernel_rfl
 have hd_:∀ x_ ∈ ([(0,false,one ⟨rSp a,33,0⟩),(1,false,one ⟨rSp b,33,0⟩)]:List (Nat × Bool × Fam)),∀ k_ y_,x_.2.2 k_=some y_→DetB (lt 2) y_:=by
  intro x_ hx k_ y_ e
  simp only [List.mem_cons,List.not_mem_nil,or_false] at hx
  rcases hx with rfl|rfl
  ·exact det_row (rSp_flat a) e
  ·exact det_row (rSp_flat b) e
 refine fn_exact (u0:=2) Try.func71 rfl rfl (gets rfl rfl rfl hd_ rfl) ?_
 clear hd_
 refine vc_seq ?_
 refine vc_region hm ?_
 refine gM trivial (.inr rfl) rfl rfl rfl ?_
 refine rg_nil nofun ?_
 refine vc_seq ?_
 refine vc_seq ?_
 refine vc_region hm ?_
 refine gM trivial (.inl rfl) rfl rfl rfl ?_
 refine gK trivial rfl rfl rfl rfl rfl rfl rSp_nil ?_
 refine gM trivial (.inl rfl) rfl rfl rfl ?_
 refine gK trivial rfl rfl rfl rfl rfl rfl rSp_nil ?_
 refine gI trivial rfl rfl rfl rfl rfl rfl ?_
 refine rg_nil nofun ?_
 refine cI rfl (fun c10=>?_) (fun c10=>?_)
 ·skip
  have p10:=bne_iff_ne.1 c10
  refine vc_seq ?_
  refine vc_region hm ?_
  refine gM trivial (.inr rfl) rfl rfl rfl ?_
  refine rg_nil nofun ?_
  refine vc_ret ?_
  exact ⟨idm,ends0 (.inr rfl) rfl (eqB (decide_eq_false fun e=>p10 (by rw [e]))) rfl rfl rfl⟩
 ·skip
  have p10:=bne_eq_false_iff_eq.1 c10
  refine vc_skip ?_
  refine vc_seq ?_
  refine vc_seq ?_
  refine vc_region hm ?_
  refine gM trivial (.inr rfl) rfl rfl rfl ?_
  refine rg_nil nofun ?_
  refine vc_block ?_
  have hl:a.length=b.length:=by omega
  refine vc_loop' (fun n_ S_=>∃ (j:Nat),j≤a.length∧a.take j=b.take j∧n_=a.length - j∧S_=⟨2,[(0,.slice (some ⟨0,0,none⟩) a.length 0),(1,.slice (some ⟨1,0,none⟩) b.length 0),(5,.int .i64 j)],[(0,false,one ⟨rSp a,33,0⟩),(1,false,one ⟨rSp b,33,0⟩)]⟩) (m0:=idm) ⟨0,Nat.zero_le _,rfl,rfl,rfl⟩ (le_mk rfl ⟨⟨rfl,rfl⟩,⟨rfl,rfl⟩,⟨rfl,rfl⟩,trivial⟩ ⟨kFlat (rSp_flat a) rfl id rfl,kFlat (rSp_flat b) rfl id rfl,trivial⟩ rfl (fun _ _=>rfl)) ?_
  rintro n_ S_ ⟨j,hj,hk,rfl,rfl⟩
  refine vc_seq ?_
  refine vc_seq ?_
  refine vc_region hm ?_
  refine gM trivial (.inl rfl) rfl rfl rfl ?_
  refine gM trivial (.inl rfl) rfl rfl rfl ?_
  refine gK trivial rfl rfl rfl rfl rfl rfl rSp_nil ?_
  refine gI trivial rfl rfl rfl rfl rfl rfl ?_
  refine rg_nil nofun ?_
  refine cI rfl (fun c14=>?_) (fun c14=>?_)
  ·skip
   have p14:=of_decide_eq_true c14
   refine vc_skip ?_
   refine vc_seq ?_
   refine vc_block ?_
   refine vc_seq ?_
   refine vc_region hm ?_
   refine gM trivial (.inl rfl) rfl rfl rfl ?_
   refine gM trivial (.inl rfl) rfl rfl rfl ?_
   refine gX trivial rfl rfl rfl rfl rfl rfl rfl rfl (by omega) (by omega) rSp_ne ?_
   refine gL trivial rfl rfl rfl rfl rfl rfl rfl (aSp (by omega) (by omega)) ?_
   refine gM trivial (.inl rfl) rfl rfl rfl ?_
   refine gM trivial (.inl rfl) rfl rfl rfl ?_
   refine gX trivial rfl rfl rfl rfl rfl rfl rfl rfl (by omega) (by omega) rSp_ne ?_
   refine gL trivial rfl rfl rfl rfl rfl rfl rfl (aSp (by omega) (by omega)) ?_
   refine gC0 [] (laws_eqSpan_c (at_ a (j:Int)) (at_ b (j:Int))) trivial rfl rfl rfl rfl (by trivial) rfl rfl rfl rfl rfl ?_
   refine gN trivial rfl rfl rfl rfl ?_
   refine rg_nil (fun _=>by kernel_rfl) ?_
   refine cI rfl (fun c26=>?_) (fun c26=>?_)
   ·skip
    have n26:=unT c26
    refine vc_seq ?_
    refine vc_region hm ?_
    refine gM trivial (.inr rfl) rfl rfl rfl ?_
    refine rg_nil nofun ?_
    refine vc_ret ?_
    exact ⟨idm,ends0 (.inr rfl) rfl (eqB (decide_eq_false fun e=>of_dF n26 (by rw [e]))) rfl rfl rfl⟩
   ·skip
    have n26:=unF c26
    refine vc_skip ?_
    refine vc_region hm ?_
    refine gM trivial (.inl rfl) rfl rfl rfl ?_
    refine gA trivial rfl rfl rfl rfl rfl rfl (by omega) ?_
    refine gM trivial (.inr rfl) rfl rfl rfl ?_
    refine rg_nil nofun ?_
    have q26:=of_dT n26
    exact lp_next (m:=idm) ⟨j + 1,(by omega),(take_step hk p14 hl q26),rfl,rfl⟩ (by omega) (le_mk rfl ⟨⟨rfl,rfl⟩,⟨rfl,rfl⟩,⟨rfl,rfl⟩,trivial⟩ ⟨kFlat (rSp_flat a) rfl id rfl,kFlat (rSp_flat b) rfl id rfl,trivial⟩ rfl (fun _ _=>rfl))
  ·skip
   have p14:=of_decide_eq_false c14
   refine vc_exit ?_
   refine vc_seq ?_
   refine vc_region hm ?_
   refine gM trivial (.inr rfl) rfl rfl rfl ?_
   refine rg_nil nofun ?_
   refine vc_ret ?_
   exact ⟨idm,ends0 (.inr rfl) rfl (eqB (decide_eq_true (take_all hk p14 hl))) rfl rfl rfl⟩
theorem laws_toHold_c {o:Ho} {k0 k1:Nat} (hr:o.r.length≤1048576) (hw:o.w.length≤1048576):FDoes Try.prog 38 [.agg #[.slice (some ⟨0,k0,none⟩) o.r.length 0,.slice (some ⟨1,k1,none⟩) o.w.length 0]] (hp [(0,false,one ⟨hls k0 (rSp o.r),31,0⟩),(1,false,one ⟨hls k1 (rSp o.w),31,0⟩)]) (mkE (.agg #[.slice (some ⟨2,0,none⟩) o.r.length 0,.slice (some ⟨3,0,none⟩) o.w.length 0]) [0,1] [] [(2,⟨rSp o.r,33,102⟩),(3,⟨rSp o.w,33,102⟩)]):=by
 have hm:Try.prog.follows .mixedOrders=true:=by kernel_rfl
 have hd_:∀ x_ ∈ ([(0,false,one ⟨hls k0 (rSp o.r),31,0⟩),(1,false,one ⟨hls k1 (rSp o.w),31,0⟩)]:List (Nat × Bool × Fam)),∀ k_ y_,x_.2.2 k_=some y_→DetB (lt 2) y_:=by
  intro x_ hx k_ y_ e
  simp only [List.mem_cons,List.not_mem_nil,or_false] at hx
  rcases hx with rfl|rfl
  ·exact det_row (hls_flat (rSp_flat o.r)) e
  ·exact det_row (hls_flat (rSp_flat o.w)) e
 refine fn_exact (u0:=2) Try.func38 rfl rfl (gets rfl rfl rfl hd_ rfl) ?_
 clear hd_
 refine vc_seq ?_
 refine vc_region hm ?_
 refine gB (u':=3) trivial rfl rfl rfl rfl rfl rfl rfl rfl ?_
 refine gZ (u':=4) trivial rfl rfl rfl rfl rfl rfl rfl rfl ?_
 refine rg_nil nofun ?_
 refine vc_seq ?_
 refine vc_region hm ?_
 refine gZ (u':=5) trivial rfl rfl rfl rfl rfl rfl rfl rfl ?_
 refine rg_nil nofun ?_
 refine vc_seq ?_
 refine vc_region hm ?_
 refine gF trivial rfl rfl rfl rfl rfl ?_
 refine gL trivial rfl rfl rfl rfl rfl rfl rfl rfl ?_
 refine gCn 6 [0,5] (laws_toSpanS_c (l:=o.r) (k:=k0) hr) trivial rfl rfl rfl rfl ⟨rFlat (hls_flat (rSp_flat o.r)) rfl (.inl rfl) rfl,trivial⟩ ⟨rSp_flat _,trivial⟩ rfl rfl rfl rfl ?_
 refine gF trivial rfl rfl rfl rfl rfl ?_
 refine gT trivial rfl rfl rfl rfl rfl rfl rfl rfl rfl rfl (Nat.le_of_ble_eq_true rfl) rfl ?_
 refine rg_nil nofun ?_
 refine vc_seq ?_
 refine vc_region hm ?_
 refine gF trivial rfl rfl rfl rfl rfl ?_
 refine gL trivial rfl rfl rfl rfl rfl rfl rfl rfl ?_
 refine gCn 7 [1,6] (laws_toSpanS_c (l:=o.w) (k:=k1) hw) trivial rfl rfl rfl rfl ⟨rFlat (hls_flat (rSp_flat o.w)) rfl (.inl rfl) rfl,trivial⟩ ⟨rSp_flat _,trivial⟩ rfl rfl rfl rfl ?_
 refine gF trivial rfl rfl rfl rfl rfl ?_
 refine gT trivial rfl rfl rfl rfl rfl rfl rfl rfl rfl rfl (Nat.le_of_ble_eq_true rfl) rfl ?_
 refine rg_nil nofun ?_
 refine vc_seq ?_
 refine vc_region hm ?_
 refine gL trivial rfl rfl rfl rfl rfl rfl rfl rfl ?_
 refine gT trivial rfl rfl rfl rfl rfl rfl rfl rfl rfl rfl (Nat.le_of_ble_eq_true rfl) rfl ?_
 refine rg_nil nofun ?_
 refine vc_ret ?_
 exact ⟨_,endsG [(2,5,⟨rSp o.r,33,102⟩),(3,6,⟨rSp o.w,33,102⟩)] (.inr rfl) (.cell rfl rfl rfl rfl rfl .nil) rfl rfl trivial ⟨⟨rfl,rSp_flat _⟩,⟨rfl,rSp_flat _⟩,trivial⟩ rfl⟩
theorem laws_toHoldS_c {T:List Ho} {k:Nat} {off:Nat→Nat} (hT:T.length≤1048576) (hB:∀ h ∈ T,h.r.length≤1048576∧h.w.length≤1048576):FDoes Try.prog 13 [.slice (some ⟨0,k,none⟩) T.length 0] (hp [(0,false,one ⟨hls k (rHv (tabV 1 off T)),50,0⟩),(1,false,inF off 31 0 T)]) (mkF (.slice (some ⟨2,0,none⟩) T.length 0) [0,1] [] [(2,one ⟨rHv (tabV 3 zo T),54,102⟩),(3,inF zo 33 77 T)]):=by
 have hm:Try.prog.follows .mixedOrders=true:=by kernel_rfl
 have hd_:∀ x_ ∈ ([(0,false,one ⟨hls k (rHv (tabV 1 off T)),50,0⟩),(1,false,inF off 31 0 T)]:List (Nat × Bool × Fam)),∀ k_ y_,x_.2.2 k_=some y_→DetB (lt 2) y_:=by
  intro x_ hx k_ y_ e
  simp only [List.mem_cons,List.not_mem_nil,or_false] at hx
  rcases hx with rfl|rfl
  ·exact det_tab (k0:=k) rfl e
  ·exact det_in e
 refine fn_exact (u0:=2) Try.func13 rfl rfl (gets rfl rfl rfl hd_ rfl) ?_
 clear hd_
 refine vc_seq ?_
 refine vc_region hm ?_
 refine gM trivial (.inr rfl) rfl rfl rfl ?_
 refine rg_nil nofun ?_
 refine vc_seq ?_
 refine vc_region hm ?_
 refine gM trivial (.inl rfl) rfl rfl rfl ?_
 refine gK trivial rfl rfl rfl rfl rfl rfl (hls_nil tabV_nil) ?_
 refine gMk (u':=3) trivial rfl rfl rfl rfl rfl rfl rfl rfl rfl rfl rfl rfl rfl rfl ⟨(show 48 * T.length≤1000000000 by omega),by omega⟩ (zeros_row (enc:=eHv) (n:=2) (fun _=>rfl) (by decide) rfl _) ?_
 refine gM trivial (.inr rfl) rfl rfl rfl ?_
 refine rg_nil nofun ?_
 refine vc_seq ?_
 refine vc_seq ?_
 refine vc_region hm ?_
 refine gM trivial (.inr rfl) rfl rfl rfl ?_
 refine rg_nil nofun ?_
 refine vc_block ?_
 refine vc_loopT (fun n_ S_=>∃ (j:Nat),j≤T.length∧n_=T.length - j∧S_=⟨4,[(0,.slice (some ⟨0,k,none⟩) T.length 0),(3,.slice (some ⟨2,0,none⟩) T.length 0),(4,.int .i64 j)],[(0,false,one ⟨hls k (rHv (tabV 1 off T)),50,0⟩),(1,false,inF off 31 0 T),(2,true,one ⟨rHv (tabV 3 zo (fillR T j)),54,102⟩),(3,true,inF zo 33 77 (fillR T j))]⟩) ⟨0,Nat.zero_le _,rfl,rfl⟩ (re_nil (ms:=[0,1,2,3]) (C:=3) rfl ⟨⟨⟨rfl,rfl⟩,rfl⟩,⟨⟨rfl,rfl⟩,rfl⟩,⟨⟨rfl,rfl⟩,rfl⟩,trivial⟩ ⟨ktTab rfl rfl (.inr (.inl rfl)) id rfl rfl,ktIn rfl id rfl,ktTabN rfl fill_0 (.inr (.inl rfl)) id rfl rfl,ktInN fill_0 (by decide) rfl,trivial⟩ rfl rfl (rig_of rfl) rfl) ?_
 rintro n_ S_ ⟨j,hj,rfl,rfl⟩
 refine vc_seq ?_
 refine vc_seq ?_
 refine vc_region hm ?_
 refine gM trivial (.inl rfl) rfl rfl rfl ?_
 refine gM trivial (.inl rfl) rfl rfl rfl ?_
 refine gK trivial rfl rfl rfl rfl rfl rfl (hls_nil tabV_nil) ?_
 refine gI trivial rfl rfl rfl rfl rfl rfl ?_
 refine rg_nil nofun ?_
 refine cI rfl (fun c11=>?_) (fun c11=>?_)
 ·skip
  have p11:=of_decide_eq_true c11
  refine vc_skip ?_
  refine vc_seq ?_
  refine vc_block ?_
  refine vc_region hm ?_
  refine gM trivial (.inl rfl) rfl rfl rfl ?_
  refine gM trivial (.inl rfl) rfl rfl rfl ?_
  refine gM trivial (.inl rfl) rfl rfl rfl ?_
  refine gM trivial (.inl rfl) rfl rfl rfl ?_
  refine gX trivial rfl rfl rfl rfl rfl rfl rfl rfl (by omega) p11 (fun h=>hls_ne (tabV_ne h)) ?_
  refine gL trivial rfl rfl rfl rfl rfl rfl rfl (wR (aH (by omega) p11) rfl) ?_
  refine gCT (as':=[(4,one ⟨rSp (at_ T (j:Int)).r,33,102⟩),(5,one ⟨rSp (at_ T (j:Int)).w,33,102⟩)]) 6 [nA (nm 1 (2 * (j:Int).toNat)),nA (nm 1 (2 * (j:Int).toNat + 1)),nF 4,nF 5] [1] (laws_toHold_c (o:=(at_ T (j:Int))) (k0:=(off (2 * (j:Int).toNat))) (k1:=(off (2 * (j:Int).toNat + 1))) (hB _ (at_mem (by omega) p11)).1 (hB _ (at_mem (by omega) p11)).2) trivial rfl rfl rfl rfl rfl ⟨aRow rfl (hls_flat (rSp_flat _)) rfl (inF_0 (by omega) p11) (.inl rfl) (.inl rfl) rfl,aRow rfl (hls_flat (rSp_flat _)) rfl (inF_1 (by omega) p11) (.inl rfl) (.inl rfl) rfl,trivial⟩ ⟨rFlatT (rSp_flat _) rfl,rFlatT (rSp_flat _) rfl,trivial⟩ ⟨rfl,rfl⟩ rfl rfl rfl ?_
  refine gX trivial rfl rfl rfl rfl rfl rfl rfl rfl (by omega) p11 (fun h=>tabV_ne (by rw [fill_len (by omega)];exact h)) ?_
  refine gT trivial rfl rfl rfl rfl rfl rfl rfl rfl rfl rfl (show 0 + (j:Int).toNat * 2 + 2≤_ from by rw [rowL_len (n:=2) (fun _=>rfl),tabV_len,fill_len (by omega)];omega) (tab_put (i:=j) (show 0 + (j:Int).toNat * 2=j * 2 by omega) (by rw [tabV_len,fill_len (by omega)];omega)) ?_
  refine rg_nil nofun ?_
  refine vc_region hm ?_
  refine gM trivial (.inl rfl) rfl rfl rfl ?_
  refine gA trivial rfl rfl rfl rfl rfl rfl (by omega) ?_
  refine gM trivial (.inr rfl) rfl rfl rfl ?_
  refine rg_nil nofun ?_
  exact lp_nextT ⟨j + 1,(by omega),rfl,rfl⟩ (by omega) (re_fold (ms:=[0,1,2,3]) (C:=3) (C':=3) (i:=2 * (j)) (a:=4) (b:=5) rfl ⟨⟨⟨rfl,rfl⟩,rfl⟩,⟨⟨rfl,rfl⟩,rfl⟩,⟨⟨rfl,rfl⟩,rfl⟩,trivial⟩ ⟨ktTab rfl rfl (.inr (.inl rfl)) id rfl rfl,ktIn rfl id rfl,ktTabC rfl (by rw [List.length_set,tabV_len,fill_len (by omega),fill_len (by omega)]) (fun _=>fl_i p11) (fun i h h'=>fl_j p11 h h') (.inr (.inl rfl)) id rfl rfl,kPutC (fun i h _=>fl_g p11 h) (fl_ho p11) rfl rfl rfl (.inr ⟨.inl rfl,.inr ⟨by decide,by decide,by decide⟩,.inr ⟨by decide,by decide,by decide⟩⟩) (fun _=>⟨rfl,rfl,rfl⟩) rfl,trivial⟩ rfl rfl (rig_of rfl) rfl rfl)
 ·skip
  have p11:=of_decide_eq_false c11
  refine vc_exit ?_
  refine vc_seq ?_
  refine vc_region hm ?_
  refine gM trivial (.inl rfl) rfl rfl rfl ?_
  refine gM trivial (.inr rfl) rfl rfl rfl ?_
  refine rg_nil nofun ?_
  refine vc_ret ?_
  obtain rfl:j=T.length:=by omega
  rw [fill_end]
  exact ⟨_,endsT [(2,2,one ⟨rHv (tabV 3 zo T),54,102⟩),(3,3,inF zo 33 77 T)] (.inr rfl) (.tmp rfl rfl .nil) rfl rfl trivial ⟨asTab rfl rfl rfl,asIn rfl,trivial⟩ rfl⟩
theorem laws_szHold_c {o:Ho} {k0 k1:Nat} {left:Int} (h0:0≤left) (h1:left≤1048576) (hr:o.r.length≤9223372036854775807) (hw:o.w.length≤9223372036854775807):FDoes Try.prog 36 [.agg #[.slice (some ⟨0,k0,none⟩) o.r.length 0,.slice (some ⟨1,k1,none⟩) o.w.length 0],.int .i64 left] (hp [(0,false,one ⟨hls k0 (rSp o.r),31,0⟩),(1,false,one ⟨hls k1 (rSp o.w),31,0⟩)]) { v:=.int .i64 (szH o left),rd:=[0,1] }:=by
 have hm:Try.prog.follows .mixedOrders=true:=by kernel_rfl
 have hd_:∀ x_ ∈ ([(0,false,one ⟨hls k0 (rSp o.r),31,0⟩),(1,false,one ⟨hls k1 (rSp o.w),31,0⟩)]:List (Nat × Bool × Fam)),∀ k_ y_,x_.2.2 k_=some y_→DetB (lt 2) y_:=by
  intro x_ hx k_ y_ e
  simp only [List.mem_cons,List.not_mem_nil,or_false] at hx
  rcases hx with rfl|rfl
  ·exact det_row (hls_flat (rSp_flat o.r)) e
  ·exact det_row (hls_flat (rSp_flat o.w)) e
 refine fn_exact (u0:=2) Try.func36 rfl rfl (gets rfl rfl rfl hd_ rfl) ?_
 clear hd_
 refine vc_seq ?_
 refine vc_region hm ?_
 refine gB (u':=3) trivial rfl rfl rfl rfl rfl rfl rfl rfl ?_
 refine gM trivial (.inr rfl) rfl rfl rfl ?_
 refine rg_nil nofun ?_
 refine vc_seq ?_
 refine vc_region hm ?_
 refine gF trivial rfl rfl rfl rfl rfl ?_
 refine gL trivial rfl rfl rfl rfl rfl rfl rfl rfl ?_
 refine gM trivial (.inl rfl) rfl rfl rfl ?_
 refine gC0 [0] (laws_szSpanS_c (l:=o.r) (k:=k0) (left:=left) (by omega) (by first|omega|(unfold szL;split <;> omega)) hr) trivial rfl rfl rfl rfl ⟨rFlat (hls_flat (rSp_flat o.r)) rfl (.inl rfl) rfl,trivial⟩ rfl rfl rfl rfl rfl ?_
 refine gM trivial (.inr rfl) rfl rfl rfl ?_
 refine rg_nil nofun ?_
 refine vc_seq ?_
 refine vc_seq ?_
 refine vc_region hm ?_
 refine gM trivial (.inl rfl) rfl rfl rfl ?_
 refine gI trivial rfl rfl rfl rfl rfl rfl ?_
 refine rg_nil nofun ?_
 refine cI rfl (fun c10=>?_) (fun c10=>?_)
 ·skip
  have p10:=of_decide_eq_true c10
  refine vc_seq ?_
  refine vc_region hm ?_
  refine gM trivial (.inr rfl) rfl rfl rfl ?_
  refine rg_nil nofun ?_
  refine vc_ret ?_
  exact ⟨idm,ends0 (.inr rfl) rfl (eqI (by unfold szH;unfold szL at *;first|omega|(split <;> omega)|(repeat' split at *) <;> omega)) rfl rfl rfl⟩
 ·skip
  have p10:=of_decide_eq_false c10
  refine vc_skip ?_
  refine vc_seq ?_
  refine vc_region hm ?_
  refine gF trivial rfl rfl rfl rfl rfl ?_
  refine gL trivial rfl rfl rfl rfl rfl rfl rfl rfl ?_
  refine gM trivial (.inl rfl) rfl rfl rfl ?_
  refine gC0 [1] (laws_szSpanS_c (l:=o.w) (k:=k1) (left:=szL left o.r.length) (by omega) (by first|omega|(unfold szL;split <;> omega)) hw) trivial rfl rfl rfl rfl ⟨rFlat (hls_flat (rSp_flat o.w)) rfl (.inl rfl) rfl,trivial⟩ rfl rfl rfl rfl rfl ?_
  refine gM trivial (.inr rfl) rfl rfl rfl ?_
  refine rg_nil nofun ?_
  refine vc_seq ?_
  refine vc_seq ?_
  refine vc_region hm ?_
  refine gM trivial (.inl rfl) rfl rfl rfl ?_
  refine gI trivial rfl rfl rfl rfl rfl rfl ?_
  refine rg_nil nofun ?_
  refine cI rfl (fun c16=>?_) (fun c16=>?_)
  ·skip
   have p16:=of_decide_eq_true c16
   refine vc_seq ?_
   refine vc_region hm ?_
   refine gM trivial (.inr rfl) rfl rfl rfl ?_
   refine rg_nil nofun ?_
   refine vc_ret ?_
   exact ⟨idm,ends0 (.inr rfl) rfl (eqI (by unfold szH;unfold szL at *;first|omega|(split <;> omega)|(repeat' split at *) <;> omega)) rfl rfl rfl⟩
  ·skip
   have p16:=of_decide_eq_false c16
   refine vc_skip ?_
   refine vc_seq ?_
   refine vc_region hm ?_
   refine gM trivial (.inl rfl) rfl rfl rfl ?_
   refine gM trivial (.inr rfl) rfl rfl rfl ?_
   refine rg_nil nofun ?_
   refine vc_ret ?_
   exact ⟨idm,ends0 (.inr rfl) rfl (eqI (by unfold szH;unfold szL at *;first|omega|(split <;> omega)|(repeat' split at *) <;> omega)) rfl rfl rfl⟩
theorem laws_szHoldS_c {T:List Ho} {k:Nat} {off:Nat→Nat} {left:Int} (h0:0≤left) (h1:left≤1048576) (hT:T.length≤9223372036854775807) (hB:∀ h ∈ T,h.r.length≤9223372036854775807∧h.w.length≤9223372036854775807):FDoes Try.prog 11 [.slice (some ⟨0,k,none⟩) T.length 0,.int .i64 left] (hp [(0,false,one ⟨hls k (rHv (tabV 1 off T)),50,0⟩),(1,false,inF off 31 0 T)]) { v:=.int .i64 (szT T left),rd:=[0,1] }:=by
 have hm:Try.prog.follows .mixedOrders=true:=by kernel_rfl
 have hd_:∀ x_ ∈ ([(0,false,one ⟨hls k (rHv (tabV 1 off T)),50,0⟩),(1,false,inF off 31 0 T)]:List (Nat × Bool × Fam)),∀ k_ y_,x_.2.2 k_=some y_→DetB (lt 2) y_:=by
  intro x_ hx k_ y_ e
  simp only [List.mem_cons,List.not_mem_nil,or_false] at hx
  rcases hx with rfl|rfl
  ·exact det_tab (k0:=k) rfl e
  ·exact det_in e
 refine fn_exact (u0:=2) Try.func11 rfl rfl (gets rfl rfl rfl hd_ rfl) ?_
 clear hd_
 refine vc_seq ?_
 refine vc_region hm ?_
 refine gM trivial (.inr rfl) rfl rfl rfl ?_
 refine rg_nil nofun ?_
 refine vc_seq ?_
 refine vc_region hm ?_
 refine gM trivial (.inl rfl) rfl rfl rfl ?_
 refine gM trivial (.inl rfl) rfl rfl rfl ?_
 refine gK trivial rfl rfl rfl rfl rfl rfl (hls_nil tabV_nil) ?_
 refine gA trivial rfl rfl rfl rfl rfl rfl (by omega) ?_
 refine gM trivial (.inr rfl) rfl rfl rfl ?_
 refine rg_nil nofun ?_
 refine vc_seq ?_
 refine vc_seq ?_
 refine vc_region hm ?_
 refine gM trivial (.inl rfl) rfl rfl rfl ?_
 refine gI trivial rfl rfl rfl rfl rfl rfl ?_
 refine rg_nil nofun ?_
 refine cI rfl (fun c11=>?_) (fun c11=>?_)
 ·skip
  have p11:=of_decide_eq_true c11
  refine vc_seq ?_
  refine vc_region hm ?_
  refine gM trivial (.inr rfl) rfl rfl rfl ?_
  refine rg_nil nofun ?_
  refine vc_ret ?_
  exact ⟨idm,ends0 (.inr rfl) rfl (eqI (by first|exact (szT_1 p11)|exact (szT_1 p11).symm)) rfl rfl rfl⟩
 ·skip
  have p11:=of_decide_eq_false c11
  refine vc_skip ?_
  refine vc_seq ?_
  refine vc_seq ?_
  refine vc_region hm ?_
  refine gM trivial (.inr rfl) rfl rfl rfl ?_
  refine rg_nil nofun ?_
  refine vc_block ?_
  refine vc_loopT (fun n_ S_=>∃ (j:Nat),j≤T.length∧0≤(left - T.length - tot (T.take j))∧n_=T.length - j∧S_=⟨2,[(0,.slice (some ⟨0,k,none⟩) T.length 0),(1,.int .i64 (left - T.length - tot (T.take j))),(5,.int .i64 j)],[(0,false,one ⟨hls k (rHv (tabV 1 off T)),50,0⟩),(1,false,inF off 31 0 T)]⟩) ⟨0,Nat.zero_le _,(show 0≤left - T.length - tot [] by unfold tot;omega),rfl,rfl⟩ (re_nil (ms:=[0,1]) (C:=999) rfl ⟨⟨⟨rfl,rfl⟩,rfl⟩,⟨⟨rfl,eqI (show _ - (0:Int)=_ by omega)⟩,rfl⟩,⟨⟨rfl,rfl⟩,rfl⟩,trivial⟩ ⟨ktTab rfl rfl (.inr (.inl rfl)) id rfl rfl,ktIn rfl id rfl,trivial⟩ rfl rfl (rig_of rfl) rfl) ?_
  rintro n_ S_ ⟨j,hj,hl,rfl,rfl⟩
  refine vc_seq ?_
  refine vc_seq ?_
  refine vc_region hm ?_
  refine gM trivial (.inl rfl) rfl rfl rfl ?_
  refine gM trivial (.inl rfl) rfl rfl rfl ?_
  refine gK trivial rfl rfl rfl rfl rfl rfl (hls_nil tabV_nil) ?_
  refine gI trivial rfl rfl rfl rfl rfl rfl ?_
  refine rg_nil nofun ?_
  refine cI rfl (fun c15=>?_) (fun c15=>?_)
  ·skip
   have p15:=of_decide_eq_true c15
   refine vc_skip ?_
   refine vc_seq ?_
   refine vc_block ?_
   refine vc_seq ?_
   refine vc_region hm ?_
   refine gM trivial (.inl rfl) rfl rfl rfl ?_
   refine gM trivial (.inl rfl) rfl rfl rfl ?_
   refine gX trivial rfl rfl rfl rfl rfl rfl rfl rfl (by omega) p15 (fun h=>hls_ne (tabV_ne h)) ?_
   refine gL trivial rfl rfl rfl rfl rfl rfl rfl (wR (aH (by omega) p15) rfl) ?_
   refine gM trivial (.inl rfl) rfl rfl rfl ?_
   refine gCT0 [nA (nm 1 (2 * ((j:Int)).toNat)),nA (nm 1 (2 * ((j:Int)).toNat + 1))] [1] (laws_szHold_c (o:=(at_ T (j:Int))) (k0:=off (2 * ((j:Int)).toNat)) (k1:=off (2 * ((j:Int)).toNat + 1)) hl (by have:=tot_nn (T.take j);omega) (hB _ (at_mem (by omega) p15)).1 (hB _ (at_mem (by omega) p15)).2) trivial rfl rfl rfl rfl rfl ⟨aRow rfl (hls_flat (rSp_flat _)) rfl (inF_0 (by omega) p15) (.inl rfl) (.inl rfl) rfl,aRow rfl (hls_flat (rSp_flat _)) rfl (inF_1 (by omega) p15) (.inl rfl) (.inl rfl) rfl,trivial⟩ rfl rfl rfl rfl ?_
   refine gM trivial (.inr rfl) rfl rfl rfl ?_
   refine rg_nil nofun ?_
   refine vc_seq ?_
   refine vc_region hm ?_
   refine gM trivial (.inl rfl) rfl rfl rfl ?_
   refine gI trivial rfl rfl rfl rfl rfl rfl ?_
   refine rg_nil nofun ?_
   refine cI rfl (fun c25=>?_) (fun c25=>?_)
   ·skip
    have p25:=of_decide_eq_true c25
    refine vc_seq ?_
    refine vc_region hm ?_
    refine gM trivial (.inr rfl) rfl rfl rfl ?_
    refine rg_nil nofun ?_
    refine vc_ret ?_
    exact ⟨idm,ends0 (.inr rfl) rfl (eqI (by first|exact (szT_2 p15 p25)|exact (szT_2 p15 p25).symm)) rfl rfl rfl⟩
   ·skip
    have p25:=of_decide_eq_false c25
    refine vc_skip ?_
    refine vc_region hm ?_
    refine gM trivial (.inl rfl) rfl rfl rfl ?_
    refine gA trivial rfl rfl rfl rfl rfl rfl (by omega) ?_
    refine gM trivial (.inr rfl) rfl rfl rfl ?_
    refine rg_nil nofun ?_
    exact lp_nextT ⟨j + 1,(by omega),(szT_step p15 p25).2,rfl,rfl⟩ (by omega) (re_nil (ms:=[0,1]) (C:=999) rfl ⟨⟨⟨rfl,rfl⟩,rfl⟩,⟨⟨rfl,eqI (szT_step p15 p25).1.symm⟩,rfl⟩,⟨⟨rfl,rfl⟩,rfl⟩,trivial⟩ ⟨ktTab rfl rfl (.inr (.inl rfl)) id rfl rfl,ktIn rfl id rfl,trivial⟩ rfl rfl (rig_of rfl) rfl)
  ·skip
   have p15:=of_decide_eq_false c15
   refine vc_exit ?_
   refine vc_seq ?_
   refine vc_region hm ?_
   refine gM trivial (.inl rfl) rfl rfl rfl ?_
   refine gM trivial (.inr rfl) rfl rfl rfl ?_
   refine rg_nil nofun ?_
   refine vc_ret ?_
   exact ⟨idm,ends0 (.inr rfl) rfl (eqI (by first|exact (szT_3 p15 hj hl)|exact (szT_3 p15 hj hl).symm)) rfl rfl rfl⟩
theorem laws_eqHold_c {x y:Ho} (hr:x.r.length≤1048576) (hw:x.w.length≤1048576):FDoes Try.prog 42 [.agg #[.slice (some ⟨0,0,none⟩) x.r.length 0,.slice (some ⟨1,0,none⟩) x.w.length 0],.agg #[.slice (some ⟨2,0,none⟩) y.r.length 0,.slice (some ⟨3,0,none⟩) y.w.length 0]] (hp [(0,false,one ⟨rSp x.r,33,0⟩),(1,false,one ⟨rSp x.w,33,0⟩),(2,false,one ⟨rSp y.r,33,0⟩),(3,false,one ⟨rSp y.w,33,0⟩)]) { v:=.bool (decide (x=y)),rd:=[0,1,2,3] }:=by
 have hm:Try.prog.follows .mixedOrders=true:=by kernel_rfl
 have hd_:∀ x_ ∈ ([(0,false,one ⟨rSp x.r,33,0⟩),(1,false,one ⟨rSp x.w,33,0⟩),(2,false,one ⟨rSp y.r,33,0⟩),(3,false,one ⟨rSp y.w,33,0⟩)]:List (Nat × Bool × Fam)),∀ k_ y_,x_.2.2 k_=some y_→DetB (lt 4) y_:=by
  intro x_ hx k_ y_ e
  simp only [List.mem_cons,List.not_mem_nil,or_false] at hx
  rcases hx with rfl|rfl|rfl|rfl
  ·exact det_row (rSp_flat x.r) e
  ·exact det_row (rSp_flat x.w) e
  ·exact det_row (rSp_flat y.r) e
  ·exact det_row (rSp_flat y.w) e
 refine fn_exact (u0:=4) Try.func42 rfl rfl (gets rfl rfl rfl hd_ rfl) ?_
 clear hd_
 refine vc_seq ?_
 refine vc_region hm ?_
 refine gB (u':=5) trivial rfl rfl rfl rfl rfl rfl rfl rfl ?_
 refine gB (u':=6) trivial rfl rfl rfl rfl rfl rfl rfl rfl ?_
 refine gM trivial (.inr rfl) rfl rfl rfl ?_
 refine rg_nil nofun ?_
 refine vc_seq ?_
 refine vc_seq ?_
 refine vc_region hm ?_
 refine gF trivial rfl rfl rfl rfl rfl ?_
 refine gL trivial rfl rfl rfl rfl rfl rfl rfl rfl ?_
 refine gF trivial rfl rfl rfl rfl rfl ?_
 refine gL trivial rfl rfl rfl rfl rfl rfl rfl rfl ?_
 refine gC0 [0,2] (laws_eqSpanS_c (a:=x.r) (b:=y.r) hr) trivial rfl rfl rfl rfl ⟨rFlat (rSp_flat x.r) rfl (.inl rfl) rfl,rFlat (rSp_flat y.r) rfl (.inl rfl) rfl,trivial⟩ rfl rfl rfl rfl rfl ?_
 refine gN trivial rfl rfl rfl rfl ?_
 refine rg_nil nofun ?_
 refine cI rfl (fun c10=>?_) (fun c10=>?_)
 ·skip
  have n10:=unT c10
  refine vc_seq ?_
  refine vc_region hm ?_
  refine gM trivial (.inr rfl) rfl rfl rfl ?_
  refine rg_nil nofun ?_
  refine vc_ret ?_
  exact ⟨idm,ends0 (.inr rfl) rfl (eqB (ho_ne1 n10)) rfl rfl rfl⟩
 ·skip
  have n10:=unF c10
  refine vc_skip ?_
  refine vc_seq ?_
  refine vc_seq ?_
  refine vc_region hm ?_
  refine gF trivial rfl rfl rfl rfl rfl ?_
  refine gL trivial rfl rfl rfl rfl rfl rfl rfl rfl ?_
  refine gF trivial rfl rfl rfl rfl rfl ?_
  refine gL trivial rfl rfl rfl rfl rfl rfl rfl rfl ?_
  refine gC0 [1,3] (laws_eqSpanS_c (a:=x.w) (b:=y.w) hw) trivial rfl rfl rfl rfl ⟨rFlat (rSp_flat x.w) rfl (.inl rfl) rfl,rFlat (rSp_flat y.w) rfl (.inl rfl) rfl,trivial⟩ rfl rfl rfl rfl rfl ?_
  refine gN trivial rfl rfl rfl rfl ?_
  refine rg_nil nofun ?_
  refine cI rfl (fun c16=>?_) (fun c16=>?_)
  ·skip
   have n16:=unT c16
   refine vc_seq ?_
   refine vc_region hm ?_
   refine gM trivial (.inr rfl) rfl rfl rfl ?_
   refine rg_nil nofun ?_
   refine vc_ret ?_
   exact ⟨idm,ends0 (.inr rfl) rfl (eqB (ho_ne2 n16)) rfl rfl rfl⟩
  ·skip
   have n16:=unF c16
   refine vc_skip ?_
   refine vc_seq ?_
   refine vc_region hm ?_
   refine gM trivial (.inr rfl) rfl rfl rfl ?_
   refine rg_nil nofun ?_
   refine vc_ret ?_
   exact ⟨idm,ends0 (.inr rfl) rfl (eqB (ho_eq n10 n16)) rfl rfl rfl⟩
theorem laws_eqHoldS_c {A B:List Ho} (hT:A.length≤1048576) (hA:∀ h ∈ A,h.r.length≤1048576∧h.w.length≤1048576):FDoes Try.prog 15 [.slice (some ⟨0,0,none⟩) A.length 0,.slice (some ⟨2,0,none⟩) B.length 0] (hp [(0,false,one ⟨rHv (tabV 1 zo A),54,0⟩),(1,false,inF zo 33 0 A),(2,false,one ⟨rHv (tabV 3 zo B),54,0⟩),(3,false,inF zo 33 0 B)]) { v:=.bool (decide (A=B)),rd:=[0,1,2,3] }:=by
 have hm:Try.prog.follows .mixedOrders=true:=by kernel_rfl
 have hd_:∀ x_ ∈ ([(0,false,one ⟨rHv (tabV 1 zo A),54,0⟩),(1,false,inF zo 33 0 A),(2,false,one ⟨rHv (tabV 3 zo B),54,0⟩),(3,false,inF zo 33 0 B)]:List (Nat × Bool × Fam)),∀ k_ y_,x_.2.2 k_=some y_→DetB (lt 4) y_:=by
  intro x_ hx k_ y_ e
  simp only [List.mem_cons,List.not_mem_nil,or_false] at hx
  rcases hx with rfl|rfl|rfl|rfl
  ·exact det_tab (k0:=0) rfl e
  ·exact det_in e
  ·exact det_tab (k0:=0) rfl e
  ·exact det_in e
 refine fn_exact (u0:=4) Try.func15 rfl rfl (gets rfl rfl rfl hd_ rfl) ?_
 clear hd_
 refine vc_seq ?_
 refine vc_region hm ?_
 refine gM trivial (.inr rfl) rfl rfl rfl ?_
 refine rg_nil nofun ?_
 refine vc_seq ?_
 refine vc_seq ?_
 refine vc_region hm ?_
 refine gM trivial (.inl rfl) rfl rfl rfl ?_
 refine gK trivial rfl rfl rfl rfl rfl rfl tabV_nil ?_
 refine gM trivial (.inl rfl) rfl rfl rfl ?_
 refine gK trivial rfl rfl rfl rfl rfl rfl tabV_nil ?_
 refine gI trivial rfl rfl rfl rfl rfl rfl ?_
 refine rg_nil nofun ?_
 refine cI rfl (fun c10=>?_) (fun c10=>?_)
 ·skip
  have p10:=bne_iff_ne.1 c10
  refine vc_seq ?_
  refine vc_region hm ?_
  refine gM trivial (.inr rfl) rfl rfl rfl ?_
  refine rg_nil nofun ?_
  refine vc_ret ?_
  exact ⟨idm,ends0 (.inr rfl) rfl (eqB (decide_eq_false (len_ne p10))) rfl rfl rfl⟩
 ·skip
  have p10:=bne_eq_false_iff_eq.1 c10
  refine vc_skip ?_
  refine vc_seq ?_
  refine vc_seq ?_
  refine vc_region hm ?_
  refine gM trivial (.inr rfl) rfl rfl rfl ?_
  refine rg_nil nofun ?_
  refine vc_block ?_
  have hl:A.length=B.length:=by omega
  refine vc_loopT (fun n_ S_=>∃ (j:Nat),j≤A.length∧A.take j=B.take j∧n_=A.length - j∧S_=⟨4,[(0,.slice (some ⟨0,0,none⟩) A.length 0),(1,.slice (some ⟨2,0,none⟩) B.length 0),(5,.int .i64 j)],[(0,false,one ⟨rHv (tabV 1 zo A),54,0⟩),(1,false,inF zo 33 0 A),(2,false,one ⟨rHv (tabV 3 zo B),54,0⟩),(3,false,inF zo 33 0 B)]⟩) ⟨0,Nat.zero_le _,rfl,rfl,rfl⟩ (re_nil (ms:=[0,1,2,3]) (C:=999) rfl ⟨⟨⟨rfl,rfl⟩,rfl⟩,⟨⟨rfl,rfl⟩,rfl⟩,⟨⟨rfl,rfl⟩,rfl⟩,trivial⟩ ⟨ktTab (k:=0) rfl rfl (.inr (.inl rfl)) id rfl rfl,ktIn rfl id rfl,ktTab (k:=0) rfl rfl (.inr (.inl rfl)) id rfl rfl,ktIn rfl id rfl,trivial⟩ rfl rfl (rig_of rfl) rfl) ?_
  rintro n_ S_ ⟨j,hj,hk,rfl,rfl⟩
  refine vc_seq ?_
  refine vc_seq ?_
  refine vc_region hm ?_
  refine gM trivial (.inl rfl) rfl rfl rfl ?_
  refine gM trivial (.inl rfl) rfl rfl rfl ?_
  refine gK trivial rfl rfl rfl rfl rfl rfl tabV_nil ?_
  refine gI trivial rfl rfl rfl rfl rfl rfl ?_
  refine rg_nil nofun ?_
  refine cI rfl (fun c14=>?_) (fun c14=>?_)
  ·skip
   have p14:=of_decide_eq_true c14
   refine vc_skip ?_
   refine vc_seq ?_
   refine vc_block ?_
   refine vc_seq ?_
   refine vc_region hm ?_
   refine gM trivial (.inl rfl) rfl rfl rfl ?_
   refine gM trivial (.inl rfl) rfl rfl rfl ?_
   refine gX trivial rfl rfl rfl rfl rfl rfl rfl rfl (by omega) (by omega) tabV_ne ?_
   refine gL trivial rfl rfl rfl rfl rfl rfl rfl (aH (by omega) p14) ?_
   refine gM trivial (.inl rfl) rfl rfl rfl ?_
   refine gM trivial (.inl rfl) rfl rfl rfl ?_
   refine gX trivial rfl rfl rfl rfl rfl rfl rfl rfl (by omega) (by omega) tabV_ne ?_
   refine gL trivial rfl rfl rfl rfl rfl rfl rfl (aH (by omega) (by omega)) ?_
   refine gCT0 [nA (nm 1 (2 * ((j:Int)).toNat)),nA (nm 1 (2 * ((j:Int)).toNat + 1)),nA (nm 3 (2 * ((j:Int)).toNat)),nA (nm 3 (2 * ((j:Int)).toNat + 1))] [1,3] (laws_eqHold_c (x:=(at_ A (j:Int))) (y:=(at_ B (j:Int))) (hA _ (at_mem (by omega) p14)).1 (hA _ (at_mem (by omega) p14)).2) trivial rfl rfl rfl rfl rfl ⟨aRow rfl (rSp_flat _) rfl (inF_0 (by omega) p14) (.inl rfl) (.inl rfl) rfl,aRow rfl (rSp_flat _) rfl (inF_1 (by omega) p14) (.inl rfl) (.inl rfl) rfl,aRow rfl (rSp_flat _) rfl (inF_0 (by omega) (by omega)) (.inl rfl) (.inl rfl) rfl,aRow rfl (rSp_flat _) rfl (inF_1 (by omega) (by omega)) (.inl rfl) (.inl rfl) rfl,trivial⟩ rfl rfl rfl rfl ?_
   refine gN trivial rfl rfl rfl rfl ?_
   refine rg_nil (fun _=>by kernel_rfl) ?_
   refine cI rfl (fun c26=>?_) (fun c26=>?_)
   ·skip
    have n26:=unT c26
    refine vc_seq ?_
    refine vc_region hm ?_
    refine gM trivial (.inr rfl) rfl rfl rfl ?_
    refine rg_nil nofun ?_
    refine vc_ret ?_
    exact ⟨idm,ends0 (.inr rfl) rfl (eqB (decide_eq_false (at_ne (of_dF n26)))) rfl rfl rfl⟩
   ·skip
    have n26:=unF c26
    refine vc_skip ?_
    refine vc_region hm ?_
    refine gM trivial (.inl rfl) rfl rfl rfl ?_
    refine gA trivial rfl rfl rfl rfl rfl rfl (by omega) ?_
    refine gM trivial (.inr rfl) rfl rfl rfl ?_
    refine rg_nil nofun ?_
    have q26:=of_dT n26
    exact lp_nextT ⟨j + 1,(by omega),(take_step hk p14 hl q26),rfl,rfl⟩ (by omega) (re_nil (ms:=[0,1,2,3]) (C:=999) rfl ⟨⟨⟨rfl,rfl⟩,rfl⟩,⟨⟨rfl,rfl⟩,rfl⟩,⟨⟨rfl,rfl⟩,rfl⟩,trivial⟩ ⟨ktTab (k:=0) rfl rfl (.inr (.inl rfl)) id rfl rfl,ktIn rfl id rfl,ktTab (k:=0) rfl rfl (.inr (.inl rfl)) id rfl rfl,ktIn rfl id rfl,trivial⟩ rfl rfl (rig_of rfl) rfl)
  ·skip
   have p14:=of_decide_eq_false c14
   refine vc_exit ?_
   refine vc_seq ?_
   refine vc_region hm ?_
   refine gM trivial (.inr rfl) rfl rfl rfl ?_
   refine rg_nil nofun ?_
   refine vc_ret ?_
   exact ⟨idm,ends0 (.inr rfl) rfl (eqB (decide_eq_true (take_all hk p14 hl))) rfl rfl rfl⟩
end Go.Proofs.Ytcdhnaojdhdehaa.A
namespace Go.Proofs.Ytcdhnaojdhdehaa.A
open Go Go.RowKit
def mxI (a b:Int):Int:=if a > b then a else b
def mnI (a b:Int):Int:=if a<b then a else b
def metB (a b:Sp):Bool:=!decide (mxI a.lo b.lo ≥ mnI a.hi b.hi)
def metS (a b:Sp):Sp:=if mxI a.lo b.lo ≥ mnI a.hi b.hi then ⟨0,0⟩ else ⟨mxI a.lo b.lo,mnI a.hi b.hi⟩
def clearL (a b:List Sp):Bool:=!(a.any fun x=>b.any fun y=>metB x y)
def rAt (T:List Ho) (i:Nat):List Sp:=(at_ T (i:Int)).r
def wAt (T:List Ho) (i:Nat):List Sp:=(at_ T (i:Int)).w
def holdOk (T:List Ho) (i:Nat):Bool:=spansOk (rAt T i) && (spansOk (wAt T i) && clearL (rAt T i) (wAt T i))
def pairOk (T:List Ho) (i k:Nat):Bool:=decide (k=i) || (clearL (wAt T i) (wAt T k) && clearL (wAt T i) (rAt T k))
def stepS (T:List Ho) (i:Nat):Bool:=holdOk T i && (List.range T.length).all (pairOk T i)
def lockOk (T:List Ho):Bool:=decide (T.length=3) && (List.range T.length).all (stepS T)
def noP:Nat→Bool:=fun _=>false
def anyP (T:List Ho) (j:Nat) (x:Nat):Bool:=(T.take j).any fun h=>ofP h.w x || ofP h.r x
def wrP (T:List Ho) (j:Nat) (x:Nat):Bool:=(T.take j).any fun h=>ofP h.w x
def stepI (T:List Ho) (j:Nat):Bool:=spansOk (rAt T j) && (spansOk (wAt T j) && (eqP (fun i=>ofP (rAt T j) i && ofP (wAt T j) i) noP && (eqP (fun i=>ofP (wAt T j) i && anyP T j i) noP && eqP (fun i=>ofP (rAt T j) i && wrP T j i) noP)))
def lockOkI (T:List Ho):Bool:=decide (T.length=3) && (List.range T.length).all (stepI T)
def Dis (a b:List Sp):Prop:=∀ x,x<48→ofP a x=true→ofP b x=true→False
theorem Dis.symm {a b:List Sp} (h:Dis a b):Dis b a:=fun x hx ha hb=>h x hx hb ha
theorem inSp_iff {s:Sp} {x:Nat}:inSp s x=true↔s.lo≤(x:Int)∧(x:Int)<s.hi:=by simp [inSp]
theorem ofP_iff {l:List Sp} {x:Nat}:ofP l x=true↔∃ s ∈ l,s.lo≤(x:Int)∧(x:Int)<s.hi:=by
 unfold ofP
 rw [List.any_eq_true]
 simp only [inSp_iff]
theorem mx_le {a b c:Int}:mxI a b≤c↔a≤c∧b≤c:=by unfold mxI;split <;> omega
theorem lt_mn {a b c:Int}:c<mnI a b↔c<a∧c<b:=by unfold mnI;split <;> omega
theorem metB_iff {a b:Sp}:metB a b=true↔mxI a.lo b.lo<mnI a.hi b.hi:=by simp [metB]
theorem clear_iff {a b:List Sp} (ha:spansOk a=true) (hb:spansOk b=true):clearL a b=true↔Dis a b:=by
 unfold clearL Dis
 simp only [Bool.not_eq_true',List.any_eq_false,List.any_eq_true,metB_iff,not_exists,not_and]
 constructor
 ·intro h x hx h1 h2
  obtain ⟨s,hs,s1,s2⟩:=ofP_iff.1 h1
  obtain ⟨t,ht,t1,t2⟩:=ofP_iff.1 h2
  exact h s hs t ht (Int.lt_of_le_of_lt (mx_le.2 ⟨s1,t1⟩) (lt_mn.2 ⟨s2,t2⟩))
 ·intro h s hs t ht hlt
  have k1:=spanOk_in (spansOk_at ha s hs)
  have k2:=spanOk_in (spansOk_at hb t ht)
  have e:mxI s.lo t.lo≤mxI s.lo t.lo:=Int.le_refl _
  obtain ⟨e1,e2⟩:=mx_le.1 e
  obtain ⟨e3,e4⟩:=lt_mn.1 hlt
  have hx:((mxI s.lo t.lo).toNat:Int)=mxI s.lo t.lo:=by omega
  exact h (mxI s.lo t.lo).toNat (by omega) (ofP_iff.2 ⟨s,hs,by omega,by omega⟩) (ofP_iff.2 ⟨t,ht,by omega,by omega⟩)
theorem eqP_no {f g:Nat→Bool}:eqP (fun i=>f i && g i) noP=true↔∀ x,x<48→f x=true→g x=true→False:=by
 unfold eqP
 simp only [List.all_eq_true,List.mem_range,beq_iff_eq,noP,Bool.and_eq_false_iff]
 constructor
 ·intro h x hx h1 h2
  rcases h x hx with e|e
  ·rw [h1] at e;cases e
  ·rw [h2] at e;cases e
 ·intro h x hx
  cases h1:f x with
  | false=>exact .inl rfl
  | true =>
   cases h2:g x with
   | false=>exact .inr rfl
   | true=>exact (h x hx h1 h2).elim
theorem any_take_iff {T:List Ho} {j:Nat} (hj:j≤T.length) {p:Ho→Bool}:(T.take j).any p=true↔∃ k,k<j∧p (at_ T (k:Int))=true:=by
 rw [List.any_eq_true]
 constructor
 ·rintro ⟨h,hm,hp⟩
  obtain ⟨k,hk,rfl⟩:=List.getElem_of_mem hm
  rw [List.length_take] at hk
  refine ⟨k,by omega,?_⟩
  rw [← at_get (xs:=T) (i:=k) (by omega)]
  simpa using hp
 ·rintro ⟨k,hk,hp⟩
  refine ⟨at_ T (k:Int),?_,hp⟩
  rw [← at_get (xs:=T) (i:=k) (by omega)]
  exact List.mem_iff_getElem.2 ⟨k,by rw [List.length_take];omega,by simp⟩
theorem stepI_iff {T:List Ho} {j:Nat} (hj:j<T.length):stepI T j=true↔spansOk (rAt T j)=true∧spansOk (wAt T j)=true∧Dis (rAt T j) (wAt T j)∧∀ k,k<j→Dis (wAt T j) (wAt T k)∧Dis (wAt T j) (rAt T k)∧Dis (rAt T j) (wAt T k):=by
 unfold stepI
 simp only [Bool.and_eq_true,eqP_no]
 constructor
 ·rintro ⟨h1,h2,h3,h4,h5⟩
  refine ⟨h1,h2,h3,fun k hk=>⟨fun x hx a b=>h4 x hx a ?_,fun x hx a b=>h4 x hx a ?_,fun x hx a b=>h5 x hx a ?_⟩⟩
  ·exact (any_take_iff (Nat.le_of_lt hj)).2 ⟨k,hk,by rw [show ofP (at_ T (k:Int)).w x=true from b];rfl⟩
  ·exact (any_take_iff (Nat.le_of_lt hj)).2 ⟨k,hk,by rw [show ofP (at_ T (k:Int)).r x=true from b,Bool.or_true]⟩
  ·exact (any_take_iff (Nat.le_of_lt hj)).2 ⟨k,hk,b⟩
 ·rintro ⟨h1,h2,h3,h4⟩
  refine ⟨h1,h2,h3,fun x hx a b=>?_,fun x hx a b=>?_⟩
  ·obtain ⟨k,hk,hp⟩:=(any_take_iff (Nat.le_of_lt hj)).1 b
   rw [Bool.or_eq_true] at hp
   rcases hp with hp|hp
   ·exact (h4 k hk).1 x hx a hp
   ·exact (h4 k hk).2.1 x hx a hp
  ·obtain ⟨k,hk,hp⟩:=(any_take_iff (Nat.le_of_lt hj)).1 b
   exact (h4 k hk).2.2 x hx a hp
theorem lockOk_eq (T:List Ho):lockOkI T=lockOk T:=by
 rw [Bool.eq_iff_iff]
 unfold lockOkI lockOk
 simp only [Bool.and_eq_true,decide_eq_true_eq,List.all_eq_true,List.mem_range]
 refine and_congr_right fun hl=>?_
 constructor
 ·intro h i hi
  have hs:∀ k,k<T.length→spansOk (rAt T k)=true∧spansOk (wAt T k)=true:=fun k hk=>⟨((stepI_iff hk).1 (h k hk)).1,((stepI_iff hk).1 (h k hk)).2.1⟩
  have hi':=(stepI_iff hi).1 (h i hi)
  unfold stepS holdOk
  simp only [Bool.and_eq_true,List.all_eq_true,List.mem_range]
  refine ⟨⟨hi'.1,hi'.2.1,(clear_iff hi'.1 hi'.2.1).2 hi'.2.2.1⟩,fun k hk=>?_⟩
  unfold pairOk
  rcases Nat.lt_trichotomy k i with hlt|rfl|hlt
  ·rw [(clear_iff hi'.2.1 (hs k hk).2).2 (hi'.2.2.2 k hlt).1,(clear_iff hi'.2.1 (hs k hk).1).2 (hi'.2.2.2 k hlt).2.1]
   simp
  ·simp
  ·have hk':=((stepI_iff hk).1 (h k hk)).2.2.2 i hlt
   rw [(clear_iff hi'.2.1 (hs k hk).2).2 hk'.1.symm,(clear_iff hi'.2.1 (hs k hk).1).2 hk'.2.2.symm]
   simp
 ·intro h j hj
  have hS:∀ k,k<T.length→spansOk (rAt T k)=true∧spansOk (wAt T k)=true∧clearL (rAt T k) (wAt T k)=true∧∀ i,i<T.length→i ≠ k→clearL (wAt T k) (wAt T i)=true∧clearL (wAt T k) (rAt T i)=true:=fun k hk=>by
   have:=h k hk
   unfold stepS holdOk pairOk at this
   simp only [Bool.and_eq_true,List.all_eq_true,List.mem_range,Bool.or_eq_true,decide_eq_true_eq] at this
   exact ⟨this.1.1,this.1.2.1,this.1.2.2,fun i hi hne=>(this.2 i hi).resolve_left hne⟩
  obtain ⟨a1,a2,a3,a4⟩:=hS j hj
  refine (stepI_iff hj).2 ⟨a1,a2,(clear_iff a1 a2).1 a3,fun k hk=>?_⟩
  have hk':k<T.length:=by omega
  obtain ⟨b1,b2,_,b4⟩:=hS k hk'
  exact ⟨(clear_iff a2 b2).1 (a4 k hk' (by omega)).1,(clear_iff a2 b1).1 (a4 k hk' (by omega)).2,((clear_iff b2 a1).1 (b4 j hj (by omega)).2).symm⟩
theorem stepI_1 {T:List Ho} {j:Nat} (h:spansOk (at_ T (j:Int)).r=false):stepI T j=false:=and_false_l h
theorem stepI_2 {T:List Ho} {j:Nat} (h:spansOk (at_ T (j:Int)).w=false):stepI T j=false:=and_false_r (and_false_l h)
theorem stepI_3 {T:List Ho} {j:Nat} (h:eqP (fun i=>ofP (at_ T (j:Int)).r i && ofP (at_ T (j:Int)).w i) noP=false):stepI T j=false:=and_false_r (and_false_r (and_false_l h))
theorem stepI_4 {T:List Ho} {j:Nat} (h:eqP (fun i=>ofP (at_ T (j:Int)).w i && anyP T j i) noP=false):stepI T j=false:=and_false_r (and_false_r (and_false_r (and_false_l h)))
theorem stepI_5 {T:List Ho} {j:Nat} (h:eqP (fun i=>ofP (at_ T (j:Int)).r i && wrP T j i) noP=false):stepI T j=false:=and_false_r (and_false_r (and_false_r (and_false_r h)))
theorem stepI_6 {T:List Ho} {j:Nat} (h1:spansOk (at_ T (j:Int)).r=true) (h2:spansOk (at_ T (j:Int)).w=true) (h3:eqP (fun i=>ofP (at_ T (j:Int)).r i && ofP (at_ T (j:Int)).w i) noP=true) (h4:eqP (fun i=>ofP (at_ T (j:Int)).w i && anyP T j i) noP=true) (h5:eqP (fun i=>ofP (at_ T (j:Int)).r i && wrP T j i) noP=true):stepI T j=true:=and_true h1 (and_true h2 (and_true h3 (and_true h4 h5)))
theorem ok_len3 {T:List Ho} (h:(T.length:Int) ≠ 3):lockOk T=false:=and_false_l (decide_eq_false (by omega))
theorem okI_at {T:List Ho} {j:Nat} (hj:(j:Int)<T.length) (h:stepI T j=false):lockOk T=false:=by rw [← lockOk_eq];exact and_false_r (all_range_false (by omega) h)
theorem okI_all {T:List Ho} {j:Nat} (hl:(T.length:Int)=3) (hj:j≤T.length) (h:¬ (j:Int)<T.length) (ha:(List.range j).all (stepI T)=true):lockOk T=true:=by rw [← lockOk_eq];exact and_true (decide_eq_true (by omega)) (all_all hj h ha)
theorem any_0 {T:List Ho}:plL noP=plL (anyP T 0):=plL_congr fun _ _=>rfl
theorem wr_0 {T:List Ho}:plL noP=plL (wrP T 0):=plL_congr fun _ _=>rfl
theorem any_next {T:List Ho} {j:Nat} (hj:(j:Int)<T.length):plL (putP (putP (anyP T j) (ofP (at_ T (j:Int)).w) true) (ofP (at_ T (j:Int)).r) true)=plL (anyP T (j + 1)):=plL_congr fun x _=>by
 show (if ofP (at_ T (j:Int)).r x=true then true else if ofP (at_ T (j:Int)).w x=true then true else (T.take j).any fun h=>ofP h.w x || ofP h.r x)=(T.take (j + 1)).any fun h=>ofP h.w x || ofP h.r x
 rw [any_take (by omega)]
 generalize (T.take j).any (fun h=>ofP h.w x || ofP h.r x)=A
 cases A <;> cases ofP (at_ T (j:Int)).w x <;> cases ofP (at_ T (j:Int)).r x <;> rfl
theorem wr_next {T:List Ho} {j:Nat} (hj:(j:Int)<T.length):plL (putP (wrP T j) (ofP (at_ T (j:Int)).w) true)=plL (wrP T (j + 1)):=plL_congr fun x _=>by
 show (if ofP (at_ T (j:Int)).w x=true then true else (T.take j).any fun h=>ofP h.w x)=(T.take (j + 1)).any fun h=>ofP h.w x
 rw [any_take (by omega)]
 generalize (T.take j).any (fun h=>ofP h.w x)=A
 cases A <;> cases ofP (at_ T (j:Int)).w x <;> rfl
theorem met_F {a b:Sp} (h:mxI a.lo b.lo ≥ mnI a.hi b.hi):Value.tuple #[vSp ⟨0,0⟩,.bool false] = .tuple #[vSp (metS a b),.bool (metB a b)]:=by unfold metS metB;rw [if_pos h,decide_eq_true h];rfl
theorem met_T {a b:Sp} (h:¬ mxI a.lo b.lo ≥ mnI a.hi b.hi):Value.tuple #[vSp ⟨mxI a.lo b.lo,mnI a.hi b.hi⟩,.bool true] = .tuple #[vSp (metS a b),.bool (metB a b)]:=by unfold metS metB;rw [if_neg h,decide_eq_false h];rfl
theorem clr_in {a b:List Sp} {i k:Nat} (hi:(i:Int)<a.length) (hk:(k:Int)<b.length) (h:metB (at_ a (i:Int)) (at_ b (k:Int))=true):clearL a b=false:=by
 unfold clearL
 rw [List.any_eq_true.2 ⟨_,at_mem (by omega) hi,List.any_eq_true.2 ⟨_,at_mem (by omega) hk,h⟩⟩]
 rfl
theorem clr_row {a b:List Sp} {i k:Nat} (hk:k≤b.length) (h:¬ (k:Int)<b.length) (hb:(b.take k).any (metB (at_ a (i:Int)))=false):b.any (metB (at_ a (i:Int)))=false:=any_all hk h hb
theorem clr_end {a b:List Sp} {i:Nat} (hi:i≤a.length) (h:¬ (i:Int)<a.length) (ha:(a.take i).any (fun x=>b.any fun y=>metB x y)=false):clearL a b=true:=by
 unfold clearL
 rw [any_all hi h ha]
 rfl
theorem stepS_1 {T:List Ho} {i:Nat} (h:spansOk (at_ T (i:Int)).r=false):stepS T i=false:=and_false_l (and_false_l h)
theorem stepS_2 {T:List Ho} {i:Nat} (h:spansOk (at_ T (i:Int)).w=false):stepS T i=false:=and_false_l (and_false_r (and_false_l h))
theorem stepS_3 {T:List Ho} {i:Nat} (h:clearL (at_ T (i:Int)).r (at_ T (i:Int)).w=false):stepS T i=false:=and_false_l (and_false_r (and_false_r h))
theorem stepS_4 {T:List Ho} {i k:Nat} (hk:(k:Int)<T.length) (hne:(k:Int) ≠ i) (h:clearL (at_ T (i:Int)).w (at_ T (k:Int)).w=false):stepS T i=false:=and_false_r (all_range_false (j:=k) (by omega) (by unfold pairOk;rw [decide_eq_false (by omega)];exact and_false_l h))
theorem stepS_5 {T:List Ho} {i k:Nat} (hk:(k:Int)<T.length) (hne:(k:Int) ≠ i) (h:clearL (at_ T (i:Int)).w (at_ T (k:Int)).r=false):stepS T i=false:=and_false_r (all_range_false (j:=k) (by omega) (by unfold pairOk;rw [decide_eq_false (by omega)];exact and_false_r h))
theorem pair_eq {T:List Ho} {i k:Nat} (h:(k:Int)=i):pairOk T i k=true:=by unfold pairOk;rw [decide_eq_true (by omega)];rfl
theorem pair_ne {T:List Ho} {i k:Nat} (h1:clearL (at_ T (i:Int)).w (at_ T (k:Int)).w=true) (h2:clearL (at_ T (i:Int)).w (at_ T (k:Int)).r=true):pairOk T i k=true:=by
 unfold pairOk wAt rAt
 rw [h1,h2]
 simp
theorem stepS_6 {T:List Ho} {i k:Nat} (h1:spansOk (at_ T (i:Int)).r=true) (h2:spansOk (at_ T (i:Int)).w=true) (h3:clearL (at_ T (i:Int)).r (at_ T (i:Int)).w=true) (hk:k≤T.length) (h:¬ (k:Int)<T.length) (ha:(List.range k).all (pairOk T i)=true):stepS T i=true:=and_true (and_true h1 (and_true h2 h3)) (all_all hk h ha)
theorem okS_at {T:List Ho} {j:Nat} (hj:(j:Int)<T.length) (h:stepS T j=false):lockOk T=false:=and_false_r (all_range_false (by omega) h)
theorem okS_all {T:List Ho} {j:Nat} (hl:(T.length:Int)=3) (hj:j≤T.length) (h:¬ (j:Int)<T.length) (ha:(List.range j).all (stepS T)=true):lockOk T=true:=and_true (decide_eq_true (by omega)) (all_all hj h ha)
theorem ok_3 {T:List Ho} (h:lockOk T=true):T.length=3:=by
 unfold lockOk at h
 rw [Bool.and_eq_true] at h
 exact of_decide_eq_true h.1
theorem ok_at {T:List Ho} (h:lockOk T=true) {i:Nat} (hi:i<T.length):spansOk (at_ T (i:Int)).r=true∧spansOk (at_ T (i:Int)).w=true∧Dis (at_ T (i:Int)).r (at_ T (i:Int)).w:=by
 rw [← lockOk_eq] at h
 unfold lockOkI at h
 rw [Bool.and_eq_true,List.all_eq_true] at h
 have:=(stepI_iff hi).1 (h.2 i (List.mem_range.2 hi))
 exact ⟨this.1,this.2.1,this.2.2.1⟩

def whoOk (who:Int):Bool:=decide (0≤who∧who<3)
theorem whoOk_in {who:Int} (h:whoOk who=true):0≤who∧who<3:=by unfold whoOk at h;exact of_decide_eq_true h
def mayAt (h:Ho) (write:Bool) (i:Int):Bool:=l1In h.w i || (!write && l1In h.r i)
def mayH (h:Ho) (write:Bool) (s:Sp):Bool:=(List.range 48).all fun i=>!inSp s i || mayAt h write (i:Int)
def lockMay (T:List Ho) (who:Int) (write:Bool) (s:Sp):Bool:=lockOk T && (whoOk who && (spanOk s && mayH (at_ T who) write s))
theorem may_1 {h:Ho} {b:Bool} {s:Sp} {i:Int} (h0:0≤i) (h1:s.lo≤i) (h2:i<s.hi) (h3:i<48) (hm:mayAt h b i=false):mayH h b s=false:=all_range_false (j:=i.toNat) (by omega) (by rw [inSp_of (by omega) (by omega),show ((i.toNat:Nat):Int)=i by omega,hm];rfl)
theorem may_2 {h:Ho} {b:Bool} {s:Sp} {i:Int} (hm:∀ x:Nat,s.lo≤(x:Int)→(x:Int)<i→mayAt h b (x:Int)=true) (hi:¬ i<s.hi):mayH h b s=true:=by
 unfold mayH
 rw [List.all_eq_true]
 intro x _
 by_cases hx:s.lo≤(x:Int)∧(x:Int)<s.hi
 ·rw [hm x hx.1 (by omega),Bool.or_true]
 ·rw [inSp_no hx];rfl
theorem may_next {h:Ho} {b:Bool} {s:Sp} {i:Int} (hm:∀ x:Nat,s.lo≤(x:Int)→(x:Int)<i→mayAt h b (x:Int)=true) (hi:mayAt h b i=true):∀ x:Nat,s.lo≤(x:Int)→(x:Int)<i + 1→mayAt h b (x:Int)=true:=fun x h0 h1=>by
 by_cases e:(x:Int)=i
 ·rw [e];exact hi
 ·exact hm x h0 (by omega)
theorem mayAt_w {h:Ho} {b:Bool} {i:Int} (hw:l1In h.w i=true):mayAt h b i=true:=by unfold mayAt;rw [hw];rfl
theorem mayAt_r {h:Ho} {b:Bool} {i:Int} (hb:b=false) (hr:l1In h.r i=true):mayAt h b i=true:=by unfold mayAt;rw [hb,hr,Bool.not_false,Bool.and_self,Bool.or_true]
theorem mayAt_n1 {h:Ho} {b:Bool} {i:Int} (hw:l1In h.w i=false) (hb:b=true):mayAt h b i=false:=by unfold mayAt;rw [hw,hb];rfl
theorem mayAt_n2 {h:Ho} {b:Bool} {i:Int} (hw:l1In h.w i=false) (hr:l1In h.r i=false):mayAt h b i=false:=by unfold mayAt;rw [hw,hr,Bool.and_false];rfl
def mayP (h:Ho) (write:Bool):Nat→Bool:=if write=true then ofP h.w else putP (ofP h.w) (ofP h.r) true
theorem may_eqP {h:Ho} {write:Bool} {s:Sp}:eqP (fun i=>mayP h write i && ofP [s] i) (ofP [s])=mayH h write s:=by
 unfold eqP mayH
 congr 1
 funext i
 have e1:ofP [s] i=inSp s i:=by simp [ofP]
 show ((mayP h write i && ofP [s] i) == ofP [s] i)=_
 have e2:mayP h write i=mayAt h write (i:Int):=by
  unfold mayP mayAt putP
  cases write with
  | true=>rw [if_pos rfl,ofP_in];simp
  | false =>
   rw [if_neg (by decide)]
   simp only [ofP_in]
   cases l1In h.w (i:Int) <;> cases l1In h.r (i:Int) <;> rfl
 rw [e1,e2]
 cases inSp s i <;> cases mayAt h write (i:Int) <;> rfl
theorem may_eqT {h:Ho} {write:Bool} {s:Sp} (hw:write=true):eqP (fun i=>ofP h.w i && ofP [s] i) (ofP [s])=mayH h write s:=by
 rw [← may_eqP];unfold mayP;rw [if_pos hw]
theorem may_eqF {h:Ho} {write:Bool} {s:Sp} (hw:write=false):eqP (fun i=>putP (ofP h.w) (ofP h.r) true i && ofP [s] i) (ofP [s])=mayH h write s:=by
 rw [← may_eqP];unfold mayP;rw [if_neg (by rw [hw];decide)]
theorem lm_1 {T:List Ho} {who:Int} {write:Bool} {s:Sp} (h:lockOk T=false):lockMay T who write s=false:=and_false_l h
theorem lm_2 {T:List Ho} {who:Int} {write:Bool} {s:Sp} (h:whoOk who=false):lockMay T who write s=false:=and_false_r (and_false_l h)
theorem lm_3 {T:List Ho} {who:Int} {write:Bool} {s:Sp} (h:spanOk s=false):lockMay T who write s=false:=and_false_r (and_false_r (and_false_l h))
theorem lm_4 {T:List Ho} {who:Int} {write:Bool} {s:Sp} (h1:lockOk T=true) (h2:whoOk who=true) (h3:spanOk s=true):lockMay T who write s=mayH (at_ T who) write s:=by unfold lockMay;rw [h1,h2,h3];rfl
theorem okW {T:List Ho} {who:Int} (h:lockOk T=true) (hw:whoOk who=true):spansOk (at_ T who).r=true∧spansOk (at_ T who).w=true:=by
 have h1:=whoOk_in hw
 have h2:=ok_3 h
 have:=ok_at h (i:=who.toNat) (by omega)
 rw [show ((who.toNat:Nat):Int)=who by omega] at this
 exact ⟨this.1,this.2.1⟩
theorem spansOk_one {s:Sp} (h:spanOk s=true):spansOk [s]=true:=by
 unfold spansOk
 simp [spansAt,at_,h]
theorem inB_one' {s:Sp} (h:spanOk s=true):inB [s]:=inB_of (spansOk_one h)
end Go.Proofs.Ytcdhnaojdhdehaa.A
namespace Go.Proofs.Ytcdhnaojdhdehaa.A
open Go Go.RowKit
set_option maxHeartbeats 4000000
theorem spec_l4Who_c (who:Int):FDoes Try.prog 49 [.int .i64 who] (hp []) { v:=.bool (whoOk who) }:=by
 have hm:Try.prog.follows .mixedOrders=true:=by kernel_rfl
 have hd_:∀ x ∈ ([]:List (Nat × Bool × Fam)),∀ k y,x.2.2 k=some y→DetB (lt 0) y:=fun x_ hx=>(by cases hx)
 refine fn_exact (u0:=0) Try.func49 rfl rfl (gets rfl rfl rfl hd_ rfl) ?_
 clear hd_
 refine vc_seq ?_
 refine vc_region hm ?_
 refine gM trivial (.inr rfl) rfl rfl rfl ?_
 refine rg_nil nofun ?_
 refine vc_seq ?_
 refine vc_region hm ?_
 refine gM trivial (.inl rfl) rfl rfl rfl ?_
 refine gI trivial rfl rfl rfl rfl rfl rfl ?_
 refine gM trivial (.inl rfl) rfl rfl rfl ?_
 refine gI2 (d:=5) rfl (fun c5=>?_) (fun c5=>?_)
 ·skip
  have p5:=of_decide_eq_true c5
  refine gM ⟨_,_,rfl,rfl,c5⟩ (.inl rfl) rfl rfl rfl ?_
  refine gI ⟨_,_,rfl,rfl,c5⟩ rfl rfl rfl rfl rfl rfl ?_
  refine gPT trivial rfl rfl c5 rfl rfl rfl ?_
  refine gM trivial (.inr rfl) rfl rfl rfl ?_
  refine rg_nil nofun ?_
  refine vc_ret ?_
  exact ⟨idm,ends0 (.inr rfl) rfl (eqB (by unfold whoOk;first|exact decide_eq_true (by omega)|exact decide_eq_false (by omega)|exact decide_eq_decide.2 (by omega))) rfl rfl rfl⟩
 ·skip
  have p5:=of_decide_eq_false c5
  refine gO ⟨_,_,rfl,rfl,c5⟩ rfl rfl ?_
  refine gO ⟨_,_,rfl,rfl,c5⟩ rfl rfl ?_
  refine gPF trivial rfl rfl c5 rfl rfl rfl ?_
  refine gM trivial (.inr rfl) rfl rfl rfl ?_
  refine rg_nil nofun ?_
  refine vc_ret ?_
  exact ⟨idm,ends0 (.inr rfl) rfl (eqB (by unfold whoOk;first|exact decide_eq_true (by omega)|exact decide_eq_false (by omega)|exact decide_eq_decide.2 (by omega))) rfl rfl rfl⟩
theorem client_c (who:Int):FDoes Try.prog 52 [.int .i64 who] (hp []) { v:=.bool (whoOk who) }:=by
 have hm:Try.prog.follows .mixedOrders=true:=by kernel_rfl
 have hd_:∀ x ∈ ([]:List (Nat × Bool × Fam)),∀ k y,x.2.2 k=some y→DetB (lt 0) y:=fun x_ hx=>(by cases hx)
 refine fn_exact (u0:=0) Try.func52 rfl rfl (gets rfl rfl rfl hd_ rfl) ?_
 clear hd_
 refine vc_seq ?_
 refine vc_region hm ?_
 refine gM trivial (.inr rfl) rfl rfl rfl ?_
 refine rg_nil nofun ?_
 refine vc_seq ?_
 refine vc_region hm ?_
 refine gM trivial (.inl rfl) rfl rfl rfl ?_
 refine gI trivial rfl rfl rfl rfl rfl rfl ?_
 refine gM trivial (.inl rfl) rfl rfl rfl ?_
 refine gI2 (d:=5) rfl (fun c5=>?_) (fun c5=>?_)
 ·skip
  have p5:=of_decide_eq_true c5
  refine gM ⟨_,_,rfl,rfl,c5⟩ (.inl rfl) rfl rfl rfl ?_
  refine gI ⟨_,_,rfl,rfl,c5⟩ rfl rfl rfl rfl rfl rfl ?_
  refine gPT trivial rfl rfl c5 rfl rfl rfl ?_
  refine gM trivial (.inr rfl) rfl rfl rfl ?_
  refine rg_nil nofun ?_
  refine vc_ret ?_
  exact ⟨idm,ends0 (.inr rfl) rfl (eqB (by unfold whoOk;first|exact decide_eq_true (by omega)|exact decide_eq_false (by omega)|exact decide_eq_decide.2 (by omega))) rfl rfl rfl⟩
 ·skip
  have p5:=of_decide_eq_false c5
  refine gO ⟨_,_,rfl,rfl,c5⟩ rfl rfl ?_
  refine gO ⟨_,_,rfl,rfl,c5⟩ rfl rfl ?_
  refine gPF trivial rfl rfl c5 rfl rfl rfl ?_
  refine gM trivial (.inr rfl) rfl rfl rfl ?_
  refine rg_nil nofun ?_
  refine vc_ret ?_
  exact ⟨idm,ends0 (.inr rfl) rfl (eqB (by unfold whoOk;first|exact decide_eq_true (by omega)|exact decide_eq_false (by omega)|exact decide_eq_decide.2 (by omega))) rfl rfl rfl⟩
theorem spec_l4May_c {h:Ho} {write:Bool} {s:Sp} (hr:h.r.length≤1048576) (hw:h.w.length≤1048576) (h0:0≤s.lo∧s.lo<s.hi∧s.hi≤48):FDoes Try.prog 51 [.agg #[.slice (some ⟨0,0,none⟩) h.r.length 0,.slice (some ⟨1,0,none⟩) h.w.length 0],.bool write,vSp s] (hp [(0,false,one ⟨rSp h.r,33,0⟩),(1,false,one ⟨rSp h.w,33,0⟩)]) { v:=.bool (mayH h write s),rd:=[0,1] }:=by
 have hm:Try.prog.follows .mixedOrders=true:=by kernel_rfl
 have hd_:∀ x_ ∈ ([(0,false,one ⟨rSp h.r,33,0⟩),(1,false,one ⟨rSp h.w,33,0⟩)]:List (Nat × Bool × Fam)),∀ k_ y_,x_.2.2 k_=some y_→DetB (lt 2) y_:=by
  intro x_ hx k_ y_ e
  simp only [List.mem_cons,List.not_mem_nil,or_false] at hx
  rcases hx with rfl|rfl
  ·exact det_row (rSp_flat h.r) e
  ·exact det_row (rSp_flat h.w) e
 refine fn_exact (u0:=2) Try.func51 rfl rfl (gets rfl rfl rfl hd_ rfl) ?_
 clear hd_
 refine vc_seq ?_
 refine vc_region hm ?_
 refine gB (u':=3) trivial rfl rfl rfl rfl rfl rfl rfl rfl ?_
 refine gB (u':=4) trivial rfl rfl rfl rfl rfl rfl rfl rfl ?_
 refine gM trivial (.inr rfl) rfl rfl rfl ?_
 refine rg_nil nofun ?_
 refine vc_seq ?_
 refine vc_seq ?_
 refine vc_region hm ?_
 refine gF trivial rfl rfl rfl rfl rfl ?_
 refine gL trivial rfl rfl rfl rfl rfl rfl rfl rfl ?_
 refine gM trivial (.inr rfl) rfl rfl rfl ?_
 refine rg_nil nofun ?_
 refine vc_block ?_
 refine vc_loop' (fun n_ S_=>∃ (i:Int),s.lo≤i∧i≤s.hi∧(∀ x:Nat,s.lo≤(x:Int)→(x:Int)<i→mayAt h write (x:Int)=true)∧n_=(s.hi - i).toNat∧S_=⟨4,[(1,.bool write),(3,.pointer (some ⟨2,0,none⟩)),(5,.pointer (some ⟨3,0,none⟩)),(7,.int .i64 i)],[(0,false,one ⟨rSp h.r,33,0⟩),(1,false,one ⟨rSp h.w,33,0⟩),(2,true,one ⟨[.slice (some ⟨0,0,none⟩) h.r.length 0,.slice (some ⟨1,0,none⟩) h.w.length 0],54,2⟩),(3,true,one ⟨[.int .i64 s.lo,.int .i64 s.hi],33,2⟩)]⟩) (m0:=idm) ⟨s.lo,Int.le_refl _,(by omega),(fun x h0 h1=>absurd h1 (by omega)),rfl,rfl⟩ (le_mk rfl ⟨⟨rfl,rfl⟩,⟨rfl,rfl⟩,⟨rfl,rfl⟩,⟨rfl,rfl⟩,trivial⟩ ⟨kFlat (rSp_flat _) rfl id rfl,kFlat (rSp_flat _) rfl id rfl,kCells rfl rfl id rfl,kCells rfl rfl id rfl,trivial⟩ rfl (fun _ _=>rfl)) ?_
 rintro n_ S_ ⟨i,hi,hj,ha,rfl,rfl⟩
 refine vc_seq ?_
 refine vc_seq ?_
 refine vc_region hm ?_
 refine gM trivial (.inl rfl) rfl rfl rfl ?_
 refine gF trivial rfl rfl rfl rfl rfl ?_
 refine gL trivial rfl rfl rfl rfl rfl rfl rfl rfl ?_
 refine gI trivial rfl rfl rfl rfl rfl rfl ?_
 refine rg_nil nofun ?_
 refine cI rfl (fun c13=>?_) (fun c13=>?_)
 ·skip
  have p13:=of_decide_eq_true c13
  refine vc_skip ?_
  refine vc_seq ?_
  refine vc_block ?_
  refine vc_seq ?_
  refine vc_region hm ?_
  refine gF trivial rfl rfl rfl rfl rfl ?_
  refine gL trivial rfl rfl rfl rfl rfl rfl rfl rfl ?_
  refine gM trivial (.inl rfl) rfl rfl rfl ?_
  refine gC0 [1] (spec_l1In_c (l:=h.w) (a:=i) hw) trivial rfl rfl rfl rfl ⟨rFlat (rSp_flat h.w) rfl (.inl rfl) rfl,trivial⟩ rfl rfl rfl rfl rfl ?_
  refine gN trivial rfl rfl rfl rfl ?_
  refine gM trivial (.inl rfl) rfl rfl rfl ?_
  refine gI2 (d:=21) rfl (fun c21=>?_) (fun c21=>?_)
  ·skip
   have n21:=unT c21
   refine gM ⟨_,_,rfl,rfl,c21⟩ (.inl rfl) rfl rfl rfl ?_
   refine gM ⟨_,_,rfl,rfl,c21⟩ (.inl rfl) rfl rfl rfl ?_
   refine gI2 (d:=23) rfl (fun c23=>?_) (fun c23=>?_)
   ·skip
    refine gO ⟨_,_,rfl,rfl,c23⟩ rfl rfl ?_
    refine gO ⟨_,_,rfl,rfl,c23⟩ rfl rfl ?_
    refine gO ⟨_,_,rfl,rfl,c23⟩ rfl rfl ?_
    refine gO ⟨_,_,rfl,rfl,c23⟩ rfl rfl ?_
    refine gO ⟨_,_,rfl,rfl,c23⟩ rfl rfl ?_
    refine gPT ⟨_,_,rfl,rfl,c21⟩ rfl rfl c23 rfl rfl rfl ?_
    refine gPT trivial rfl rfl c21 rfl rfl rfl ?_
    refine rg_nil nofun ?_
    refine cT rfl rfl ?_
    refine vc_seq ?_
    refine vc_region hm ?_
    refine gM trivial (.inr rfl) rfl rfl rfl ?_
    refine rg_nil nofun ?_
    refine vc_ret ?_
    exact ⟨idm,ends0 (.inr rfl) rfl (eqB (may_1 (by omega) hi p13 (by omega) (by first|exact mayAt_n1 (by assumption) (by assumption)|exact mayAt_n2 (by assumption) (by assumption)))) rfl rfl rfl⟩
   ·skip
    refine gF ⟨_,_,rfl,rfl,c23⟩ rfl rfl rfl rfl rfl ?_
    refine gL ⟨_,_,rfl,rfl,c23⟩ rfl rfl rfl rfl rfl rfl rfl rfl ?_
    refine gM ⟨_,_,rfl,rfl,c23⟩ (.inl rfl) rfl rfl rfl ?_
    refine gC0 [0] (spec_l1In_c (l:=h.r) (a:=i) hr) ⟨_,_,rfl,rfl,c23⟩ rfl rfl rfl rfl ⟨rFlat (rSp_flat h.r) rfl (.inl rfl) rfl,trivial⟩ rfl rfl rfl rfl rfl ?_
    refine gN ⟨_,_,rfl,rfl,c23⟩ rfl rfl rfl rfl ?_
    refine gPF ⟨_,_,rfl,rfl,c21⟩ rfl rfl c23 rfl rfl rfl ?_
    refine gPT trivial rfl rfl c21 rfl rfl rfl ?_
    refine rg_nil nofun ?_
    refine cI rfl (fun c30=>?_) (fun c30=>?_)
    ·skip
     have n30:=unT c30
     refine vc_seq ?_
     refine vc_region hm ?_
     refine gM trivial (.inr rfl) rfl rfl rfl ?_
     refine rg_nil nofun ?_
     refine vc_ret ?_
     exact ⟨idm,ends0 (.inr rfl) rfl (eqB (may_1 (by omega) hi p13 (by omega) (by first|exact mayAt_n1 (by assumption) (by assumption)|exact mayAt_n2 (by assumption) (by assumption)))) rfl rfl rfl⟩
    ·skip
     have n30:=unF c30
     refine vc_skip ?_
     refine vc_region hm ?_
     refine gM trivial (.inl rfl) rfl rfl rfl ?_
     refine gA trivial rfl rfl rfl rfl rfl rfl (by omega) ?_
     refine gM trivial (.inr rfl) rfl rfl rfl ?_
     refine rg_nil nofun ?_
     exact lp_next (m:=idm) ⟨i + 1,(by omega),(by omega),(may_next ha (by first|exact mayAt_w (by assumption)|exact mayAt_r (by assumption) (by assumption))),rfl,rfl⟩ (by omega) (le_mk rfl ⟨⟨rfl,rfl⟩,⟨rfl,rfl⟩,⟨rfl,rfl⟩,⟨rfl,rfl⟩,trivial⟩ ⟨kFlat (rSp_flat _) rfl id rfl,kFlat (rSp_flat _) rfl id rfl,kCells rfl rfl id rfl,kCells rfl rfl id rfl,trivial⟩ rfl (fun _ _=>rfl))
  ·skip
   have n21:=unF c21
   refine gO ⟨_,_,rfl,rfl,c21⟩ rfl rfl ?_
   refine gO ⟨_,_,rfl,rfl,c21⟩ rfl rfl ?_
   refine gO ⟨_,_,rfl,rfl,trivial⟩ rfl rfl ?_
   refine gO ⟨_,_,rfl,rfl,trivial⟩ rfl rfl ?_
   refine gO ⟨_,_,rfl,rfl,trivial⟩ rfl rfl ?_
   refine gO ⟨_,_,rfl,rfl,trivial⟩ rfl rfl ?_
   refine gO ⟨_,_,rfl,rfl,trivial⟩ rfl rfl ?_
   refine gO ⟨_,_,rfl,rfl,c21⟩ rfl rfl ?_
   refine gPF trivial rfl rfl c21 rfl rfl rfl ?_
   refine rg_nil nofun ?_
   refine cF rfl rfl ?_
   refine vc_skip ?_
   refine vc_region hm ?_
   refine gM trivial (.inl rfl) rfl rfl rfl ?_
   refine gA trivial rfl rfl rfl rfl rfl rfl (by omega) ?_
   refine gM trivial (.inr rfl) rfl rfl rfl ?_
   refine rg_nil nofun ?_
   exact lp_next (m:=idm) ⟨i + 1,(by omega),(by omega),(may_next ha (by first|exact mayAt_w (by assumption)|exact mayAt_r (by assumption) (by assumption))),rfl,rfl⟩ (by omega) (le_mk rfl ⟨⟨rfl,rfl⟩,⟨rfl,rfl⟩,⟨rfl,rfl⟩,⟨rfl,rfl⟩,trivial⟩ ⟨kFlat (rSp_flat _) rfl id rfl,kFlat (rSp_flat _) rfl id rfl,kCells rfl rfl id rfl,kCells rfl rfl id rfl,trivial⟩ rfl (fun _ _=>rfl))
 ·skip
  have p13:=of_decide_eq_false c13
  refine vc_exit ?_
  refine vc_seq ?_
  refine vc_region hm ?_
  refine gM trivial (.inr rfl) rfl rfl rfl ?_
  refine rg_nil nofun ?_
  refine vc_ret ?_
  exact ⟨idm,ends0 (.inr rfl) rfl (eqB (may_2 ha p13)) rfl rfl rfl⟩
theorem spec_l1Max_c (a b:Int):FDoes Try.prog 76 [.int .i64 a,.int .i64 b] (hp []) { v:=.int .i64 (mxI a b) }:=by
 have hm:Try.prog.follows .mixedOrders=true:=by kernel_rfl
 have hd_:∀ x ∈ ([]:List (Nat × Bool × Fam)),∀ k y,x.2.2 k=some y→DetB (lt 0) y:=fun x_ hx=>(by cases hx)
 refine fn_exact (u0:=0) Try.func76 rfl rfl (gets rfl rfl rfl hd_ rfl) ?_
 clear hd_
 refine vc_seq ?_
 refine vc_region hm ?_
 refine gM trivial (.inr rfl) rfl rfl rfl ?_
 refine rg_nil nofun ?_
 refine vc_seq ?_
 refine vc_seq ?_
 refine vc_region hm ?_
 refine gM trivial (.inl rfl) rfl rfl rfl ?_
 refine gM trivial (.inl rfl) rfl rfl rfl ?_
 refine gI trivial rfl rfl rfl rfl rfl rfl ?_
 refine rg_nil nofun ?_
 refine cI rfl (fun c7=>?_) (fun c7=>?_)
 ·skip
  have p7:=of_decide_eq_true c7
  refine vc_seq ?_
  refine vc_region hm ?_
  refine gM trivial (.inl rfl) rfl rfl rfl ?_
  refine gM trivial (.inr rfl) rfl rfl rfl ?_
  refine rg_nil nofun ?_
  refine vc_ret ?_
  exact ⟨idm,ends0 (.inr rfl) rfl (eqI (by unfold mxI;first|rw [if_pos (by assumption)]|rw [if_neg (by assumption)])) rfl rfl rfl⟩
 ·skip
  have p7:=of_decide_eq_false c7
  refine vc_skip ?_
  refine vc_seq ?_
  refine vc_region hm ?_
  refine gM trivial (.inl rfl) rfl rfl rfl ?_
  refine gM trivial (.inr rfl) rfl rfl rfl ?_
  refine rg_nil nofun ?_
  refine vc_ret ?_
  exact ⟨idm,ends0 (.inr rfl) rfl (eqI (by unfold mxI;first|rw [if_pos (by assumption)]|rw [if_neg (by assumption)])) rfl rfl rfl⟩
theorem spec_l1Min_c (a b:Int):FDoes Try.prog 77 [.int .i64 a,.int .i64 b] (hp []) { v:=.int .i64 (mnI a b) }:=by
 have hm:Try.prog.follows .mixedOrders=true:=by kernel_rfl
 have hd_:∀ x ∈ ([]:List (Nat × Bool × Fam)),∀ k y,x.2.2 k=some y→DetB (lt 0) y:=fun x_ hx=>(by cases hx)
 refine fn_exact (u0:=0) Try.func77 rfl rfl (gets rfl rfl rfl hd_ rfl) ?_
 clear hd_
 refine vc_seq ?_
 refine vc_region hm ?_
 refine gM trivial (.inr rfl) rfl rfl rfl ?_
 refine rg_nil nofun ?_
 refine vc_seq ?_
 refine vc_seq ?_
 refine vc_region hm ?_
 refine gM trivial (.inl rfl) rfl rfl rfl ?_
 refine gM trivial (.inl rfl) rfl rfl rfl ?_
 refine gI trivial rfl rfl rfl rfl rfl rfl ?_
 refine rg_nil nofun ?_
 refine cI rfl (fun c7=>?_) (fun c7=>?_)
 ·skip
  have p7:=of_decide_eq_true c7
  refine vc_seq ?_
  refine vc_region hm ?_
  refine gM trivial (.inl rfl) rfl rfl rfl ?_
  refine gM trivial (.inr rfl) rfl rfl rfl ?_
  refine rg_nil nofun ?_
  refine vc_ret ?_
  exact ⟨idm,ends0 (.inr rfl) rfl (eqI (by unfold mnI;first|rw [if_pos (by assumption)]|rw [if_neg (by assumption)])) rfl rfl rfl⟩
 ·skip
  have p7:=of_decide_eq_false c7
  refine vc_skip ?_
  refine vc_seq ?_
  refine vc_region hm ?_
  refine gM trivial (.inl rfl) rfl rfl rfl ?_
  refine gM trivial (.inr rfl) rfl rfl rfl ?_
  refine rg_nil nofun ?_
  refine vc_ret ?_
  exact ⟨idm,ends0 (.inr rfl) rfl (eqI (by unfold mnI;first|rw [if_pos (by assumption)]|rw [if_neg (by assumption)])) rfl rfl rfl⟩
theorem spec_l1Meet_c (a b:Sp):FDoes Try.prog 72 [vSp a,vSp b] (hp []) { v:=.tuple #[vSp (metS a b),.bool (metB a b)] }:=by
 have hm:Try.prog.follows .mixedOrders=true:=by kernel_rfl
 have hd_:∀ x ∈ ([]:List (Nat × Bool × Fam)),∀ k y,x.2.2 k=some y→DetB (lt 0) y:=fun x_ hx=>(by cases hx)
 refine fn_exact (u0:=0) Try.func72 rfl rfl (gets rfl rfl rfl hd_ rfl) ?_
 clear hd_
 refine vc_seq ?_
 refine vc_region hm ?_
 refine gB (u':=1) trivial rfl rfl rfl rfl rfl rfl rfl rfl ?_
 refine gB (u':=2) trivial rfl rfl rfl rfl rfl rfl rfl rfl ?_
 refine gZ (u':=3) trivial rfl rfl rfl rfl rfl rfl rfl rfl ?_
 refine gM trivial (.inr rfl) rfl rfl rfl ?_
 refine rg_nil nofun ?_
 refine vc_seq ?_
 refine vc_region hm ?_
 refine gF trivial rfl rfl rfl rfl rfl ?_
 refine gL trivial rfl rfl rfl rfl rfl rfl rfl rfl ?_
 refine gF trivial rfl rfl rfl rfl rfl ?_
 refine gL trivial rfl rfl rfl rfl rfl rfl rfl rfl ?_
 refine gC0 [] (spec_l1Max_c a.lo b.lo) trivial rfl rfl rfl rfl (by trivial) rfl rfl rfl rfl rfl ?_
 refine gF trivial rfl rfl rfl rfl rfl ?_
 refine gL trivial rfl rfl rfl rfl rfl rfl rfl rfl ?_
 refine gF trivial rfl rfl rfl rfl rfl ?_
 refine gL trivial rfl rfl rfl rfl rfl rfl rfl rfl ?_
 refine gC0 [] (spec_l1Min_c a.hi b.hi) trivial rfl rfl rfl rfl (by trivial) rfl rfl rfl rfl rfl ?_
 refine gU trivial rfl rfl rfl rfl rfl rfl rfl rfl ?_
 refine gZ (u':=4) trivial rfl rfl rfl rfl rfl rfl rfl rfl ?_
 refine gT trivial rfl rfl rfl rfl rfl rfl rfl rfl rfl rfl (Nat.le_of_ble_eq_true rfl) rfl ?_
 refine rg_nil (fun _=>by kernel_rfl) ?_
 refine vc_seq ?_
 refine vc_seq ?_
 refine vc_region hm ?_
 refine gF trivial rfl rfl rfl rfl rfl ?_
 refine gL trivial rfl rfl rfl rfl rfl rfl rfl rfl ?_
 refine gF trivial rfl rfl rfl rfl rfl ?_
 refine gL trivial rfl rfl rfl rfl rfl rfl rfl rfl ?_
 refine gI trivial rfl rfl rfl rfl rfl rfl ?_
 refine rg_nil nofun ?_
 refine cI rfl (fun c22=>?_) (fun c22=>?_)
 ·skip
  have p22:=of_decide_eq_true c22
  refine vc_seq ?_
  refine vc_region hm ?_
  refine gU trivial rfl rfl rfl rfl rfl rfl rfl rfl ?_
  refine gT trivial rfl rfl rfl rfl rfl rfl rfl rfl rfl rfl (Nat.le_of_ble_eq_true rfl) rfl ?_
  refine gM trivial (.inr rfl) rfl rfl rfl ?_
  refine rg_nil nofun ?_
  refine vc_ret ?_
  exact ⟨idm,endsF (.inr rfl) (.cell rfl rfl rfl rfl rfl (.tmp rfl rfl .nil)) (met_F p22) rfl rfl⟩
 ·skip
  have p22:=of_decide_eq_false c22
  refine vc_skip ?_
  refine vc_seq ?_
  refine vc_region hm ?_
  refine gL trivial rfl rfl rfl rfl rfl rfl rfl rfl ?_
  refine gT trivial rfl rfl rfl rfl rfl rfl rfl rfl rfl rfl (Nat.le_of_ble_eq_true rfl) rfl ?_
  refine gM trivial (.inr rfl) rfl rfl rfl ?_
  refine rg_nil nofun ?_
  refine vc_ret ?_
  exact ⟨idm,endsF (.inr rfl) (.cell rfl rfl rfl rfl rfl (.tmp rfl rfl .nil)) (met_T p22) rfl rfl⟩
theorem spec_l4Clear_c {a b:List Sp} (hn:a.length≤1048576) (hm:b.length≤1048576):FDoes Try.prog 44 [.slice (some ⟨0,0,none⟩) a.length 0,.slice (some ⟨1,0,none⟩) b.length 0] (hp [(0,false,one ⟨rSp a,33,0⟩),(1,false,one ⟨rSp b,33,0⟩)]) { v:=.bool (clearL a b),rd:=[0,1] }:=by
 have hm:Try.prog.follows .mixedOrders=true:=by kernel_rfl
 have hd_:∀ x_ ∈ ([(0,false,one ⟨rSp a,33,0⟩),(1,false,one ⟨rSp b,33,0⟩)]:List (Nat × Bool × Fam)),∀ k_ y_,x_.2.2 k_=some y_→DetB (lt 2) y_:=by
  intro x_ hx k_ y_ e
  simp only [List.mem_cons,List.not_mem_nil,or_false] at hx
  rcases hx with rfl|rfl
  ·exact det_row (rSp_flat a) e
  ·exact det_row (rSp_flat b) e
 refine fn_exact (u0:=2) Try.func44 rfl rfl (gets rfl rfl rfl hd_ rfl) ?_
 clear hd_
 refine vc_seq ?_
 refine vc_region hm ?_
 refine gM trivial (.inr rfl) rfl rfl rfl ?_
 refine rg_nil nofun ?_
 refine vc_seq ?_
 refine vc_seq ?_
 refine vc_region hm ?_
 refine gM trivial (.inr rfl) rfl rfl rfl ?_
 refine rg_nil nofun ?_
 refine vc_block ?_
 refine vc_loop' (fun n_ S_=>∃ (i:Nat),i≤a.length∧(a.take i).any (fun x=>b.any fun y=>metB x y)=false∧n_=a.length - i∧S_=⟨2,[(0,.slice (some ⟨0,0,none⟩) a.length 0),(1,.slice (some ⟨1,0,none⟩) b.length 0),(5,.int .i64 i)],[(0,false,one ⟨rSp a,33,0⟩),(1,false,one ⟨rSp b,33,0⟩)]⟩) (m0:=idm) ⟨0,Nat.zero_le _,rfl,rfl,rfl⟩ (le_mk rfl ⟨⟨rfl,rfl⟩,⟨rfl,rfl⟩,⟨rfl,rfl⟩,trivial⟩ ⟨kFlat (rSp_flat a) rfl id rfl,kFlat (rSp_flat b) rfl id rfl,trivial⟩ rfl (fun _ _=>rfl)) ?_
 rintro n_ S_ ⟨i,hi,ha,rfl,rfl⟩
 refine vc_seq ?_
 refine vc_seq ?_
 refine vc_region hm ?_
 refine gM trivial (.inl rfl) rfl rfl rfl ?_
 refine gM trivial (.inl rfl) rfl rfl rfl ?_
 refine gK trivial rfl rfl rfl rfl rfl rfl rSp_nil ?_
 refine gI trivial rfl rfl rfl rfl rfl rfl ?_
 refine rg_nil nofun ?_
 refine cI rfl (fun c12=>?_) (fun c12=>?_)
 ·skip
  have p12:=of_decide_eq_true c12
  refine vc_skip ?_
  refine vc_seq ?_
  refine vc_block ?_
  refine vc_seq ?_
  refine vc_region hm ?_
  refine gM trivial (.inr rfl) rfl rfl rfl ?_
  refine rg_nil nofun ?_
  refine vc_block ?_
  refine vc_loop' (fun n_ S_=>∃ (k:Nat),k≤b.length∧(b.take k).any (metB (at_ a (i:Int)))=false∧n_=b.length - k∧S_=⟨2,[(0,.slice (some ⟨0,0,none⟩) a.length 0),(1,.slice (some ⟨1,0,none⟩) b.length 0),(5,.int .i64 i),(6,.int .i64 k)],[(0,false,one ⟨rSp a,33,0⟩),(1,false,one ⟨rSp b,33,0⟩)]⟩) (m0:=idm) ⟨0,Nat.zero_le _,rfl,rfl,rfl⟩ (le_mk rfl ⟨⟨rfl,rfl⟩,⟨rfl,rfl⟩,⟨rfl,rfl⟩,⟨rfl,rfl⟩,trivial⟩ ⟨kFlat (rSp_flat a) rfl id rfl,kFlat (rSp_flat b) rfl id rfl,trivial⟩ rfl (fun _ _=>rfl)) ?_
  rintro n_ S_ ⟨k,hk,hb,rfl,rfl⟩
  refine vc_seq ?_
  refine vc_seq ?_
  refine vc_region hm ?_
  refine gM trivial (.inl rfl) rfl rfl rfl ?_
  refine gM trivial (.inl rfl) rfl rfl rfl ?_
  refine gK trivial rfl rfl rfl rfl rfl rfl rSp_nil ?_
  refine gI trivial rfl rfl rfl rfl rfl rfl ?_
  refine rg_nil nofun ?_
  refine cI rfl (fun c18=>?_) (fun c18=>?_)
  ·skip
   have p18:=of_decide_eq_true c18
   refine vc_skip ?_
   refine vc_seq ?_
   refine vc_block ?_
   refine vc_seq ?_
   refine vc_region hm ?_
   refine gM trivial (.inl rfl) rfl rfl rfl ?_
   refine gM trivial (.inl rfl) rfl rfl rfl ?_
   refine gX trivial rfl rfl rfl rfl rfl rfl rfl rfl (by omega) p12 rSp_ne ?_
   refine gL trivial rfl rfl rfl rfl rfl rfl rfl (aSp (by omega) p12) ?_
   refine gM trivial (.inl rfl) rfl rfl rfl ?_
   refine gM trivial (.inl rfl) rfl rfl rfl ?_
   refine gX trivial rfl rfl rfl rfl rfl rfl rfl rfl (by omega) p18 rSp_ne ?_
   refine gL trivial rfl rfl rfl rfl rfl rfl rfl (aSp (by omega) p18) ?_
   refine gC0 [] (spec_l1Meet_c (at_ a (i:Int)) (at_ b (k:Int))) trivial rfl rfl rfl rfl (by trivial) rfl rfl rfl rfl rfl ?_
   refine gM trivial (.inl rfl) rfl rfl rfl ?_
   refine gE trivial rfl rfl rfl rfl rfl rfl ?_
   refine gE trivial rfl rfl rfl rfl rfl rfl ?_
   refine gZ (u':=3) trivial rfl rfl rfl rfl rfl rfl rfl rfl ?_
   refine gT trivial rfl rfl rfl rfl rfl rfl rfl rfl rfl rfl (Nat.le_of_ble_eq_true rfl) rfl ?_
   refine gM trivial (.inr rfl) rfl rfl rfl ?_
   refine rg_nil (fun _=>by kernel_rfl) ?_
   refine vc_seq ?_
   refine vc_region hm ?_
   refine gM trivial (.inl rfl) rfl rfl rfl ?_
   refine rg_nil nofun ?_
   refine cI rfl (fun c33=>?_) (fun c33=>?_)
   ·skip
    refine vc_seq ?_
    refine vc_region hm ?_
    refine gM trivial (.inr rfl) rfl rfl rfl ?_
    refine rg_nil nofun ?_
    refine vc_ret ?_
    exact ⟨idm,ends0 (.inr rfl) rfl (eqB (clr_in p12 p18 c33)) rfl rfl rfl⟩
   ·skip
    refine vc_skip ?_
    refine vc_region hm ?_
    refine gM trivial (.inl rfl) rfl rfl rfl ?_
    refine gA trivial rfl rfl rfl rfl rfl rfl (by omega) ?_
    refine gM trivial (.inr rfl) rfl rfl rfl ?_
    refine rg_nil nofun ?_
    exact lp_next (m:=idm) ⟨k + 1,(by omega),(any_step p18 hb c33),rfl,rfl⟩ (by omega) (le_mk rfl ⟨⟨rfl,rfl⟩,⟨rfl,rfl⟩,⟨rfl,rfl⟩,⟨rfl,rfl⟩,trivial⟩ ⟨kFlat (rSp_flat a) rfl id rfl,kFlat (rSp_flat b) rfl id rfl,trivial⟩ rfl (fun _ _=>rfl))
  ·skip
   have p18:=of_decide_eq_false c18
   refine vc_exit ?_
   refine vc_region hm ?_
   refine gM trivial (.inl rfl) rfl rfl rfl ?_
   refine gA trivial rfl rfl rfl rfl rfl rfl (by omega) ?_
   refine gM trivial (.inr rfl) rfl rfl rfl ?_
   refine rg_nil nofun ?_
   exact lp_next (m:=idm) ⟨i + 1,(by omega),(any_step p12 ha (clr_row hk p18 hb)),rfl,rfl⟩ (by omega) (le_mk rfl ⟨⟨rfl,rfl⟩,⟨rfl,rfl⟩,⟨rfl,rfl⟩,trivial⟩ ⟨kFlat (rSp_flat a) rfl id rfl,kFlat (rSp_flat b) rfl id rfl,trivial⟩ rfl (fun _ _=>rfl))
 ·skip
  have p12:=of_decide_eq_false c12
  refine vc_exit ?_
  refine vc_seq ?_
  refine vc_region hm ?_
  refine gM trivial (.inr rfl) rfl rfl rfl ?_
  refine rg_nil nofun ?_
  refine vc_ret ?_
  exact ⟨idm,ends0 (.inr rfl) rfl (eqB (clr_end hi p12 ha)) rfl rfl rfl⟩
theorem spec_LockOk_c {T:List Ho} (hT:T.length≤1048576) (hB:∀ h ∈ T,h.r.length≤1048576∧h.w.length≤1048576):FDoes Try.prog 16 [.slice (some ⟨0,0,none⟩) T.length 0] (hp [(0,false,one ⟨rHv (tabV 1 zo T),54,0⟩),(1,false,inF zo 33 0 T)]) { v:=.bool (lockOk T),rd:=[0,1] }:=by
 have hm:Try.prog.follows .mixedOrders=true:=by kernel_rfl
 have hd_:∀ x_ ∈ ([(0,false,one ⟨rHv (tabV 1 zo T),54,0⟩),(1,false,inF zo 33 0 T)]:List (Nat × Bool × Fam)),∀ k_ y_,x_.2.2 k_=some y_→DetB (lt 2) y_:=by
  intro x_ hx k_ y_ e
  simp only [List.mem_cons,List.not_mem_nil,or_false] at hx
  rcases hx with rfl|rfl
  ·exact det_tab (k0:=0) rfl e
  ·exact det_in e
 refine fn_exact (u0:=2) Try.func16 rfl rfl (gets rfl rfl rfl hd_ rfl) ?_
 clear hd_
 refine vc_seq ?_
 refine vc_region hm ?_
 refine gM trivial (.inr rfl) rfl rfl rfl ?_
 refine rg_nil nofun ?_
 refine vc_seq ?_
 refine vc_seq ?_
 refine vc_region hm ?_
 refine gM trivial (.inl rfl) rfl rfl rfl ?_
 refine gK trivial rfl rfl rfl rfl rfl rfl tabV_nil ?_
 refine gI trivial rfl rfl rfl rfl rfl rfl ?_
 refine rg_nil nofun ?_
 refine cI rfl (fun c7=>?_) (fun c7=>?_)
 ·skip
  have p7:=bne_iff_ne.1 c7
  refine vc_seq ?_
  refine vc_region hm ?_
  refine gM trivial (.inr rfl) rfl rfl rfl ?_
  refine rg_nil nofun ?_
  refine vc_ret ?_
  exact ⟨idm,ends0 (.inr rfl) rfl (eqB (ok_len3 p7)) rfl rfl rfl⟩
 ·skip
  have p7:=bne_eq_false_iff_eq.1 c7
  refine vc_skip ?_
  refine vc_seq ?_
  refine vc_seq ?_
  refine vc_region hm ?_
  refine gM trivial (.inr rfl) rfl rfl rfl ?_
  refine rg_nil nofun ?_
  refine vc_block ?_
  refine vc_loopT (fun n_ S_=>∃ (i:Nat),i≤T.length∧(List.range i).all (stepS T)=true∧n_=T.length - i∧S_=⟨2,[(0,.slice (some ⟨0,0,none⟩) T.length 0),(3,.int .i64 i)],[(0,false,one ⟨rHv (tabV 1 zo T),54,0⟩),(1,false,inF zo 33 0 T)]⟩) ⟨0,Nat.zero_le _,rfl,rfl,rfl⟩ (re_nil (ms:=[0,1]) (C:=999) rfl ⟨⟨⟨rfl,rfl⟩,rfl⟩,⟨⟨rfl,rfl⟩,rfl⟩,trivial⟩ ⟨ktTab (k:=0) rfl rfl (.inr (.inl rfl)) id rfl rfl,ktIn rfl id rfl,trivial⟩ rfl rfl (rig_of rfl) rfl) ?_
  rintro n_ S_ ⟨i,hi,ha,rfl,rfl⟩
  refine vc_seq ?_
  refine vc_seq ?_
  refine vc_region hm ?_
  refine gM trivial (.inl rfl) rfl rfl rfl ?_
  refine gM trivial (.inl rfl) rfl rfl rfl ?_
  refine gK trivial rfl rfl rfl rfl rfl rfl tabV_nil ?_
  refine gI trivial rfl rfl rfl rfl rfl rfl ?_
  refine rg_nil nofun ?_
  refine cI rfl (fun c11=>?_) (fun c11=>?_)
  ·skip
   have p11:=of_decide_eq_true c11
   refine vc_skip ?_
   refine vc_seq ?_
   refine vc_block ?_
   refine vc_seq ?_
   refine vc_seq ?_
   refine vc_region hm ?_
   refine gM trivial (.inl rfl) rfl rfl rfl ?_
   refine gM trivial (.inl rfl) rfl rfl rfl ?_
   refine gX trivial rfl rfl rfl rfl rfl rfl rfl rfl (by omega) (by omega) tabV_ne ?_
   refine gF trivial rfl rfl rfl rfl rfl ?_
   refine gL trivial rfl rfl rfl rfl rfl rfl rfl (lH0 (by omega) p11) ?_
   refine gCT0 [nA (nm 1 (2 * ((i:Int)).toNat))] [1] (spec_SpansOk_c (l:=(at_ T (i:Int)).r) (hB _ (at_mem (by omega) p11)).1) trivial rfl rfl rfl rfl rfl ⟨aRow rfl (rSp_flat _) rfl (inF_0 (by omega) p11) (.inl rfl) (.inl rfl) rfl,trivial⟩ rfl rfl rfl rfl ?_
   refine gN trivial rfl rfl rfl rfl ?_
   refine gM trivial (.inl rfl) rfl rfl rfl ?_
   refine gI2 (d:=21) rfl (fun c21=>?_) (fun c21=>?_)
   ·skip
    have n21:=unT c21
    refine gO ⟨_,_,rfl,rfl,c21⟩ rfl rfl ?_
    refine gO ⟨_,_,rfl,rfl,c21⟩ rfl rfl ?_
    refine gO ⟨_,_,rfl,rfl,c21⟩ rfl rfl ?_
    refine gO ⟨_,_,rfl,rfl,c21⟩ rfl rfl ?_
    refine gO ⟨_,_,rfl,rfl,c21⟩ rfl rfl ?_
    refine gO ⟨_,_,rfl,rfl,c21⟩ rfl rfl ?_
    refine gO ⟨_,_,rfl,rfl,c21⟩ rfl rfl ?_
    refine gPT trivial rfl rfl c21 rfl rfl rfl ?_
    refine gM trivial (.inl rfl) rfl rfl rfl ?_
    refine gO ⟨_,_,rfl,rfl,rfl⟩ rfl rfl ?_
    refine gO ⟨_,_,rfl,rfl,rfl⟩ rfl rfl ?_
    refine gO ⟨_,_,rfl,rfl,rfl⟩ rfl rfl ?_
    refine gO ⟨_,_,rfl,rfl,rfl⟩ rfl rfl ?_
    refine gO ⟨_,_,rfl,rfl,rfl⟩ rfl rfl ?_
    refine gO ⟨_,_,rfl,rfl,rfl⟩ rfl rfl ?_
    refine gO ⟨_,_,rfl,rfl,rfl⟩ rfl rfl ?_
    refine gO ⟨_,_,rfl,rfl,rfl⟩ rfl rfl ?_
    refine gO ⟨_,_,rfl,rfl,rfl⟩ rfl rfl ?_
    refine gO ⟨_,_,rfl,rfl,rfl⟩ rfl rfl ?_
    refine gO ⟨_,_,rfl,rfl,rfl⟩ rfl rfl ?_
    refine gO ⟨_,_,rfl,rfl,rfl⟩ rfl rfl ?_
    refine gPT trivial rfl rfl rfl rfl rfl rfl ?_
    refine rg_nil (fun _=>by kernel_rfl) ?_
    refine cT rfl rfl ?_
    refine vc_seq ?_
    refine vc_region hm ?_
    refine gM trivial (.inr rfl) rfl rfl rfl ?_
    refine rg_nil nofun ?_
    refine vc_ret ?_
    exact ⟨idm,ends0 (.inr rfl) rfl (eqB (okS_at p11 (by first|exact stepS_1 (by assumption)|exact stepS_2 (by assumption)|exact stepS_3 (by assumption)))) rfl rfl rfl⟩
   ·skip
    have n21:=unF c21
    refine gM ⟨_,_,rfl,rfl,c21⟩ (.inl rfl) rfl rfl rfl ?_
    refine gM ⟨_,_,rfl,rfl,c21⟩ (.inl rfl) rfl rfl rfl ?_
    refine gX ⟨_,_,rfl,rfl,c21⟩ rfl rfl rfl rfl rfl rfl rfl rfl (by omega) (by omega) tabV_ne ?_
    refine gF ⟨_,_,rfl,rfl,c21⟩ rfl rfl rfl rfl rfl ?_
    refine gL ⟨_,_,rfl,rfl,c21⟩ rfl rfl rfl rfl rfl rfl rfl (lH1 (by omega) p11) ?_
    refine gCT0 [nA (nm 1 (2 * ((i:Int)).toNat + 1))] [1] (spec_SpansOk_c (l:=(at_ T (i:Int)).w) (hB _ (at_mem (by omega) p11)).2) ⟨_,_,rfl,rfl,c21⟩ rfl rfl rfl rfl rfl ⟨aRow rfl (rSp_flat _) rfl (inF_1 (by omega) p11) (.inl rfl) (.inl rfl) rfl,trivial⟩ rfl rfl rfl rfl ?_
    refine gN ⟨_,_,rfl,rfl,c21⟩ rfl rfl rfl rfl ?_
    refine gPF trivial rfl rfl c21 rfl rfl rfl ?_
    refine gM trivial (.inl rfl) rfl rfl rfl ?_
    refine gI2 (d:=30) rfl (fun c30=>?_) (fun c30=>?_)
    ·skip
     have n30:=unT c30
     refine gO ⟨_,_,rfl,rfl,c30⟩ rfl rfl ?_
     refine gO ⟨_,_,rfl,rfl,c30⟩ rfl rfl ?_
     refine gO ⟨_,_,rfl,rfl,c30⟩ rfl rfl ?_
     refine gO ⟨_,_,rfl,rfl,c30⟩ rfl rfl ?_
     refine gO ⟨_,_,rfl,rfl,c30⟩ rfl rfl ?_
     refine gO ⟨_,_,rfl,rfl,c30⟩ rfl rfl ?_
     refine gO ⟨_,_,rfl,rfl,c30⟩ rfl rfl ?_
     refine gO ⟨_,_,rfl,rfl,c30⟩ rfl rfl ?_
     refine gO ⟨_,_,rfl,rfl,c30⟩ rfl rfl ?_
     refine gO ⟨_,_,rfl,rfl,c30⟩ rfl rfl ?_
     refine gO ⟨_,_,rfl,rfl,c30⟩ rfl rfl ?_
     refine gO ⟨_,_,rfl,rfl,c30⟩ rfl rfl ?_
     refine gPT trivial rfl rfl c30 rfl rfl rfl ?_
     refine rg_nil (fun _=>by kernel_rfl) ?_
     refine cT rfl rfl ?_
     refine vc_seq ?_
     refine vc_region hm ?_
     refine gM trivial (.inr rfl) rfl rfl rfl ?_
     refine rg_nil nofun ?_
     refine vc_ret ?_
     exact ⟨idm,ends0 (.inr rfl) rfl (eqB (okS_at p11 (by first|exact stepS_1 (by assumption)|exact stepS_2 (by assumption)|exact stepS_3 (by assumption)))) rfl rfl rfl⟩
    ·skip
     have n30:=unF c30
     refine gM ⟨_,_,rfl,rfl,c30⟩ (.inl rfl) rfl rfl rfl ?_
     refine gM ⟨_,_,rfl,rfl,c30⟩ (.inl rfl) rfl rfl rfl ?_
     refine gX ⟨_,_,rfl,rfl,c30⟩ rfl rfl rfl rfl rfl rfl rfl rfl (by omega) (by omega) tabV_ne ?_
     refine gF ⟨_,_,rfl,rfl,c30⟩ rfl rfl rfl rfl rfl ?_
     refine gL ⟨_,_,rfl,rfl,c30⟩ rfl rfl rfl rfl rfl rfl rfl (lH0 (by omega) p11) ?_
     refine gM ⟨_,_,rfl,rfl,c30⟩ (.inl rfl) rfl rfl rfl ?_
     refine gM ⟨_,_,rfl,rfl,c30⟩ (.inl rfl) rfl rfl rfl ?_
     refine gX ⟨_,_,rfl,rfl,c30⟩ rfl rfl rfl rfl rfl rfl rfl rfl (by omega) (by omega) tabV_ne ?_
     refine gF ⟨_,_,rfl,rfl,c30⟩ rfl rfl rfl rfl rfl ?_
     refine gL ⟨_,_,rfl,rfl,c30⟩ rfl rfl rfl rfl rfl rfl rfl (lH1 (by omega) p11) ?_
     refine gCT0 [nA (nm 1 (2 * ((i:Int)).toNat)),nA (nm 1 (2 * ((i:Int)).toNat + 1))] [1] (spec_l4Clear_c (a:=(at_ T (i:Int)).r) (b:=(at_ T (i:Int)).w) (hB _ (at_mem (by omega) p11)).1 (hB _ (at_mem (by omega) p11)).2) ⟨_,_,rfl,rfl,c30⟩ rfl rfl rfl rfl rfl ⟨aRow rfl (rSp_flat _) rfl (inF_0 (by omega) p11) (.inl rfl) (.inl rfl) rfl,aRow rfl (rSp_flat _) rfl (inF_1 (by omega) p11) (.inl rfl) (.inl rfl) rfl,trivial⟩ rfl rfl rfl rfl ?_
     refine gN ⟨_,_,rfl,rfl,c30⟩ rfl rfl rfl rfl ?_
     refine gPF trivial rfl rfl c30 rfl rfl rfl ?_
     refine rg_nil (fun _=>by kernel_rfl) ?_
     refine cI rfl (fun c43=>?_) (fun c43=>?_)
     ·skip
      have n43:=unT c43
      refine vc_seq ?_
      refine vc_region hm ?_
      refine gM trivial (.inr rfl) rfl rfl rfl ?_
      refine rg_nil nofun ?_
      refine vc_ret ?_
      exact ⟨idm,ends0 (.inr rfl) rfl (eqB (okS_at p11 (by first|exact stepS_1 (by assumption)|exact stepS_2 (by assumption)|exact stepS_3 (by assumption)))) rfl rfl rfl⟩
     ·skip
      have n43:=unF c43
      refine vc_skip ?_
      refine vc_seq ?_
      refine vc_region hm ?_
      refine gM trivial (.inr rfl) rfl rfl rfl ?_
      refine rg_nil nofun ?_
      refine vc_block ?_
      refine vc_loopT (fun n_ S_=>∃ (k:Nat),k≤T.length∧(List.range k).all (pairOk T i)=true∧n_=T.length - k∧S_=⟨2,[(0,.slice (some ⟨0,0,none⟩) T.length 0),(3,.int .i64 i),(4,.int .i64 k)],[(0,false,one ⟨rHv (tabV 1 zo T),54,0⟩),(1,false,inF zo 33 0 T)]⟩) ⟨0,Nat.zero_le _,rfl,rfl,rfl⟩ (re_nil (ms:=[0,1]) (C:=999) rfl ⟨⟨⟨rfl,rfl⟩,rfl⟩,⟨⟨rfl,rfl⟩,rfl⟩,⟨⟨rfl,rfl⟩,rfl⟩,trivial⟩ ⟨ktTab (k:=0) rfl rfl (.inr (.inl rfl)) id rfl rfl,ktIn rfl id rfl,trivial⟩ rfl rfl (rig_of rfl) rfl) ?_
      rintro n_ S_ ⟨k,hk,hp,rfl,rfl⟩
      refine vc_seq ?_
      refine vc_seq ?_
      refine vc_region hm ?_
      refine gM trivial (.inl rfl) rfl rfl rfl ?_
      refine gM trivial (.inl rfl) rfl rfl rfl ?_
      refine gK trivial rfl rfl rfl rfl rfl rfl tabV_nil ?_
      refine gI trivial rfl rfl rfl rfl rfl rfl ?_
      refine rg_nil nofun ?_
      refine cI rfl (fun c47=>?_) (fun c47=>?_)
      ·skip
       have p47:=of_decide_eq_true c47
       refine vc_skip ?_
       refine vc_seq ?_
       refine vc_block ?_
       refine vc_seq ?_
       refine vc_region hm ?_
       refine gM trivial (.inl rfl) rfl rfl rfl ?_
       refine gM trivial (.inl rfl) rfl rfl rfl ?_
       refine gI trivial rfl rfl rfl rfl rfl rfl ?_
       refine gM trivial (.inl rfl) rfl rfl rfl ?_
       refine gI2 (d:=53) rfl (fun c53=>?_) (fun c53=>?_)
       ·skip
        have p53:=bne_iff_ne.1 c53
        refine gM ⟨_,_,rfl,rfl,c53⟩ (.inl rfl) rfl rfl rfl ?_
        refine gM ⟨_,_,rfl,rfl,c53⟩ (.inl rfl) rfl rfl rfl ?_
        refine gX ⟨_,_,rfl,rfl,c53⟩ rfl rfl rfl rfl rfl rfl rfl rfl (by omega) (by omega) tabV_ne ?_
        refine gF ⟨_,_,rfl,rfl,c53⟩ rfl rfl rfl rfl rfl ?_
        refine gL ⟨_,_,rfl,rfl,c53⟩ rfl rfl rfl rfl rfl rfl rfl (lH1 (by omega) p11) ?_
        refine gM ⟨_,_,rfl,rfl,c53⟩ (.inl rfl) rfl rfl rfl ?_
        refine gM ⟨_,_,rfl,rfl,c53⟩ (.inl rfl) rfl rfl rfl ?_
        refine gX ⟨_,_,rfl,rfl,c53⟩ rfl rfl rfl rfl rfl rfl rfl rfl (by omega) (by omega) tabV_ne ?_
        refine gF ⟨_,_,rfl,rfl,c53⟩ rfl rfl rfl rfl rfl ?_
        refine gL ⟨_,_,rfl,rfl,c53⟩ rfl rfl rfl rfl rfl rfl rfl (lH1 (by omega) p47) ?_
        refine gCT0 [nA (nm 1 (2 * ((i:Int)).toNat + 1)),nA (nm 1 (2 * ((k:Int)).toNat + 1))] [1] (spec_l4Clear_c (a:=(at_ T (i:Int)).w) (b:=(at_ T (k:Int)).w) (hB _ (at_mem (by omega) p11)).2 (hB _ (at_mem (by omega) p47)).2) ⟨_,_,rfl,rfl,c53⟩ rfl rfl rfl rfl rfl ⟨aRow rfl (rSp_flat _) rfl (inF_1 (by omega) p11) (.inl rfl) (.inl rfl) rfl,aRow rfl (rSp_flat _) rfl (inF_1 (by omega) p47) (.inl rfl) (.inl rfl) rfl,trivial⟩ rfl rfl rfl rfl ?_
        refine gN ⟨_,_,rfl,rfl,c53⟩ rfl rfl rfl rfl ?_
        refine gM ⟨_,_,rfl,rfl,c53⟩ (.inl rfl) rfl rfl rfl ?_
        refine gI2 (d:=66) rfl (fun c66=>?_) (fun c66=>?_)
        ·skip
         have n66:=unT c66
         refine gO ⟨_,_,rfl,rfl,c66⟩ rfl rfl ?_
         refine gO ⟨_,_,rfl,rfl,c66⟩ rfl rfl ?_
         refine gO ⟨_,_,rfl,rfl,c66⟩ rfl rfl ?_
         refine gO ⟨_,_,rfl,rfl,c66⟩ rfl rfl ?_
         refine gO ⟨_,_,rfl,rfl,c66⟩ rfl rfl ?_
         refine gO ⟨_,_,rfl,rfl,c66⟩ rfl rfl ?_
         refine gO ⟨_,_,rfl,rfl,c66⟩ rfl rfl ?_
         refine gO ⟨_,_,rfl,rfl,c66⟩ rfl rfl ?_
         refine gO ⟨_,_,rfl,rfl,c66⟩ rfl rfl ?_
         refine gO ⟨_,_,rfl,rfl,c66⟩ rfl rfl ?_
         refine gO ⟨_,_,rfl,rfl,c66⟩ rfl rfl ?_
         refine gO ⟨_,_,rfl,rfl,c66⟩ rfl rfl ?_
         refine gPT ⟨_,_,rfl,rfl,c53⟩ rfl rfl c66 rfl rfl rfl ?_
         refine gPT trivial rfl rfl c53 rfl rfl rfl ?_
         refine rg_nil (fun _=>by kernel_rfl) ?_
         refine cT rfl rfl ?_
         refine vc_seq ?_
         refine vc_region hm ?_
         refine gM trivial (.inr rfl) rfl rfl rfl ?_
         refine rg_nil nofun ?_
         refine vc_ret ?_
         exact ⟨idm,ends0 (.inr rfl) rfl (eqB (okS_at p11 (by first|exact stepS_4 p47 p53 (by assumption)|exact stepS_5 p47 p53 (by assumption)))) rfl rfl rfl⟩
        ·skip
         have n66:=unF c66
         refine gM ⟨_,_,rfl,rfl,c66⟩ (.inl rfl) rfl rfl rfl ?_
         refine gM ⟨_,_,rfl,rfl,c66⟩ (.inl rfl) rfl rfl rfl ?_
         refine gX ⟨_,_,rfl,rfl,c66⟩ rfl rfl rfl rfl rfl rfl rfl rfl (by omega) (by omega) tabV_ne ?_
         refine gF ⟨_,_,rfl,rfl,c66⟩ rfl rfl rfl rfl rfl ?_
         refine gL ⟨_,_,rfl,rfl,c66⟩ rfl rfl rfl rfl rfl rfl rfl (lH1 (by omega) p11) ?_
         refine gM ⟨_,_,rfl,rfl,c66⟩ (.inl rfl) rfl rfl rfl ?_
         refine gM ⟨_,_,rfl,rfl,c66⟩ (.inl rfl) rfl rfl rfl ?_
         refine gX ⟨_,_,rfl,rfl,c66⟩ rfl rfl rfl rfl rfl rfl rfl rfl (by omega) (by omega) tabV_ne ?_
         refine gF ⟨_,_,rfl,rfl,c66⟩ rfl rfl rfl rfl rfl ?_
         refine gL ⟨_,_,rfl,rfl,c66⟩ rfl rfl rfl rfl rfl rfl rfl (lH0 (by omega) p47) ?_
         refine gCT0 [nA (nm 1 (2 * ((i:Int)).toNat + 1)),nA (nm 1 (2 * ((k:Int)).toNat))] [1] (spec_l4Clear_c (a:=(at_ T (i:Int)).w) (b:=(at_ T (k:Int)).r) (hB _ (at_mem (by omega) p11)).2 (hB _ (at_mem (by omega) p47)).1) ⟨_,_,rfl,rfl,c66⟩ rfl rfl rfl rfl rfl ⟨aRow rfl (rSp_flat _) rfl (inF_1 (by omega) p11) (.inl rfl) (.inl rfl) rfl,aRow rfl (rSp_flat _) rfl (inF_0 (by omega) p47) (.inl rfl) (.inl rfl) rfl,trivial⟩ rfl rfl rfl rfl ?_
         refine gN ⟨_,_,rfl,rfl,c66⟩ rfl rfl rfl rfl ?_
         refine gPF ⟨_,_,rfl,rfl,c53⟩ rfl rfl c66 rfl rfl rfl ?_
         refine gPT trivial rfl rfl c53 rfl rfl rfl ?_
         refine rg_nil (fun _=>by kernel_rfl) ?_
         refine cI rfl (fun c80=>?_) (fun c80=>?_)
         ·skip
          have n80:=unT c80
          refine vc_seq ?_
          refine vc_region hm ?_
          refine gM trivial (.inr rfl) rfl rfl rfl ?_
          refine rg_nil nofun ?_
          refine vc_ret ?_
          exact ⟨idm,ends0 (.inr rfl) rfl (eqB (okS_at p11 (by first|exact stepS_4 p47 p53 (by assumption)|exact stepS_5 p47 p53 (by assumption)))) rfl rfl rfl⟩
         ·skip
          have n80:=unF c80
          refine vc_skip ?_
          refine vc_region hm ?_
          refine gM trivial (.inl rfl) rfl rfl rfl ?_
          refine gA trivial rfl rfl rfl rfl rfl rfl (by omega) ?_
          refine gM trivial (.inr rfl) rfl rfl rfl ?_
          refine rg_nil nofun ?_
          exact lp_nextT ⟨k + 1,(by omega),(all_step hp (pair_ne n66 n80)),rfl,rfl⟩ (by omega) (re_nil (ms:=[0,1]) (C:=999) rfl ⟨⟨⟨rfl,rfl⟩,rfl⟩,⟨⟨rfl,rfl⟩,rfl⟩,⟨⟨rfl,rfl⟩,rfl⟩,trivial⟩ ⟨ktTab (k:=0) rfl rfl (.inr (.inl rfl)) id rfl rfl,ktIn rfl id rfl,trivial⟩ rfl rfl (rig_of rfl) rfl)
       ·skip
        have p53:=bne_eq_false_iff_eq.1 c53
        refine gO ⟨_,_,rfl,rfl,c53⟩ rfl rfl ?_
        refine gO ⟨_,_,rfl,rfl,c53⟩ rfl rfl ?_
        refine gO ⟨_,_,rfl,rfl,c53⟩ rfl rfl ?_
        refine gO ⟨_,_,rfl,rfl,c53⟩ rfl rfl ?_
        refine gO ⟨_,_,rfl,rfl,c53⟩ rfl rfl ?_
        refine gO ⟨_,_,rfl,rfl,c53⟩ rfl rfl ?_
        refine gO ⟨_,_,rfl,rfl,c53⟩ rfl rfl ?_
        refine gO ⟨_,_,rfl,rfl,c53⟩ rfl rfl ?_
        refine gO ⟨_,_,rfl,rfl,c53⟩ rfl rfl ?_
        refine gO ⟨_,_,rfl,rfl,c53⟩ rfl rfl ?_
        refine gO ⟨_,_,rfl,rfl,c53⟩ rfl rfl ?_
        refine gO ⟨_,_,rfl,rfl,c53⟩ rfl rfl ?_
        refine gO ⟨_,_,rfl,rfl,c53⟩ rfl rfl ?_
        refine gO ⟨_,_,rfl,rfl,trivial⟩ rfl rfl ?_
        refine gO ⟨_,_,rfl,rfl,trivial⟩ rfl rfl ?_
        refine gO ⟨_,_,rfl,rfl,trivial⟩ rfl rfl ?_
        refine gO ⟨_,_,rfl,rfl,trivial⟩ rfl rfl ?_
        refine gO ⟨_,_,rfl,rfl,trivial⟩ rfl rfl ?_
        refine gO ⟨_,_,rfl,rfl,trivial⟩ rfl rfl ?_
        refine gO ⟨_,_,rfl,rfl,trivial⟩ rfl rfl ?_
        refine gO ⟨_,_,rfl,rfl,trivial⟩ rfl rfl ?_
        refine gO ⟨_,_,rfl,rfl,trivial⟩ rfl rfl ?_
        refine gO ⟨_,_,rfl,rfl,trivial⟩ rfl rfl ?_
        refine gO ⟨_,_,rfl,rfl,trivial⟩ rfl rfl ?_
        refine gO ⟨_,_,rfl,rfl,trivial⟩ rfl rfl ?_
        refine gO ⟨_,_,rfl,rfl,c53⟩ rfl rfl ?_
        refine gPF trivial rfl rfl c53 rfl rfl rfl ?_
        refine rg_nil (fun _=>by kernel_rfl) ?_
        refine cF rfl rfl ?_
        refine vc_skip ?_
        refine vc_region hm ?_
        refine gM trivial (.inl rfl) rfl rfl rfl ?_
        refine gA trivial rfl rfl rfl rfl rfl rfl (by omega) ?_
        refine gM trivial (.inr rfl) rfl rfl rfl ?_
        refine rg_nil nofun ?_
        exact lp_nextT ⟨k + 1,(by omega),(all_step hp (pair_eq p53)),rfl,rfl⟩ (by omega) (re_nil (ms:=[0,1]) (C:=999) rfl ⟨⟨⟨rfl,rfl⟩,rfl⟩,⟨⟨rfl,rfl⟩,rfl⟩,⟨⟨rfl,rfl⟩,rfl⟩,trivial⟩ ⟨ktTab (k:=0) rfl rfl (.inr (.inl rfl)) id rfl rfl,ktIn rfl id rfl,trivial⟩ rfl rfl (rig_of rfl) rfl)
      ·skip
       have p47:=of_decide_eq_false c47
       refine vc_exit ?_
       refine vc_region hm ?_
       refine gM trivial (.inl rfl) rfl rfl rfl ?_
       refine gA trivial rfl rfl rfl rfl rfl rfl (by omega) ?_
       refine gM trivial (.inr rfl) rfl rfl rfl ?_
       refine rg_nil nofun ?_
       exact lp_nextT ⟨i + 1,(by omega),(all_step ha (stepS_6 n21 n30 n43 hk p47 hp)),rfl,rfl⟩ (by omega) (re_nil (ms:=[0,1]) (C:=999) rfl ⟨⟨⟨rfl,rfl⟩,rfl⟩,⟨⟨rfl,rfl⟩,rfl⟩,trivial⟩ ⟨ktTab (k:=0) rfl rfl (.inr (.inl rfl)) id rfl rfl,ktIn rfl id rfl,trivial⟩ rfl rfl (rig_of rfl) rfl)
  ·skip
   have p11:=of_decide_eq_false c11
   refine vc_exit ?_
   refine vc_seq ?_
   refine vc_region hm ?_
   refine gM trivial (.inr rfl) rfl rfl rfl ?_
   refine rg_nil nofun ?_
   refine vc_ret ?_
   exact ⟨idm,ends0 (.inr rfl) rfl (eqB (okS_all p7 hi p11 ha)) rfl rfl rfl⟩
theorem meet_c (f g:Nat→Bool):FDoes Try.prog 47 [vPl f,vPl g] (hp []) { v:=vPl fun i=>f i && g i }:=by
 have hm:Try.prog.follows .mixedOrders=true:=by kernel_rfl
 have hd_:∀ x ∈ ([]:List (Nat × Bool × Fam)),∀ k y,x.2.2 k=some y→DetB (lt 0) y:=fun x_ hx=>(by cases hx)
 refine fn_exact (u0:=0) Try.func47 rfl rfl (gets rfl rfl rfl hd_ rfl) ?_
 clear hd_
 refine vc_seq ?_
 refine vc_region hm ?_
 refine gB (u':=1) trivial rfl rfl rfl rfl rfl rfl rfl (show cellsL _=plL f from rfl) ?_
 refine gB (u':=2) trivial rfl rfl rfl rfl rfl rfl rfl (show cellsL _=plL g from rfl) ?_
 refine gZ (u':=3) trivial rfl rfl rfl rfl rfl rfl rfl (show cellsL _=plL (fun _=>false) from rfl) ?_
 refine rg_nil nofun ?_
 refine vc_seq ?_
 refine vc_seq ?_
 refine vc_region hm ?_
 refine gL trivial rfl rfl rfl rfl rfl rfl rfl wPl ?_
 refine gM trivial (.inl rfl) rfl rfl rfl ?_
 refine rg_nil nofun ?_
 refine vc_block ?_
 refine vc_loop' (fun n_ S_=>∃ (j:Nat),j≤48∧n_=48 - j∧S_=⟨3,[(2,.pointer (some ⟨0,0,none⟩)),(4,.pointer (some ⟨2,0,none⟩)),(7,vPl g),(8,.int .i64 j)],[(0,true,one ⟨plL (meetTo f g j),60,48⟩),(2,true,one ⟨plL (fun _=>false),60,48⟩)]⟩) (m0:=idm) ⟨0,Nat.zero_le _,rfl,rfl⟩ (le_mk rfl ⟨⟨rfl,rfl⟩,⟨rfl,rfl⟩,⟨rfl,rfl⟩,⟨rfl,rfl⟩,trivial⟩ ⟨kFlat (plL_flat _) (eqH meet_0) id rfl,kFlat (plL_flat _) rfl id rfl,trivial⟩ rfl (fun _ _=>rfl)) ?_
 rintro n_ S_ ⟨j,hj,rfl,rfl⟩
 refine vc_seq ?_
 refine vc_region hm ?_
 refine gI trivial rfl rfl rfl rfl rfl rfl ?_
 refine rg_nil nofun ?_
 refine vc_seq ?_
 refine cI rfl (fun c9=>?_) (fun c9=>?_)
 ·skip
  have p9:=of_decide_eq_true c9
  refine vc_skip ?_
  refine vc_seq ?_
  refine vc_block ?_
  refine vc_seq ?_
  refine vc_region hm ?_
  refine gM trivial (.inl rfl) rfl rfl rfl ?_
  refine gIV trivial rfl rfl rfl rfl rfl rfl rfl rfl (by omega) (by omega) ?_
  refine gM trivial (.inr rfl) rfl rfl rfl ?_
  refine gM trivial (.inr rfl) rfl rfl rfl ?_
  refine rg_nil nofun ?_
  refine vc_region hm ?_
  refine gM trivial (.inl rfl) rfl rfl rfl ?_
  refine gM trivial (.inl rfl) rfl rfl rfl ?_
  refine gXA trivial rfl rfl rfl rfl rfl rfl rfl (by omega) (by omega) ?_
  refine gL trivial rfl rfl rfl rfl rfl rfl rfl (lPl (by omega) (by omega)) ?_
  refine gM trivial (.inl rfl) rfl rfl rfl ?_
  refine gI2 (d:=16) rfl (fun c16=>?_) (fun c16=>?_)
  ·skip
   refine gM ⟨_,_,rfl,rfl,c16⟩ (.inl rfl) rfl rfl rfl ?_
   refine gPT trivial rfl rfl c16 rfl rfl rfl ?_
   refine gXA trivial rfl rfl rfl rfl rfl rfl rfl (by omega) (by omega) ?_
   refine gT trivial rfl rfl rfl rfl rfl rfl rfl rfl rfl rfl (kPl (by omega) (by omega)) (sPl (by omega) (by omega)) ?_
   refine rg_nil nofun ?_
   refine vc_region hm ?_
   refine gA trivial rfl rfl rfl rfl rfl rfl (by omega) ?_
   refine gM trivial (.inl rfl) rfl rfl rfl ?_
   refine rg_nil nofun ?_
   exact lp_next (m:=idm) ⟨j + 1,(by omega),rfl,rfl⟩ (by omega) (le_mk rfl ⟨⟨rfl,rfl⟩,⟨rfl,rfl⟩,⟨rfl,rfl⟩,⟨rfl,rfl⟩,trivial⟩ ⟨kFlat (plL_flat _) (eqH (meet_step (by first|exact meet_b1 c16|exact meet_b2 c16))) id rfl,kFlat (plL_flat _) rfl id rfl,trivial⟩ rfl (fun _ _=>rfl))
  ·skip
   refine gO ⟨_,_,rfl,rfl,c16⟩ rfl rfl ?_
   refine gPF trivial rfl rfl c16 rfl rfl rfl ?_
   refine gXA trivial rfl rfl rfl rfl rfl rfl rfl (by omega) (by omega) ?_
   refine gT trivial rfl rfl rfl rfl rfl rfl rfl rfl rfl rfl (kPl (by omega) (by omega)) (sPl (by omega) (by omega)) ?_
   refine rg_nil nofun ?_
   refine vc_region hm ?_
   refine gA trivial rfl rfl rfl rfl rfl rfl (by omega) ?_
   refine gM trivial (.inl rfl) rfl rfl rfl ?_
   refine rg_nil nofun ?_
   exact lp_next (m:=idm) ⟨j + 1,(by omega),rfl,rfl⟩ (by omega) (le_mk rfl ⟨⟨rfl,rfl⟩,⟨rfl,rfl⟩,⟨rfl,rfl⟩,⟨rfl,rfl⟩,trivial⟩ ⟨kFlat (plL_flat _) (eqH (meet_step (by first|exact meet_b1 c16|exact meet_b2 c16))) id rfl,kFlat (plL_flat _) rfl id rfl,trivial⟩ rfl (fun _ _=>rfl))
 ·skip
  have p9:=of_decide_eq_false c9
  refine vc_exit ?_
  refine vc_seq ?_
  refine vc_region hm ?_
  refine gL trivial rfl rfl rfl rfl rfl rfl rfl wPl ?_
  refine gT trivial rfl rfl rfl rfl rfl rfl rfl rfl rfl rfl zPl pPl ?_
  refine rg_nil nofun ?_
  refine vc_ret ?_
  exact ⟨idm,endsF (.inr rfl) (.cell rfl rfl rfl rfl wPl .nil) (meet_48 (by omega)) (vPl_flat _) rfl⟩
theorem put_c (f g:Nat→Bool) (b:Bool):FDoes Try.prog 48 [vPl f,vPl g,.bool b] (hp []) { v:=vPl (putP f g b) }:=by
 have hm:Try.prog.follows .mixedOrders=true:=by kernel_rfl
 have hd_:∀ x ∈ ([]:List (Nat × Bool × Fam)),∀ k y,x.2.2 k=some y→DetB (lt 0) y:=fun x_ hx=>(by cases hx)
 refine fn_exact (u0:=0) Try.func48 rfl rfl (gets rfl rfl rfl hd_ rfl) ?_
 clear hd_
 refine vc_seq ?_
 refine vc_region hm ?_
 refine gB (u':=1) trivial rfl rfl rfl rfl rfl rfl rfl (show cellsL _=plL f from rfl) ?_
 refine gB (u':=2) trivial rfl rfl rfl rfl rfl rfl rfl (show cellsL _=plL g from rfl) ?_
 refine gZ (u':=3) trivial rfl rfl rfl rfl rfl rfl rfl (show cellsL _=plL (fun _=>false) from rfl) ?_
 refine rg_nil nofun ?_
 refine vc_seq ?_
 refine vc_seq ?_
 refine vc_region hm ?_
 refine gL trivial rfl rfl rfl rfl rfl rfl rfl wPl ?_
 refine gM trivial (.inl rfl) rfl rfl rfl ?_
 refine rg_nil nofun ?_
 refine vc_block ?_
 refine vc_loop' (fun n_ S_=>∃ (j:Nat),j≤48∧n_=48 - j∧S_=⟨3,[(2,.bool b),(3,.pointer (some ⟨0,0,none⟩)),(6,.pointer (some ⟨2,0,none⟩)),(9,vPl g),(10,.int .i64 j)],[(0,true,one ⟨plL (putTo f g b j),60,48⟩),(2,true,one ⟨plL (fun _=>false),60,48⟩)]⟩) (m0:=idm) ⟨0,Nat.zero_le _,rfl,rfl⟩ (le_mk rfl ⟨⟨rfl,rfl⟩,⟨rfl,rfl⟩,⟨rfl,rfl⟩,⟨rfl,rfl⟩,⟨rfl,rfl⟩,trivial⟩ ⟨kFlat (plL_flat _) (eqH put_0) id rfl,kFlat (plL_flat _) rfl id rfl,trivial⟩ rfl (fun _ _=>rfl)) ?_
 rintro n_ S_ ⟨j,hj,rfl,rfl⟩
 refine vc_seq ?_
 refine vc_region hm ?_
 refine gI trivial rfl rfl rfl rfl rfl rfl ?_
 refine rg_nil nofun ?_
 refine vc_seq ?_
 refine cI rfl (fun c11=>?_) (fun c11=>?_)
 ·skip
  have p11:=of_decide_eq_true c11
  refine vc_skip ?_
  refine vc_seq ?_
  refine vc_block ?_
  refine vc_seq ?_
  refine vc_region hm ?_
  refine gM trivial (.inl rfl) rfl rfl rfl ?_
  refine gIV trivial rfl rfl rfl rfl rfl rfl rfl rfl (by omega) (by omega) ?_
  refine gM trivial (.inr rfl) rfl rfl rfl ?_
  refine gM trivial (.inr rfl) rfl rfl rfl ?_
  refine rg_nil nofun ?_
  refine vc_seq ?_
  refine vc_region hm ?_
  refine gM trivial (.inl rfl) rfl rfl rfl ?_
  refine rg_nil nofun ?_
  refine cI rfl (fun c14=>?_) (fun c14=>?_)
  ·skip
   refine vc_region hm ?_
   refine gM trivial (.inl rfl) rfl rfl rfl ?_
   refine gM trivial (.inl rfl) rfl rfl rfl ?_
   refine gXA trivial rfl rfl rfl rfl rfl rfl rfl (by omega) (by omega) ?_
   refine gT trivial rfl rfl rfl rfl rfl rfl rfl rfl rfl rfl (kPl (by omega) (by omega)) (sPl (by omega) (by omega)) ?_
   refine rg_nil nofun ?_
   refine vc_region hm ?_
   refine gA trivial rfl rfl rfl rfl rfl rfl (by omega) ?_
   refine gM trivial (.inl rfl) rfl rfl rfl ?_
   refine rg_nil nofun ?_
   exact lp_next (m:=idm) ⟨j + 1,(by omega),rfl,rfl⟩ (by omega) (le_mk rfl ⟨⟨rfl,rfl⟩,⟨rfl,rfl⟩,⟨rfl,rfl⟩,⟨rfl,rfl⟩,⟨rfl,rfl⟩,trivial⟩ ⟨kFlat (plL_flat _) (eqH (by first|exact put_s1 c14|exact put_s2 c14)) id rfl,kFlat (plL_flat _) rfl id rfl,trivial⟩ rfl (fun _ _=>rfl))
  ·skip
   refine vc_skip ?_
   refine vc_region hm ?_
   refine gA trivial rfl rfl rfl rfl rfl rfl (by omega) ?_
   refine gM trivial (.inl rfl) rfl rfl rfl ?_
   refine rg_nil nofun ?_
   exact lp_next (m:=idm) ⟨j + 1,(by omega),rfl,rfl⟩ (by omega) (le_mk rfl ⟨⟨rfl,rfl⟩,⟨rfl,rfl⟩,⟨rfl,rfl⟩,⟨rfl,rfl⟩,⟨rfl,rfl⟩,trivial⟩ ⟨kFlat (plL_flat _) (eqH (by first|exact put_s1 c14|exact put_s2 c14)) id rfl,kFlat (plL_flat _) rfl id rfl,trivial⟩ rfl (fun _ _=>rfl))
 ·skip
  have p11:=of_decide_eq_false c11
  refine vc_exit ?_
  refine vc_seq ?_
  refine vc_region hm ?_
  refine gL trivial rfl rfl rfl rfl rfl rfl rfl wPl ?_
  refine gT trivial rfl rfl rfl rfl rfl rfl rfl rfl rfl rfl zPl pPl ?_
  refine rg_nil nofun ?_
  refine vc_ret ?_
  exact ⟨idm,endsF (.inr rfl) (.cell rfl rfl rfl rfl wPl .nil) (put_48 (by omega)) (vPl_flat _) rfl⟩
theorem impl_LockOk_c {T:List Ho} (hT:T.length≤1048576) (hB:∀ h ∈ T,h.r.length≤1048576∧h.w.length≤1048576):FDoes Try.prog 17 [.slice (some ⟨0,0,none⟩) T.length 0] (hp [(0,false,one ⟨rHv (tabV 1 zo T),54,0⟩),(1,false,inF zo 33 0 T)]) { v:=.bool (lockOk T),rd:=[0,1] }:=by
 have hm:Try.prog.follows .mixedOrders=true:=by kernel_rfl
 have hd_:∀ x_ ∈ ([(0,false,one ⟨rHv (tabV 1 zo T),54,0⟩),(1,false,inF zo 33 0 T)]:List (Nat × Bool × Fam)),∀ k_ y_,x_.2.2 k_=some y_→DetB (lt 2) y_:=by
  intro x_ hx k_ y_ e
  simp only [List.mem_cons,List.not_mem_nil,or_false] at hx
  rcases hx with rfl|rfl
  ·exact det_tab (k0:=0) rfl e
  ·exact det_in e
 refine fn_exact (u0:=2) Try.func17 rfl rfl (gets rfl rfl rfl hd_ rfl) ?_
 clear hd_
 refine vc_seq ?_
 refine vc_region hm ?_
 refine gM trivial (.inr rfl) rfl rfl rfl ?_
 refine rg_nil nofun ?_
 refine vc_seq ?_
 refine vc_seq ?_
 refine vc_region hm ?_
 refine gM trivial (.inl rfl) rfl rfl rfl ?_
 refine gK trivial rfl rfl rfl rfl rfl rfl tabV_nil ?_
 refine gI trivial rfl rfl rfl rfl rfl rfl ?_
 refine rg_nil nofun ?_
 refine cI rfl (fun c12=>?_) (fun c12=>?_)
 ·skip
  have p12:=bne_iff_ne.1 c12
  refine vc_seq ?_
  refine vc_region hm ?_
  refine gM trivial (.inr rfl) rfl rfl rfl ?_
  refine rg_nil nofun ?_
  refine vc_ret ?_
  exact ⟨idm,ends0 (.inr rfl) rfl (eqB (ok_len3 p12)) rfl rfl rfl⟩
 ·skip
  have p12:=bne_eq_false_iff_eq.1 c12
  refine vc_skip ?_
  refine vc_seq ?_
  refine vc_region hm ?_
  refine gZ (u':=3) trivial rfl rfl rfl rfl rfl rfl rfl (show cellsL _=plL noP from rfl) ?_
  refine gZ (u':=4) trivial rfl rfl rfl rfl rfl rfl rfl (show cellsL _=plL noP from rfl) ?_
  refine rg_nil nofun ?_
  refine vc_seq ?_
  refine vc_seq ?_
  refine vc_region hm ?_
  refine gM trivial (.inl rfl) rfl rfl rfl ?_
  refine gK trivial rfl rfl rfl rfl rfl rfl tabV_nil ?_
  refine gM trivial (.inl rfl) rfl rfl rfl ?_
  refine rg_nil nofun ?_
  refine vc_block ?_
  refine vc_loopT (fun n_ S_=>∃ (j:Nat),j≤T.length∧(List.range j).all (stepI T)=true∧n_=T.length - j∧S_=⟨4,[(3,.pointer (some ⟨2,0,none⟩)),(4,.pointer (some ⟨3,0,none⟩)),(13,.slice (some ⟨0,0,none⟩) T.length 0),(14,.int .i64 T.length),(15,.int .i64 j)],[(0,false,one ⟨rHv (tabV 1 zo T),54,0⟩),(1,false,inF zo 33 0 T),(2,true,one ⟨plL (anyP T j),60,48⟩),(3,true,one ⟨plL (wrP T j),60,48⟩)]⟩) ⟨0,Nat.zero_le _,rfl,rfl,rfl⟩ (re_nil (ms:=[0,1,2,3]) (C:=999) rfl ⟨⟨⟨rfl,rfl⟩,rfl⟩,⟨⟨rfl,rfl⟩,rfl⟩,⟨⟨rfl,rfl⟩,rfl⟩,⟨⟨rfl,rfl⟩,rfl⟩,⟨⟨rfl,rfl⟩,rfl⟩,trivial⟩ ⟨ktTab (k:=0) rfl rfl (.inr (.inl rfl)) id rfl rfl,ktIn rfl id rfl,ktFlat (plL_flat _) (eqH any_0) (.inr (.inl rfl)) id rfl,ktFlat (plL_flat _) (eqH wr_0) (.inr (.inl rfl)) id rfl,trivial⟩ rfl rfl (rig_of rfl) rfl) ?_
  rintro n_ S_ ⟨j,hj,ha,rfl,rfl⟩
  refine vc_seq ?_
  refine vc_region hm ?_
  refine gI trivial rfl rfl rfl rfl rfl rfl ?_
  refine rg_nil nofun ?_
  refine vc_seq ?_
  refine cI rfl (fun c16=>?_) (fun c16=>?_)
  ·skip
   have p16:=of_decide_eq_true c16
   refine vc_skip ?_
   refine vc_seq ?_
   refine vc_block ?_
   refine vc_seq ?_
   refine vc_region hm ?_
   refine gX trivial rfl rfl rfl rfl rfl rfl rfl rfl (by omega) p16 tabV_ne ?_
   refine gL trivial rfl rfl rfl rfl rfl rfl rfl (aH (by omega) p16) ?_
   refine gZ (u':=5) trivial rfl rfl rfl rfl rfl rfl rfl rfl ?_
   refine gT trivial rfl rfl rfl rfl rfl rfl rfl rfl rfl rfl (Nat.le_of_ble_eq_true rfl) rfl ?_
   refine rg_nil nofun ?_
   refine vc_seq ?_
   refine vc_seq ?_
   refine vc_region hm ?_
   refine gF trivial rfl rfl rfl rfl rfl ?_
   refine gL trivial rfl rfl rfl rfl rfl rfl rfl rfl ?_
   refine gCT0 [nA (nm 1 (2 * ((j:Int)).toNat))] [1] (impl_SpansOk_c (l:=(at_ T (j:Int)).r) (hB _ (at_mem (by omega) p16)).1) trivial rfl rfl rfl rfl rfl ⟨aRow rfl (rSp_flat _) rfl (inF_0 (by omega) p16) (.inl rfl) (.inl rfl) rfl,trivial⟩ rfl rfl rfl rfl ?_
   refine gN trivial rfl rfl rfl rfl ?_
   refine gM trivial (.inl rfl) rfl rfl rfl ?_
   refine gI2 (d:=23) rfl (fun c23=>?_) (fun c23=>?_)
   ·skip
    have n23:=unT c23
    refine gO ⟨_,_,rfl,rfl,c23⟩ rfl rfl ?_
    refine gO ⟨_,_,rfl,rfl,c23⟩ rfl rfl ?_
    refine gO ⟨_,_,rfl,rfl,c23⟩ rfl rfl ?_
    refine gO ⟨_,_,rfl,rfl,c23⟩ rfl rfl ?_
    refine gPT trivial rfl rfl c23 rfl rfl rfl ?_
    refine rg_nil nofun ?_
    refine cT rfl rfl ?_
    refine vc_seq ?_
    refine vc_region hm ?_
    refine gM trivial (.inr rfl) rfl rfl rfl ?_
    refine rg_nil nofun ?_
    refine vc_ret ?_
    exact ⟨idm,ends0 (.inr rfl) rfl (eqB (okI_at p16 (by first|exact stepI_1 (by assumption)|exact stepI_2 (by assumption)|exact stepI_3 (by assumption)|exact stepI_4 (by assumption)|exact stepI_5 (by assumption)))) rfl rfl rfl⟩
   ·skip
    have n23:=unF c23
    refine gF ⟨_,_,rfl,rfl,c23⟩ rfl rfl rfl rfl rfl ?_
    refine gL ⟨_,_,rfl,rfl,c23⟩ rfl rfl rfl rfl rfl rfl rfl rfl ?_
    refine gCT0 [nA (nm 1 (2 * ((j:Int)).toNat + 1))] [1] (impl_SpansOk_c (l:=(at_ T (j:Int)).w) (hB _ (at_mem (by omega) p16)).2) ⟨_,_,rfl,rfl,c23⟩ rfl rfl rfl rfl rfl ⟨aRow rfl (rSp_flat _) rfl (inF_1 (by omega) p16) (.inl rfl) (.inl rfl) rfl,trivial⟩ rfl rfl rfl rfl ?_
    refine gN ⟨_,_,rfl,rfl,c23⟩ rfl rfl rfl rfl ?_
    refine gPF trivial rfl rfl c23 rfl rfl rfl ?_
    refine rg_nil nofun ?_
    refine cI rfl (fun c28=>?_) (fun c28=>?_)
    ·skip
     have n28:=unT c28
     refine vc_seq ?_
     refine vc_region hm ?_
     refine gM trivial (.inr rfl) rfl rfl rfl ?_
     refine rg_nil nofun ?_
     refine vc_ret ?_
     exact ⟨idm,ends0 (.inr rfl) rfl (eqB (okI_at p16 (by first|exact stepI_1 (by assumption)|exact stepI_2 (by assumption)|exact stepI_3 (by assumption)|exact stepI_4 (by assumption)|exact stepI_5 (by assumption)))) rfl rfl rfl⟩
    ·skip
     have n28:=unF c28
     refine vc_skip ?_
     refine vc_seq ?_
     refine vc_region hm ?_
     refine gF trivial rfl rfl rfl rfl rfl ?_
     refine gL trivial rfl rfl rfl rfl rfl rfl rfl rfl ?_
     refine gCT0 [nA (nm 1 (2 * ((j:Int)).toNat))] [1] (of_c (l:=(at_ T (j:Int)).r) (inB_of (by assumption)) (by have:=spansOk_len (l:=(at_ T (j:Int)).r) (by assumption);omega)) trivial rfl rfl rfl rfl rfl ⟨aRow rfl (rSp_flat _) rfl (inF_0 (by omega) p16) (.inl rfl) (.inl rfl) rfl,trivial⟩ (vPl_flat _) rfl rfl rfl ?_
     refine gF trivial rfl rfl rfl rfl rfl ?_
     refine gL trivial rfl rfl rfl rfl rfl rfl rfl rfl ?_
     refine gCT0 [nA (nm 1 (2 * ((j:Int)).toNat + 1))] [1] (of_c (l:=(at_ T (j:Int)).w) (inB_of (by assumption)) (by have:=spansOk_len (l:=(at_ T (j:Int)).w) (by assumption);omega)) trivial rfl rfl rfl rfl rfl ⟨aRow rfl (rSp_flat _) rfl (inF_1 (by omega) p16) (.inl rfl) (.inl rfl) rfl,trivial⟩ (vPl_flat _) rfl rfl rfl ?_
     refine gZ (u':=6) trivial rfl rfl rfl rfl rfl rfl rfl (show cellsL _=plL noP from rfl) ?_
     refine gZ (u':=7) trivial rfl rfl rfl rfl rfl rfl rfl (show cellsL _=plL noP from rfl) ?_
     refine gT trivial rfl rfl rfl rfl rfl rfl rfl rfl rfl rfl zPl pPl ?_
     refine gT trivial rfl rfl rfl rfl rfl rfl rfl rfl rfl rfl zPl pPl ?_
     refine rg_nil (fun _=>by kernel_rfl) ?_
     refine vc_seq ?_
     refine vc_region hm ?_
     refine gU trivial rfl rfl rfl rfl rfl rfl rfl rfl ?_
     refine gZ (u':=8) trivial rfl rfl rfl rfl rfl rfl rfl (show cellsL _=plL noP from rfl) ?_
     refine gT trivial rfl rfl rfl rfl rfl rfl rfl rfl rfl rfl zPl (show putL _ 0 _=plL noP from rfl) ?_
     refine rg_nil nofun ?_
     refine vc_seq ?_
     refine vc_seq ?_
     refine vc_region hm ?_
     refine gL trivial rfl rfl rfl rfl rfl rfl rfl wPl ?_
     refine gL trivial rfl rfl rfl rfl rfl rfl rfl wPl ?_
     refine gC0 [] (meet_c (ofP (at_ T (j:Int)).r) (ofP (at_ T (j:Int)).w)) trivial rfl rfl rfl rfl (by trivial) rfl rfl (vPl_flat _) rfl rfl ?_
     refine gL trivial rfl rfl rfl rfl rfl rfl rfl wPl ?_
     refine gEqPn trivial rfl rfl rfl rfl rfl (by kernel_rfl) rfl rfl rfl rfl ?_
     refine gM trivial (.inl rfl) rfl rfl rfl ?_
     refine gI2 (d:=41) rfl (fun c41=>?_) (fun c41=>?_)
     ·skip
      have n41:=unT c41
      refine gO ⟨_,_,rfl,rfl,c41⟩ rfl rfl ?_
      refine gO ⟨_,_,rfl,rfl,c41⟩ rfl rfl ?_
      refine gO ⟨_,_,rfl,rfl,c41⟩ rfl rfl ?_
      refine gO ⟨_,_,rfl,rfl,c41⟩ rfl rfl ?_
      refine gO ⟨_,_,rfl,rfl,c41⟩ rfl rfl ?_
      refine gPT trivial rfl rfl c41 rfl rfl rfl ?_
      refine gM trivial (.inl rfl) rfl rfl rfl ?_
      refine gO ⟨_,_,rfl,rfl,rfl⟩ rfl rfl ?_
      refine gO ⟨_,_,rfl,rfl,rfl⟩ rfl rfl ?_
      refine gO ⟨_,_,rfl,rfl,rfl⟩ rfl rfl ?_
      refine gO ⟨_,_,rfl,rfl,rfl⟩ rfl rfl ?_
      refine gO ⟨_,_,rfl,rfl,rfl⟩ rfl rfl ?_
      refine gPT trivial rfl rfl rfl rfl rfl rfl ?_
      refine rg_nil (fun _=>by kernel_rfl) ?_
      refine cT rfl rfl ?_
      refine vc_seq ?_
      refine vc_region hm ?_
      refine gM trivial (.inr rfl) rfl rfl rfl ?_
      refine rg_nil nofun ?_
      refine vc_ret ?_
      exact ⟨idm,ends0 (.inr rfl) rfl (eqB (okI_at p16 (by first|exact stepI_1 (by assumption)|exact stepI_2 (by assumption)|exact stepI_3 (by assumption)|exact stepI_4 (by assumption)|exact stepI_5 (by assumption)))) rfl rfl rfl⟩
     ·skip
      have n41:=unF c41
      refine gL ⟨_,_,rfl,rfl,c41⟩ rfl rfl rfl rfl rfl rfl rfl wPl ?_
      refine gL ⟨_,_,rfl,rfl,c41⟩ rfl rfl rfl rfl rfl rfl rfl wPl ?_
      refine gC0 [] (meet_c (ofP (at_ T (j:Int)).w) (anyP T j)) ⟨_,_,rfl,rfl,c41⟩ rfl rfl rfl rfl (by trivial) rfl rfl (vPl_flat _) rfl rfl ?_
      refine gL ⟨_,_,rfl,rfl,c41⟩ rfl rfl rfl rfl rfl rfl rfl wPl ?_
      refine gEqPn ⟨_,_,rfl,rfl,c41⟩ rfl rfl rfl rfl rfl (by kernel_rfl) rfl rfl rfl rfl ?_
      refine gPF trivial rfl rfl c41 rfl rfl rfl ?_
      refine gM trivial (.inl rfl) rfl rfl rfl ?_
      refine gI2 (d:=48) rfl (fun c48=>?_) (fun c48=>?_)
      ·skip
       have n48:=unT c48
       refine gO ⟨_,_,rfl,rfl,c48⟩ rfl rfl ?_
       refine gO ⟨_,_,rfl,rfl,c48⟩ rfl rfl ?_
       refine gO ⟨_,_,rfl,rfl,c48⟩ rfl rfl ?_
       refine gO ⟨_,_,rfl,rfl,c48⟩ rfl rfl ?_
       refine gO ⟨_,_,rfl,rfl,c48⟩ rfl rfl ?_
       refine gPT trivial rfl rfl c48 rfl rfl rfl ?_
       refine rg_nil (fun _=>by kernel_rfl) ?_
       refine cT rfl rfl ?_
       refine vc_seq ?_
       refine vc_region hm ?_
       refine gM trivial (.inr rfl) rfl rfl rfl ?_
       refine rg_nil nofun ?_
       refine vc_ret ?_
       exact ⟨idm,ends0 (.inr rfl) rfl (eqB (okI_at p16 (by first|exact stepI_1 (by assumption)|exact stepI_2 (by assumption)|exact stepI_3 (by assumption)|exact stepI_4 (by assumption)|exact stepI_5 (by assumption)))) rfl rfl rfl⟩
      ·skip
       have n48:=unF c48
       refine gL ⟨_,_,rfl,rfl,c48⟩ rfl rfl rfl rfl rfl rfl rfl wPl ?_
       refine gL ⟨_,_,rfl,rfl,c48⟩ rfl rfl rfl rfl rfl rfl rfl wPl ?_
       refine gC0 [] (meet_c (ofP (at_ T (j:Int)).r) (wrP T j)) ⟨_,_,rfl,rfl,c48⟩ rfl rfl rfl rfl (by trivial) rfl rfl (vPl_flat _) rfl rfl ?_
       refine gL ⟨_,_,rfl,rfl,c48⟩ rfl rfl rfl rfl rfl rfl rfl wPl ?_
       refine gEqPn ⟨_,_,rfl,rfl,c48⟩ rfl rfl rfl rfl rfl (by kernel_rfl) rfl rfl rfl rfl ?_
       refine gPF trivial rfl rfl c48 rfl rfl rfl ?_
       refine rg_nil (fun _=>by kernel_rfl) ?_
       refine cI rfl (fun c54=>?_) (fun c54=>?_)
       ·skip
        have n54:=unT c54
        refine vc_seq ?_
        refine vc_region hm ?_
        refine gM trivial (.inr rfl) rfl rfl rfl ?_
        refine rg_nil nofun ?_
        refine vc_ret ?_
        exact ⟨idm,ends0 (.inr rfl) rfl (eqB (okI_at p16 (by first|exact stepI_1 (by assumption)|exact stepI_2 (by assumption)|exact stepI_3 (by assumption)|exact stepI_4 (by assumption)|exact stepI_5 (by assumption)))) rfl rfl rfl⟩
       ·skip
        have n54:=unF c54
        refine vc_skip ?_
        refine vc_seq ?_
        refine vc_region hm ?_
        refine gL trivial rfl rfl rfl rfl rfl rfl rfl wPl ?_
        refine gL trivial rfl rfl rfl rfl rfl rfl rfl wPl ?_
        refine gC0 [] (put_c (wrP T j) (ofP (at_ T (j:Int)).w) true) trivial rfl rfl rfl rfl (by trivial) rfl rfl (vPl_flat _) rfl rfl ?_
        refine gT trivial rfl rfl rfl rfl rfl rfl rfl rfl rfl rfl zPl pPl ?_
        refine rg_nil nofun ?_
        refine vc_region hm ?_
        refine gL trivial rfl rfl rfl rfl rfl rfl rfl wPl ?_
        refine gL trivial rfl rfl rfl rfl rfl rfl rfl wPl ?_
        refine gC0 [] (put_c (anyP T j) (ofP (at_ T (j:Int)).w) true) trivial rfl rfl rfl rfl (by trivial) rfl rfl (vPl_flat _) rfl rfl ?_
        refine gL trivial rfl rfl rfl rfl rfl rfl rfl wPl ?_
        refine gC0 [] (put_c (putP (anyP T j) (ofP (at_ T (j:Int)).w) true) (ofP (at_ T (j:Int)).r) true) trivial rfl rfl rfl rfl (by trivial) rfl rfl (vPl_flat _) rfl rfl ?_
        refine gT trivial rfl rfl rfl rfl rfl rfl rfl rfl rfl rfl zPl pPl ?_
        refine rg_nil (fun _=>by kernel_rfl) ?_
        refine vc_region hm ?_
        refine gA trivial rfl rfl rfl rfl rfl rfl (by omega) ?_
        refine gM trivial (.inl rfl) rfl rfl rfl ?_
        refine rg_nil nofun ?_
        exact lp_nextT ⟨j + 1,(by omega),(all_step ha (stepI_6 n23 n28 n41 n48 n54)),rfl,rfl⟩ (by omega) (re_nil (ms:=[0,1,2,3]) (C:=999) rfl ⟨⟨⟨rfl,rfl⟩,rfl⟩,⟨⟨rfl,rfl⟩,rfl⟩,⟨⟨rfl,rfl⟩,rfl⟩,⟨⟨rfl,rfl⟩,rfl⟩,⟨⟨rfl,rfl⟩,rfl⟩,trivial⟩ ⟨ktTab (k:=0) rfl rfl (.inr (.inl rfl)) id rfl rfl,ktIn rfl id rfl,ktFlat (plL_flat _) (eqH (any_next p16)) (.inr (.inl rfl)) id rfl,ktFlat (plL_flat _) (eqH (wr_next p16)) (.inr (.inl rfl)) id rfl,trivial⟩ rfl rfl (rig_of rfl) rfl)
  ·skip
   have p16:=of_decide_eq_false c16
   refine vc_exit ?_
   refine vc_seq ?_
   refine vc_region hm ?_
   refine gM trivial (.inr rfl) rfl rfl rfl ?_
   refine rg_nil nofun ?_
   refine vc_ret ?_
   exact ⟨idm,ends0 (.inr rfl) rfl (eqB (okI_all p12 hj p16 ha)) rfl rfl rfl⟩
theorem spec_LockMay_c {T:List Ho} {who:Int} {write:Bool} {s:Sp} (hT:T.length≤1048576) (hB:∀ h ∈ T,h.r.length≤1048576∧h.w.length≤1048576):FDoes Try.prog 18 [.slice (some ⟨0,0,none⟩) T.length 0,.int .i64 who,.bool write,vSp s] (hp [(0,false,one ⟨rHv (tabV 1 zo T),54,0⟩),(1,false,inF zo 33 0 T)]) { v:=.bool (lockMay T who write s),rd:=[0,1] }:=by
 have hm:Try.prog.follows .mixedOrders=true:=by kernel_rfl
 have hd_:∀ x_ ∈ ([(0,false,one ⟨rHv (tabV 1 zo T),54,0⟩),(1,false,inF zo 33 0 T)]:List (Nat × Bool × Fam)),∀ k_ y_,x_.2.2 k_=some y_→DetB (lt 2) y_:=by
  intro x_ hx k_ y_ e
  simp only [List.mem_cons,List.not_mem_nil,or_false] at hx
  rcases hx with rfl|rfl
  ·exact det_tab (k0:=0) rfl e
  ·exact det_in e
 refine fn_exact (u0:=2) Try.func18 rfl rfl (gets rfl rfl rfl hd_ rfl) ?_
 clear hd_
 refine vc_seq ?_
 refine vc_region hm ?_
 refine gB (u':=3) trivial rfl rfl rfl rfl rfl rfl rfl rfl ?_
 refine gM trivial (.inr rfl) rfl rfl rfl ?_
 refine rg_nil nofun ?_
 refine vc_seq ?_
 refine vc_region hm ?_
 refine gM trivial (.inl rfl) rfl rfl rfl ?_
 refine gCT0 [nA (nm 0 (0)),nF 1] [0,1] (spec_LockOk_c (T:=T) hT hB) trivial rfl rfl rfl rfl rfl ⟨aTab (k:=0) rfl rfl rfl rfl (.inl rfl) (.inl rfl) rfl rfl,aIn rfl rfl (.inl rfl) (.inl rfl) rfl,trivial⟩ rfl rfl rfl rfl ?_
 refine gM trivial (.inl rfl) rfl rfl rfl ?_
 refine gI2 (d:=11) rfl (fun c11=>?_) (fun c11=>?_)
 ·skip
  refine gM ⟨_,_,rfl,rfl,c11⟩ (.inl rfl) rfl rfl rfl ?_
  refine gC0 [] (spec_l4Who_c who) ⟨_,_,rfl,rfl,c11⟩ rfl rfl rfl rfl (by trivial) rfl rfl rfl rfl rfl ?_
  refine gPT trivial rfl rfl c11 rfl rfl rfl ?_
  refine gM trivial (.inl rfl) rfl rfl rfl ?_
  refine gI2 (d:=15) rfl (fun c15=>?_) (fun c15=>?_)
  ·skip
   refine gL ⟨_,_,rfl,rfl,c15⟩ rfl rfl rfl rfl rfl rfl rfl rfl ?_
   refine gC0 [] (spec_SpanOk_c s) ⟨_,_,rfl,rfl,c15⟩ rfl rfl rfl rfl (by trivial) rfl rfl rfl rfl rfl ?_
   refine gPT trivial rfl rfl c15 rfl rfl rfl ?_
   refine gM trivial (.inl rfl) rfl rfl rfl ?_
   refine gI2 (d:=19) rfl (fun c19=>?_) (fun c19=>?_)
   ·skip
    refine gM ⟨_,_,rfl,rfl,c19⟩ (.inl rfl) rfl rfl rfl ?_
    refine gM ⟨_,_,rfl,rfl,c19⟩ (.inl rfl) rfl rfl rfl ?_
    refine gX ⟨_,_,rfl,rfl,c19⟩ rfl rfl rfl rfl rfl rfl rfl rfl (by have:=whoOk_in (who:=who) (by assumption);have:=ok_3 (T:=T) (by assumption);omega) (by have:=whoOk_in (who:=who) (by assumption);have:=ok_3 (T:=T) (by assumption);omega) tabV_ne ?_
    refine gL ⟨_,_,rfl,rfl,c19⟩ rfl rfl rfl rfl rfl rfl rfl (aH (by have:=whoOk_in (who:=who) (by assumption);have:=ok_3 (T:=T) (by assumption);omega) (by have:=whoOk_in (who:=who) (by assumption);have:=ok_3 (T:=T) (by assumption);omega)) ?_
    refine gM ⟨_,_,rfl,rfl,c19⟩ (.inl rfl) rfl rfl rfl ?_
    refine gL ⟨_,_,rfl,rfl,c19⟩ rfl rfl rfl rfl rfl rfl rfl rfl ?_
    refine gCT0 [nA (nm 1 (2 * (who).toNat)),nA (nm 1 (2 * (who).toNat + 1))] [1] (spec_l4May_c (h:=(at_ T who)) (write:=write) (s:=s) (hB _ (at_mem (by have:=whoOk_in (who:=who) (by assumption);have:=ok_3 (T:=T) (by assumption);omega) (by have:=whoOk_in (who:=who) (by assumption);have:=ok_3 (T:=T) (by assumption);omega))).1 (hB _ (at_mem (by have:=whoOk_in (who:=who) (by assumption);have:=ok_3 (T:=T) (by assumption);omega) (by have:=whoOk_in (who:=who) (by assumption);have:=ok_3 (T:=T) (by assumption);omega))).2 (spanOk_in (by assumption))) ⟨_,_,rfl,rfl,c19⟩ rfl rfl rfl rfl rfl ⟨aRow rfl (rSp_flat _) rfl (inF_0 (by have:=whoOk_in (who:=who) (by assumption);have:=ok_3 (T:=T) (by assumption);omega) (by have:=whoOk_in (who:=who) (by assumption);have:=ok_3 (T:=T) (by assumption);omega)) (.inl rfl) (.inl rfl) rfl,aRow rfl (rSp_flat _) rfl (inF_1 (by have:=whoOk_in (who:=who) (by assumption);have:=ok_3 (T:=T) (by assumption);omega) (by have:=whoOk_in (who:=who) (by assumption);have:=ok_3 (T:=T) (by assumption);omega)) (.inl rfl) (.inl rfl) rfl,trivial⟩ rfl rfl rfl rfl ?_
    refine gPT trivial rfl rfl c19 rfl rfl rfl ?_
    refine gM trivial (.inr rfl) rfl rfl rfl ?_
    refine rg_nil (fun _=>by kernel_rfl) ?_
    refine vc_ret ?_
    exact ⟨idm,ends0 (.inr rfl) rfl (eqB (lm_4 (by assumption) (by assumption) (by assumption))) rfl rfl rfl⟩
   ·skip
    refine gO ⟨_,_,rfl,rfl,c19⟩ rfl rfl ?_
    refine gO ⟨_,_,rfl,rfl,c19⟩ rfl rfl ?_
    refine gO ⟨_,_,rfl,rfl,c19⟩ rfl rfl ?_
    refine gO ⟨_,_,rfl,rfl,c19⟩ rfl rfl ?_
    refine gO ⟨_,_,rfl,rfl,c19⟩ rfl rfl ?_
    refine gO ⟨_,_,rfl,rfl,c19⟩ rfl rfl ?_
    refine gO ⟨_,_,rfl,rfl,c19⟩ rfl rfl ?_
    refine gPF trivial rfl rfl c19 rfl rfl rfl ?_
    refine gM trivial (.inr rfl) rfl rfl rfl ?_
    refine rg_nil (fun _=>by kernel_rfl) ?_
    refine vc_ret ?_
    exact ⟨idm,ends0 (.inr rfl) rfl (eqB (by first|exact lm_1 (by assumption)|exact lm_2 (by assumption)|exact lm_3 (by assumption))) rfl rfl rfl⟩
  ·skip
   refine gO ⟨_,_,rfl,rfl,c15⟩ rfl rfl ?_
   refine gO ⟨_,_,rfl,rfl,c15⟩ rfl rfl ?_
   refine gPF trivial rfl rfl c15 rfl rfl rfl ?_
   refine gM trivial (.inl rfl) rfl rfl rfl ?_
   refine gO ⟨_,_,rfl,rfl,rfl⟩ rfl rfl ?_
   refine gO ⟨_,_,rfl,rfl,rfl⟩ rfl rfl ?_
   refine gO ⟨_,_,rfl,rfl,rfl⟩ rfl rfl ?_
   refine gO ⟨_,_,rfl,rfl,rfl⟩ rfl rfl ?_
   refine gO ⟨_,_,rfl,rfl,rfl⟩ rfl rfl ?_
   refine gO ⟨_,_,rfl,rfl,rfl⟩ rfl rfl ?_
   refine gO ⟨_,_,rfl,rfl,rfl⟩ rfl rfl ?_
   refine gPF trivial rfl rfl rfl rfl rfl rfl ?_
   refine gM trivial (.inr rfl) rfl rfl rfl ?_
   refine rg_nil (fun _=>by kernel_rfl) ?_
   refine vc_ret ?_
   exact ⟨idm,ends0 (.inr rfl) rfl (eqB (by first|exact lm_1 (by assumption)|exact lm_2 (by assumption)|exact lm_3 (by assumption))) rfl rfl rfl⟩
 ·skip
  refine gO ⟨_,_,rfl,rfl,c11⟩ rfl rfl ?_
  refine gO ⟨_,_,rfl,rfl,c11⟩ rfl rfl ?_
  refine gPF trivial rfl rfl c11 rfl rfl rfl ?_
  refine gM trivial (.inl rfl) rfl rfl rfl ?_
  refine gO ⟨_,_,rfl,rfl,rfl⟩ rfl rfl ?_
  refine gO ⟨_,_,rfl,rfl,rfl⟩ rfl rfl ?_
  refine gPF trivial rfl rfl rfl rfl rfl rfl ?_
  refine gM trivial (.inl rfl) rfl rfl rfl ?_
  refine gO ⟨_,_,rfl,rfl,rfl⟩ rfl rfl ?_
  refine gO ⟨_,_,rfl,rfl,rfl⟩ rfl rfl ?_
  refine gO ⟨_,_,rfl,rfl,rfl⟩ rfl rfl ?_
  refine gO ⟨_,_,rfl,rfl,rfl⟩ rfl rfl ?_
  refine gO ⟨_,_,rfl,rfl,rfl⟩ rfl rfl ?_
  refine gO ⟨_,_,rfl,rfl,rfl⟩ rfl rfl ?_
  refine gO ⟨_,_,rfl,rfl,rfl⟩ rfl rfl ?_
  refine gPF trivial rfl rfl rfl rfl rfl rfl ?_
  refine gM trivial (.inr rfl) rfl rfl rfl ?_
  refine rg_nil (fun _=>by kernel_rfl) ?_
  refine vc_ret ?_
  exact ⟨idm,ends0 (.inr rfl) rfl (eqB (by first|exact lm_1 (by assumption)|exact lm_2 (by assumption)|exact lm_3 (by assumption))) rfl rfl rfl⟩
theorem impl_LockMay_c {T:List Ho} {who:Int} {write:Bool} {s:Sp} (hT:T.length≤1048576) (hB:∀ h ∈ T,h.r.length≤1048576∧h.w.length≤1048576):FDoes Try.prog 20 [.slice (some ⟨0,0,none⟩) T.length 0,.int .i64 who,.bool write,vSp s] (hp [(0,false,one ⟨rHv (tabV 1 zo T),54,0⟩),(1,false,inF zo 33 0 T)]) { v:=.bool (lockMay T who write s),rd:=[0,1] }:=by
 have hm:Try.prog.follows .mixedOrders=true:=by kernel_rfl
 have hd_:∀ x_ ∈ ([(0,false,one ⟨rHv (tabV 1 zo T),54,0⟩),(1,false,inF zo 33 0 T)]:List (Nat × Bool × Fam)),∀ k_ y_,x_.2.2 k_=some y_→DetB (lt 2) y_:=by
  intro x_ hx k_ y_ e
  simp only [List.mem_cons,List.not_mem_nil,or_false] at hx
  rcases hx with rfl|rfl
  ·exact det_tab (k0:=0) rfl e
  ·exact det_in e
 refine fn_exact (u0:=2) Try.func20 rfl rfl (gets rfl rfl rfl hd_ rfl) ?_
 clear hd_
 refine vc_seq ?_
 refine vc_region hm ?_
 refine gB (u':=3) trivial rfl rfl rfl rfl rfl rfl rfl rfl ?_
 refine gM trivial (.inr rfl) rfl rfl rfl ?_
 refine rg_nil nofun ?_
 refine vc_seq ?_
 refine vc_seq ?_
 refine vc_region hm ?_
 refine gM trivial (.inl rfl) rfl rfl rfl ?_
 refine gCT0 [nA (nm 0 (0)),nF 1] [0,1] (impl_LockOk_c (T:=T) hT hB) trivial rfl rfl rfl rfl rfl ⟨aTab (k:=0) rfl rfl rfl rfl (.inl rfl) (.inl rfl) rfl rfl,aIn rfl rfl (.inl rfl) (.inl rfl) rfl,trivial⟩ rfl rfl rfl rfl ?_
 refine gN trivial rfl rfl rfl rfl ?_
 refine gM trivial (.inl rfl) rfl rfl rfl ?_
 refine gI2 (d:=13) rfl (fun c13=>?_) (fun c13=>?_)
 ·skip
  have n13:=unT c13
  refine gO ⟨_,_,rfl,rfl,c13⟩ rfl rfl ?_
  refine gO ⟨_,_,rfl,rfl,c13⟩ rfl rfl ?_
  refine gO ⟨_,_,rfl,rfl,c13⟩ rfl rfl ?_
  refine gPT trivial rfl rfl c13 rfl rfl rfl ?_
  refine gM trivial (.inl rfl) rfl rfl rfl ?_
  refine gO ⟨_,_,rfl,rfl,rfl⟩ rfl rfl ?_
  refine gO ⟨_,_,rfl,rfl,rfl⟩ rfl rfl ?_
  refine gO ⟨_,_,rfl,rfl,rfl⟩ rfl rfl ?_
  refine gPT trivial rfl rfl rfl rfl rfl rfl ?_
  refine rg_nil nofun ?_
  refine cT rfl rfl ?_
  refine vc_seq ?_
  refine vc_region hm ?_
  refine gM trivial (.inr rfl) rfl rfl rfl ?_
  refine rg_nil nofun ?_
  refine vc_ret ?_
  exact ⟨idm,ends0 (.inr rfl) rfl (eqB (by first|exact lm_1 (by assumption)|exact lm_2 (by assumption)|exact lm_3 (by assumption))) rfl rfl rfl⟩
 ·skip
  have n13:=unF c13
  refine gM ⟨_,_,rfl,rfl,c13⟩ (.inl rfl) rfl rfl rfl ?_
  refine gC0 [] (client_c who) ⟨_,_,rfl,rfl,c13⟩ rfl rfl rfl rfl (by trivial) rfl rfl rfl rfl rfl ?_
  refine gN ⟨_,_,rfl,rfl,c13⟩ rfl rfl rfl rfl ?_
  refine gPF trivial rfl rfl c13 rfl rfl rfl ?_
  refine gM trivial (.inl rfl) rfl rfl rfl ?_
  refine gI2 (d:=18) rfl (fun c18=>?_) (fun c18=>?_)
  ·skip
   have n18:=unT c18
   refine gO ⟨_,_,rfl,rfl,c18⟩ rfl rfl ?_
   refine gO ⟨_,_,rfl,rfl,c18⟩ rfl rfl ?_
   refine gO ⟨_,_,rfl,rfl,c18⟩ rfl rfl ?_
   refine gPT trivial rfl rfl c18 rfl rfl rfl ?_
   refine rg_nil nofun ?_
   refine cT rfl rfl ?_
   refine vc_seq ?_
   refine vc_region hm ?_
   refine gM trivial (.inr rfl) rfl rfl rfl ?_
   refine rg_nil nofun ?_
   refine vc_ret ?_
   exact ⟨idm,ends0 (.inr rfl) rfl (eqB (by first|exact lm_1 (by assumption)|exact lm_2 (by assumption)|exact lm_3 (by assumption))) rfl rfl rfl⟩
  ·skip
   have n18:=unF c18
   refine gL ⟨_,_,rfl,rfl,c18⟩ rfl rfl rfl rfl rfl rfl rfl rfl ?_
   refine gC0 [] (impl_SpanOk_c s) ⟨_,_,rfl,rfl,c18⟩ rfl rfl rfl rfl (by trivial) rfl rfl rfl rfl rfl ?_
   refine gN ⟨_,_,rfl,rfl,c18⟩ rfl rfl rfl rfl ?_
   refine gPF trivial rfl rfl c18 rfl rfl rfl ?_
   refine rg_nil nofun ?_
   refine cI rfl (fun c22=>?_) (fun c22=>?_)
   ·skip
    have n22:=unT c22
    refine vc_seq ?_
    refine vc_region hm ?_
    refine gM trivial (.inr rfl) rfl rfl rfl ?_
    refine rg_nil nofun ?_
    refine vc_ret ?_
    exact ⟨idm,ends0 (.inr rfl) rfl (eqB (by first|exact lm_1 (by assumption)|exact lm_2 (by assumption)|exact lm_3 (by assumption))) rfl rfl rfl⟩
   ·skip
    have n22:=unF c22
    refine vc_skip ?_
    refine vc_seq ?_
    refine vc_region hm ?_
    refine gM trivial (.inl rfl) rfl rfl rfl ?_
    refine gM trivial (.inl rfl) rfl rfl rfl ?_
    refine gX trivial rfl rfl rfl rfl rfl rfl rfl rfl (by have:=whoOk_in (who:=who) (by assumption);have:=ok_3 (T:=T) (by assumption);omega) (by have:=whoOk_in (who:=who) (by assumption);have:=ok_3 (T:=T) (by assumption);omega) tabV_ne ?_
    refine gF trivial rfl rfl rfl rfl rfl ?_
    refine gL trivial rfl rfl rfl rfl rfl rfl rfl (lH1 (by have:=whoOk_in (who:=who) (by assumption);have:=ok_3 (T:=T) (by assumption);omega) (by have:=whoOk_in (who:=who) (by assumption);have:=ok_3 (T:=T) (by assumption);omega)) ?_
    refine gCT0 [nA (nm 1 (2 * (who).toNat + 1))] [1] (of_c (l:=(at_ T who).w) (inB_of (okW (by assumption) (by assumption)).2) (by have:=spansOk_len (l:=(at_ T who).w) (okW (by assumption) (by assumption)).2;omega)) trivial rfl rfl rfl rfl rfl ⟨aRow rfl (rSp_flat _) rfl (inF_1 (by have:=whoOk_in (who:=who) (by assumption);have:=ok_3 (T:=T) (by assumption);omega) (by have:=whoOk_in (who:=who) (by assumption);have:=ok_3 (T:=T) (by assumption);omega)) (.inl rfl) (.inl rfl) rfl,trivial⟩ (vPl_flat _) rfl rfl rfl ?_
    refine gZ (u':=4) trivial rfl rfl rfl rfl rfl rfl rfl (show cellsL _=plL noP from rfl) ?_
    refine gT trivial rfl rfl rfl rfl rfl rfl rfl rfl rfl rfl zPl pPl ?_
    refine rg_nil nofun ?_
    refine vc_seq ?_
    refine vc_seq ?_
    refine vc_region hm ?_
    refine gM trivial (.inl rfl) rfl rfl rfl ?_
    refine gN trivial rfl rfl rfl rfl ?_
    refine rg_nil nofun ?_
    refine cI rfl (fun c30=>?_) (fun c30=>?_)
    ·skip
     have n30:=unT c30
     refine vc_region hm ?_
     refine gL trivial rfl rfl rfl rfl rfl rfl rfl wPl ?_
     refine gM trivial (.inl rfl) rfl rfl rfl ?_
     refine gM trivial (.inl rfl) rfl rfl rfl ?_
     refine gX trivial rfl rfl rfl rfl rfl rfl rfl rfl (by have:=whoOk_in (who:=who) (by assumption);have:=ok_3 (T:=T) (by assumption);omega) (by have:=whoOk_in (who:=who) (by assumption);have:=ok_3 (T:=T) (by assumption);omega) tabV_ne ?_
     refine gF trivial rfl rfl rfl rfl rfl ?_
     refine gL trivial rfl rfl rfl rfl rfl rfl rfl (lH0 (by have:=whoOk_in (who:=who) (by assumption);have:=ok_3 (T:=T) (by assumption);omega) (by have:=whoOk_in (who:=who) (by assumption);have:=ok_3 (T:=T) (by assumption);omega)) ?_
     refine gCT0 [nA (nm 1 (2 * (who).toNat))] [1] (of_c (l:=(at_ T who).r) (inB_of (okW (by assumption) (by assumption)).1) (by have:=spansOk_len (l:=(at_ T who).r) (okW (by assumption) (by assumption)).1;omega)) trivial rfl rfl rfl rfl rfl ⟨aRow rfl (rSp_flat _) rfl (inF_0 (by have:=whoOk_in (who:=who) (by assumption);have:=ok_3 (T:=T) (by assumption);omega) (by have:=whoOk_in (who:=who) (by assumption);have:=ok_3 (T:=T) (by assumption);omega)) (.inl rfl) (.inl rfl) rfl,trivial⟩ (vPl_flat _) rfl rfl rfl ?_
     refine gC0 [] (put_c (ofP (at_ T who).w) (ofP (at_ T who).r) true) trivial rfl rfl rfl rfl (by trivial) rfl rfl (vPl_flat _) rfl rfl ?_
     refine gT trivial rfl rfl rfl rfl rfl rfl rfl rfl rfl rfl zPl pPl ?_
     refine rg_nil (fun _=>by kernel_rfl) ?_
     refine vc_seq ?_
     refine vc_region hm ?_
     refine gL trivial rfl rfl rfl rfl rfl rfl rfl wPl ?_
     refine gL trivial rfl rfl rfl rfl rfl rfl rfl rfl ?_
     refine gR (u':=5) (out:=rSp [s]) trivial rfl rfl rfl rfl rfl rfl rfl rfl rfl rfl rfl rfl rfl rfl ?_
     refine gC0 [4] (of_c (l:=[s]) (inB_one' (by assumption)) (show 1≤1000000 by decide)) trivial rfl rfl rfl rfl ⟨rFlat (rSp_flat [s]) rfl (.inl rfl) rfl,trivial⟩ rfl rfl (vPl_flat _) rfl rfl ?_
     refine gC0 [] (meet_c (putP (ofP (at_ T who).w) (ofP (at_ T who).r) true) (ofP [s])) trivial rfl rfl rfl rfl (by trivial) rfl rfl (vPl_flat _) rfl rfl ?_
     refine gL trivial rfl rfl rfl rfl rfl rfl rfl rfl ?_
     refine gR (u':=6) (out:=rSp [s]) trivial rfl rfl rfl rfl rfl rfl rfl rfl rfl rfl rfl rfl rfl rfl ?_
     refine gC0 [5] (of_c (l:=[s]) (inB_one' (by assumption)) (show 1≤1000000 by decide)) trivial rfl rfl rfl rfl ⟨rFlat (rSp_flat [s]) rfl (.inl rfl) rfl,trivial⟩ rfl rfl (vPl_flat _) rfl rfl ?_
     refine gEqP trivial rfl rfl rfl rfl rfl (by kernel_rfl) rfl rfl rfl rfl ?_
     refine gM trivial (.inr rfl) rfl rfl rfl ?_
     refine rg_nil (fun _=>by kernel_rfl) ?_
     refine vc_ret ?_
     exact ⟨idm,ends0 (.inr rfl) rfl (eqB ((lm_4 (by assumption) (by assumption) (by assumption)).trans (may_eqF (by assumption)).symm)) rfl rfl rfl⟩
    ·skip
     have n30:=unF c30
     refine vc_skip ?_
     refine vc_seq ?_
     refine vc_region hm ?_
     refine gL trivial rfl rfl rfl rfl rfl rfl rfl wPl ?_
     refine gL trivial rfl rfl rfl rfl rfl rfl rfl rfl ?_
     refine gR (u':=5) (out:=rSp [s]) trivial rfl rfl rfl rfl rfl rfl rfl rfl rfl rfl rfl rfl rfl rfl ?_
     refine gC0 [4] (of_c (l:=[s]) (inB_one' (by assumption)) (show 1≤1000000 by decide)) trivial rfl rfl rfl rfl ⟨rFlat (rSp_flat [s]) rfl (.inl rfl) rfl,trivial⟩ rfl rfl (vPl_flat _) rfl rfl ?_
     refine gC0 [] (meet_c (ofP (at_ T who).w) (ofP [s])) trivial rfl rfl rfl rfl (by trivial) rfl rfl (vPl_flat _) rfl rfl ?_
     refine gL trivial rfl rfl rfl rfl rfl rfl rfl rfl ?_
     refine gR (u':=6) (out:=rSp [s]) trivial rfl rfl rfl rfl rfl rfl rfl rfl rfl rfl rfl rfl rfl rfl ?_
     refine gC0 [5] (of_c (l:=[s]) (inB_one' (by assumption)) (show 1≤1000000 by decide)) trivial rfl rfl rfl rfl ⟨rFlat (rSp_flat [s]) rfl (.inl rfl) rfl,trivial⟩ rfl rfl (vPl_flat _) rfl rfl ?_
     refine gEqP trivial rfl rfl rfl rfl rfl (by kernel_rfl) rfl rfl rfl rfl ?_
     refine gM trivial (.inr rfl) rfl rfl rfl ?_
     refine rg_nil (fun _=>by kernel_rfl) ?_
     refine vc_ret ?_
     exact ⟨idm,ends0 (.inr rfl) rfl (eqB ((lm_4 (by assumption) (by assumption) (by assumption)).trans (may_eqT (by assumption)).symm)) rfl rfl rfl⟩
end Go.Proofs.Ytcdhnaojdhdehaa.A
namespace Go.Proofs.Ytcdhnaojdhdehaa.A
open Go Go.RowKit
open Go.Joins Go.ChangeShapes Go.WideShapes Go.Deep
def RawN (w:World) (v:Value) (N:Nam) (k n:Nat) (cs:List Value):Prop :=
 v=(if N.nil=true then zv N.z else .slice (some ⟨N.blk,k,none⟩) n (N.cap - 0))∧(if N.nil=true then hls k cs = [] else ∃ (c:Array Value) (t:TypeId) (z:Nat × Nat),w.heap[N.blk]?=some (.cells c t z)∧∀ (i:Nat) (x:Value),(hls k cs)[i]?=some x→x ≠ hole→c[i]?=some x)
theorem raw_none {w:World}:RawN w (.slice none 0 0) ⟨0,0,true,none⟩ 0 0 []:=⟨rfl,rfl⟩
theorem raw_of {α:Type} {enc:α→List Value} {m:Nat} (he:∀ x,(enc x).length=m) (hm:0<m) {w:World} {a:Addr} {cap:Nat} {l:List α} (h:∀ i x,(rowL enc l)[i]?=some x→w.cell? (a.add i)=some x):∃ N k,RawN w (.slice (some a) l.length cap) N k l.length (rowL enc l):=by
 rcases l with _|⟨x,xs⟩
 ·exact ⟨⟨0,0,true,some (a,cap)⟩,0,rfl,rfl⟩
 ·have hp0:0<(rowL enc (x :: xs)).length:=by rw [rowL_len he,List.length_cons];exact Nat.mul_pos (Nat.succ_pos _) hm
  have h0:=h 0 _ (List.getElem?_eq_getElem hp0)
  have h1:∃ c t z,w.heap[a.block]?=some (.cells c t z)∧a.spot=none:=by
   have e:a.add 0=a:=by simp [Addr.add]
   unfold World.cell? at h0
   rw [e] at h0
   split at h0
   ·rename_i c t z hh
    refine ⟨c,t,z,hh,?_⟩
    split at h0
    ·cases h0
    ·rename_i hs;simpa using hs
   ·cases h0
  obtain ⟨c,t,z,hh,hs⟩:=h1
  obtain ⟨b,off,sp⟩:=a
  simp only at hs hh
  subst hs
  refine ⟨⟨b,cap,false,none⟩,off,rfl,(if_neg Bool.false_ne_true).mpr ⟨c,t,z,hh,fun i v hv hne=>?_⟩⟩
  unfold hls at hv
  by_cases hi:i<off
  ·rw [List.getElem?_append_left (by simpa using hi)] at hv
   have:=List.mem_of_getElem? hv
   exact absurd (List.eq_of_mem_replicate this) hne
  ·rw [List.getElem?_append_right (by simpa using hi),List.length_replicate] at hv
   have:=h (i - off) v hv
   rw [add_eq,cell_eq hh] at this
   rw [← this]
   congr 1
   omega
def AtL (ρ:Env) (w:World):List (Nat × Bool × Fam)→Prop
 | []=>True
 | x :: l=>famAt ρ w x.1 x.2.2∧AtL ρ w l
theorem atL_mem {ρ:Env} {w:World}:∀ {l:List (Nat × Bool × Fam)},AtL ρ w l→∀ b o F,l.lookup b=some (o,F)→famAt ρ w b F
 | x :: l,h,b,o,F,e=>by
  obtain ⟨c,y⟩:=x
  rw [List.lookup_cons] at e
  by_cases hb:b=c
  ·subst hb
   simp at e
   subst e
   exact h.1
  ·have:(b == c)=false:=by simpa using hb
   rw [this] at e
   exact atL_mem h.2 b o F e
theorem law_done {P:Program} {f:FuncId} {args:List Value} {hl:List (Nat × Bool × Fam)} {rd:List Nat} {ρ:Env} {w:World} {vs:Array Value} (h:FDoes P f args (hp hl) { v:=.bool true,rd:=rd }) (ha:(args.map (r3 ρ)).toArray=vs) (hr:AtL ρ w hl) :
  Calls P f vs w fun e w'=>e = .returned (.bool true)∧Below w.heap.size w w':=by
 subst ha
 refine (h.run ρ w ⟨fun b _ o F e=>atL_mem hr b o F e,fun b hb=>(by cases hb)⟩).mono fun e w' ⟨ρ',hB,he⟩=>⟨he,?_⟩
 have hf:=hB.frm
 exact Frm.below ⟨hf.os,hf.tape,hf.output,hf.size,fun k hk hn=>hf.block k hk fun ⟨b,hb,_⟩=>(by cases hb)⟩
section
variable {H:Type} {enc:TypeId × Value→H} {P:Program} {w:World} {base:Nat} {spare:Nat→Bool} {held:Bool}
theorem open_agg2 {r:Reach} {b0:Nat} {t:TypeId} {f0 f1:Field} {v:Value} {d:DataW H} {p:List MemPlace} (hs:P.underlying t=some (.struct #[f0,f1])) (hone:oneCellFields P #[f0,f1]=true) (hC:P.cellsOf t=2)
  (hv:Value.okWide P w r b0 t v) (h:DataW.Trod enc P w base spare held t v d p) :
  ∃ (v0 v1:Value) (y0 y1:DataW H × List MemPlace) (n:Nat),v = .agg #[v0,v1]∧DataW.trod enc P w base spare held n f0.type [v0]=some y0∧DataW.trod enc P w base spare held n f1.type [v1]=some y1:=by
 obtain ⟨cs,rfl,hsz⟩:=okWide_struct hs hv
 obtain ⟨l⟩:=cs
 match l,hsz.trans hC with
 | [c0,c1],_ =>
  obtain ⟨fuel,hf⟩:=h
  obtain ⟨xs,n,_,hx,_,hlen,hg⟩:=DataW.trod_struct hs hf
  obtain ⟨o0,k0⟩:=hone_of hone 0 f0 rfl
  obtain ⟨o1,k1⟩:=hone_of hone 1 f1 rfl
  match xs,hlen with
  | [y0,y1],_ =>
   exact ⟨c0,c1,y0,y1,n,rfl,by simpa [Value.cells,o0,k0] using hg 0 f0 rfl,by simpa [Value.cells,o1,k1] using hg 1 f1 rfl⟩
end
def vInt:Value→Int
 | .int _ n=>n
 | _=>0
def Fits64 (n:Int):Prop:=-9223372036854775808≤n∧n≤9223372036854775807
theorem fits_of {n:Int} (h:(Lit.int .i64 n).wf=true):Fits64 n:=by
 have e1:IntKind.i64.min = -9223372036854775808:=by decide
 have e2:IntKind.i64.max=9223372036854775807:=by decide
 simp only [Lit.wf,e1,e2,Bool.and_eq_true,decide_eq_true_eq] at h
 exact h
section
variable {H:Type} {enc:TypeId × Value→H} {w:World} {base:Nat} {spare:Nat→Bool} {held:Bool}
theorem open_spanA {r:Reach} {b0:Nat} {v:Value} {d:DataW H} {p:List MemPlace} (hv:Value.okWide Try.prog w r b0 31 v) (h:DataW.Trod enc Try.prog w base spare held 31 v d p):∃ s:Sp,v=vSp s∧Fits64 s.lo∧Fits64 s.hi:=by
 obtain ⟨v0,v1,y0,y1,n,rfl,h0,h1⟩:=open_agg2 Try.underlying31 (by kernel_rfl) (by kernel_rfl) hv h
 obtain ⟨a0,e0,_,w0⟩:=DataW.trod_int Try.underlying3 h0
 obtain ⟨a1,e1,_,w1⟩:=DataW.trod_int Try.underlying3 h1
 simp only [List.cons.injEq,_root_.and_true] at e0 e1
 exact ⟨⟨a0,a1⟩,by rw [e0,e1];rfl,fits_of w0,fits_of w1⟩
theorem rd_spansA {fuel:Nat} {v:Value} {x:DataW H × List MemPlace} (h:DataW.trod enc Try.prog w base spare held fuel 48 [v]=some x) :
  ∃ (l:List Sp) (N:Nam) (k:Nat),RawN w v N k l.length (rSp l)∧l.length≤9223372036854775807:=by
 rcases open_slice_pairs Try.underlying48 Try.underlying31 (by kernel_rfl) rfl rfl (by kernel_rfl) (by kernel_rfl) h with ⟨h1,_⟩|⟨a,len,cap,m,n,V0,V1,D0,D1,P0,P1,h1,_,hl,hm,hz,_,hc⟩
 ·simp only [List.cons.injEq,_root_.and_true] at h1
  subst h1
  exact ⟨[],_,_,raw_none,by decide⟩
 ·simp only [List.cons.injEq,_root_.and_true] at h1
  unfold maxLen at hm
  have hlm:len≤m:=by rw [hz];split <;> omega
  have hn:((List.range len).map fun i=>(⟨vInt (V0 i),vInt (V1 i)⟩:Sp)).length=len:=by rw [List.length_map,List.length_range]
  have key:∀ i x,(rSp ((List.range len).map fun i=>(⟨vInt (V0 i),vInt (V1 i)⟩:Sp)))[i]?=some x→w.cell? (a.add i)=some x:=fun i x hx=>by
   have hi:i<len * 2:=by
    have:=(List.getElem?_eq_some_iff.1 hx).1
    rw [rowL_len (n:=2) (fun _=>rfl),hn] at this
    exact this
   have hj:i / 2<len:=by omega
   obtain ⟨q0,q1,t0,t1⟩:=hc (i / 2) (by omega)
   obtain ⟨n0,e0,_,_⟩:=DataW.trod_int Try.underlying3 t0
   obtain ⟨n1,e1,_,_⟩:=DataW.trod_int Try.underlying3 t1
   simp only [List.cons.injEq,_root_.and_true] at e0 e1
   have hg:=rowL_get (enc:=eSp) (n:=2) (fun _=>rfl) ((List.range len).map fun i=>(⟨vInt (V0 i),vInt (V1 i)⟩:Sp)) (i / 2) (i % 2) (by rw [hn];exact hj) (Nat.mod_lt _ (by decide))
   rw [show i / 2 * 2 + i % 2=i by omega,hx,List.getElem_map,List.getElem_range] at hg
   rcases Nat.mod_two_eq_zero_or_one i with hm2|hm2
   ·rw [hm2] at hg
    rw [show a.add i=a.add (i / 2 * 2) by rw [show i / 2 * 2=i by omega],q0,hg,e0];rfl
   ·rw [hm2] at hg
    rw [show a.add i=a.add (i / 2 * 2 + 1) by rw [show i / 2 * 2 + 1=i by omega],q1,hg,e1];rfl
  obtain ⟨N,k,hr⟩:=raw_of (enc:=eSp) (m:=2) (fun _=>rfl) (by decide) (cap:=cap) key
  exact ⟨_,N,k,by rw [h1];rw [hn] at hr ⊢;exact hr,by rw [hn];omega⟩
theorem open_intA {r:Reach} {b0:Nat} {v:Value} {d:DataW H} {p:List MemPlace} (hv:Value.okWide Try.prog w r b0 3 v) (h:DataW.Trod enc Try.prog w base spare held 3 v d p):∃ n,v = .int .i64 n∧Fits64 n:=by
 obtain ⟨n,rfl,_,_,hw⟩:=open_int Try.underlying3 hv h
 exact ⟨n,rfl,fits_of hw⟩
end
def envG (gs:List (Nat→Nam)):Env:=fun n=>match gs[n % 1000]? with
 | some g=>g (n / 1000)
 | none=>⟨0,0,true,none⟩
theorem envG_nm {gs:List (Nat→Nam)} {b k:Nat} {g:Nat→Nam} (hb:b<1000) (hg:gs[b]?=some g):envG gs (nm b k)=g k:=by
 unfold envG
 rw [nm_mod hb,hg,nm_div hb]
def g0 (N:Nam):Nat→Nam:=fun _=>N
structure HoldsArg (w:World) (v:Value) (T:List Ho) (N:Nam) (k:Nat) (NI:Nat→Nam) (off:Nat→Nat):Prop where
 v:v=if N.nil=true then zv N.z else .slice (some ⟨N.blk,k,none⟩) T.length (N.cap - 0)
 nil:N.nil=true→T = []∧k=0
 row:N.nil=false→∃ (c:Array Value) (t:TypeId) (z:Nat × Nat),w.heap[N.blk]?=some (.cells c t z)∧∀ i:Nat,i<T.length→∃ v0 v1,c[k + 2 * i]?=some v0∧c[k + 2 * i + 1]?=some v1∧RawN w v0 (NI (2 * i)) (off (2 * i)) (at_ T (i:Int)).r.length (rSp (at_ T (i:Int)).r)∧RawN w v1 (NI (2 * i + 1)) (off (2 * i + 1)) (at_ T (i:Int)).w.length (rSp (at_ T (i:Int)).w)
 len:T.length≤9223372036854775807
 lens:∀ h ∈ T,h.r.length≤9223372036854775807∧h.w.length≤9223372036854775807
theorem holds_r3 {w:World} {v:Value} {T:List Ho} {N:Nam} {k:Nat} {NI:Nat→Nam} {off:Nat→Nat} {gs:List (Nat→Nam)} {a:Nat} (h:HoldsArg w v T N k NI off) (ha:gs[a]?=some (g0 N)) (ha':a<1000):r3 (envG gs) (.slice (some ⟨a,k,none⟩) T.length 0)=v:=by
 have e:envG gs a=N:=by
  have:=envG_nm (k:=0) ha' ha
  rw [show nm a 0=a by simp [nm]] at this
  exact this
 show (if (envG gs a).nil=true then zv (envG gs a).z else .slice (some ⟨(envG gs a).blk,k,none⟩) T.length ((envG gs a).cap - 0))=v
 rw [e,h.v]
theorem raw_cell {w:World} {v:Value} {N:Nam} {k n b j:Nat} {cs:List Value} {gs:List (Nat→Nam)} {g:Nat→Nam} (h:RawN w v N k n cs) (hb:gs[b]?=some g) (hb':b<1000) (hj:g j=N):r1 (envG gs) (.slice (some ⟨nm b j,k,none⟩) n 0)=v:=by
 show (if (envG gs (nm b j)).nil=true then zv (envG gs (nm b j)).z else .slice (some ⟨(envG gs (nm b j)).blk,k,none⟩) n ((envG gs (nm b j)).cap - 0))=v
 rw [envG_nm hb' hb,hj,h.1]
theorem raw_blk {w:World} {v:Value} {N:Nam} {k n b j:Nat} {cs:List Value} {t:TypeId} {gs:List (Nat→Nam)} {g:Nat→Nam} (h:RawN w v N k n cs) (hf:cs.all flat1=true) (hb:gs[b]?=some g) (hb':b<1000) (hj:g j=N):blkAt (envG gs) w (nm b j) ⟨hls k cs,t,0⟩:=by
 unfold blkAt
 rw [envG_nm hb' hb,hj]
 have h2:=h.2
 cases hn:N.nil with
 | true=>rw [hn,if_pos rfl] at h2;rw [if_pos rfl];exact ⟨h2,fun q=>absurd rfl q,(by decide:0<100)⟩
 | false =>
  rw [hn,if_neg (by decide)] at h2
  rw [if_neg (by decide),if_pos rfl]
  obtain ⟨c,t',z,h3,h4⟩:=h2
  refine ⟨c,t',z,h3,fun i v hv hne=>?_⟩
  rw [r1_flat (List.all_eq_true.1 (hls_flat (k:=k) hf) v (List.mem_of_getElem? hv))]
  exact h4 i v hv hne
theorem holds_at1 {w:World} {v:Value} {T:List Ho} {N:Nam} {k:Nat} {NI:Nat→Nam} {off:Nat→Nat} {gs:List (Nat→Nam)} {b:Nat} {t:TypeId} (h:HoldsArg w v T N k NI off) (hb:gs[b]?=some NI) (hb':b<1000):famAt (envG gs) w b (inF off t 0 T):=by
 intro j x hx
 unfold inF at hx
 simp only [Option.map_eq_some_iff] at hx
 obtain ⟨y,hy,rfl⟩:=hx
 have hlt:j / 2<T.length:=(List.getElem?_eq_some_iff.1 hy).1
 have hat:at_ T ((j / 2:Nat):Int)=y:=at_of hy
 cases hn:N.nil with
 | true=>rw [(h.nil hn).1] at hlt;simp at hlt
 | false =>
  obtain ⟨c,t',z,_,hr⟩:=h.row hn
  obtain ⟨v0,v1,_,_,r0,r1⟩:=hr (j / 2) hlt
  rw [hat] at r0 r1
  rcases Nat.mod_two_eq_zero_or_one j with hm|hm
  ·have e:2 * (j / 2)=j:=by omega
   rw [e] at r0
   rw [show sel y j=y.r by unfold sel;rw [if_pos hm]]
   exact raw_blk r0 (rSp_flat _) hb hb' rfl
  ·have e:2 * (j / 2) + 1=j:=by omega
   rw [e] at r1
   rw [show sel y j=y.w by unfold sel;rw [if_neg (by omega)]]
   exact raw_blk r1 (rSp_flat _) hb hb' rfl
theorem holds_at0 {w:World} {v:Value} {T:List Ho} {N:Nam} {k:Nat} {NI:Nat→Nam} {off:Nat→Nat} {gs:List (Nat→Nam)} {a b:Nat} {t:TypeId} (h:HoldsArg w v T N k NI off) (ha:gs[a]?=some (g0 N)) (ha':a<1000) (hb:gs[b]?=some NI) (hb':b<1000):famAt (envG gs) w a (one ⟨hls k (rHv (tabV b off T)),t,0⟩):=by
 intro k' x e
 obtain ⟨rfl,rfl⟩:=one_some e
 unfold blkAt
 rw [envG_nm ha' ha]
 show if N.nil=true then _ else _
 cases hn:N.nil with
 | true =>
  obtain ⟨h1,h2⟩:=h.nil hn
  subst h1
  subst h2
  rw [if_pos rfl]
  exact ⟨rfl,fun q=>absurd rfl q,(by decide:0<100)⟩
 | false =>
  rw [if_neg (by decide),if_pos rfl]
  obtain ⟨c,t',z,hh,hr⟩:=h.row hn
  refine ⟨c,t',z,hh,fun i x hx hne=>?_⟩
  have hx:(hls k (rHv (tabV b off T)))[i]?=some x:=hx
  unfold hls at hx
  by_cases hi:i<k
  ·rw [List.getElem?_append_left (by simpa using hi)] at hx
   exact absurd (List.eq_of_mem_replicate (List.mem_of_getElem? hx)) hne
  ·rw [List.getElem?_append_right (by simpa using hi),List.length_replicate] at hx
   have hlt:=(List.getElem?_eq_some_iff.1 hx).1
   rw [rowL_len (n:=2) (fun _=>rfl),tabV_len] at hlt
   have hq:(i - k) / 2<T.length:=by omega
   obtain ⟨v0,v1,c0,c1,r0,r1⟩:=hr ((i - k) / 2) hq
   have hg:=rowL_get (enc:=eHv) (n:=2) (fun _=>rfl) (tabV b off T) ((i - k) / 2) ((i - k) % 2) (by rw [tabV_len];exact hq) (Nat.mod_lt _ (by decide))
   rw [show (i - k) / 2 * 2 + (i - k) % 2=i - k by omega,hx,at_get (by rw [tabV_len];exact hq),at_tabV (by omega) (by omega)] at hg
   rw [Int.toNat_natCast] at hg
   rcases Nat.mod_two_eq_zero_or_one (i - k) with hm|hm
   ·rw [hm] at hg
    have hg:some x=some (.slice (some ⟨nm b (2 * ((i - k) / 2)),off (2 * ((i - k) / 2)),none⟩) (at_ T (((i - k) / 2:Nat):Int)).r.length 0):=hg
    rw [Option.some.inj hg,raw_cell r0 hb hb' rfl,← c0]
    congr 1
    omega
   ·rw [hm] at hg
    have hg:some x=some (.slice (some ⟨nm b (2 * ((i - k) / 2) + 1),off (2 * ((i - k) / 2) + 1),none⟩) (at_ T (((i - k) / 2:Nat):Int)).w.length 0):=hg
    rw [Option.some.inj hg,raw_cell r1 hb hb' rfl,← c1]
    congr 1
    omega
theorem choose2 {n:Nat} {α β γ:Type} [Inhabited α] [Inhabited β] [Inhabited γ] {R:Nat→α→β→γ→Prop} (h:∀ i,i<n→∃ a b c,R i a b c):∃ (f:Nat→α) (g:Nat→β) (k:Nat→γ),∀ i,i<n→R i (f i) (g i) (k i):=by
 classical
 refine ⟨fun i=>if hi:i<n then (h i hi).choose else default,fun i=>if hi:i<n then (h i hi).choose_spec.choose else default,fun i=>if hi:i<n then (h i hi).choose_spec.choose_spec.choose else default,fun i hi=>?_⟩
 simp only [hi,dif_pos]
 exact (h i hi).choose_spec.choose_spec.choose_spec
instance:Inhabited Nam:=⟨⟨0,0,true,none⟩⟩
section
variable {H:Type} {enc:TypeId × Value→H} {w:World} {base:Nat} {spare:Nat→Bool} {held:Bool}
theorem open_holdsA {r:Reach} {b0:Nat} {v:Value} {d:DataW H} {p:List MemPlace} (hv:Value.okWide Try.prog w r b0 22 v) (h:DataW.Trod enc Try.prog w base spare held 22 v d p):∃ T N k NI off,HoldsArg w v T N k NI off:=by
 obtain ⟨a1,len,cap,rfl⟩:=okWide_slice Try.underlying22 hv
 obtain ⟨fuel,hf⟩:=h
 rcases open_slice_pairs Try.underlying22 Try.underlying50 (by kernel_rfl) rfl rfl (by kernel_rfl) (by kernel_rfl) hf with ⟨h1,_⟩|⟨a,len',cap',m,n,V0,V1,D0,D1,P0,P1,h1,_,hl,hm,hz,_,hc⟩
 ·simp only [Value.cells,List.cons.injEq,_root_.and_true,Value.slice.injEq] at h1
  obtain ⟨rfl,rfl,rfl⟩:=h1
  exact ⟨[],⟨0,0,true,none⟩,0,fun _=>⟨0,0,true,none⟩,fun _=>0,⟨rfl,fun _=>⟨rfl,rfl⟩,fun q=>(by cases q),by decide,fun x hx=>(by cases hx)⟩⟩
 ·simp only [Value.cells,List.cons.injEq,_root_.and_true,Value.slice.injEq] at h1
  obtain ⟨rfl,rfl,rfl⟩:=h1
  unfold maxLen at hm
  have hlm:len≤m:=by rw [hz];split <;> omega
  obtain ⟨L0,M0,K0,e0⟩:=choose2 (n:=len) (R:=fun i l N k=>RawN w (V0 i) N k l.length (rSp l)∧l.length≤9223372036854775807) fun i hi=>rd_spansA (hc i (by omega)).2.2.1
  obtain ⟨L1,M1,K1,e1⟩:=choose2 (n:=len) (R:=fun i l N k=>RawN w (V1 i) N k l.length (rSp l)∧l.length≤9223372036854775807) fun i hi=>rd_spansA (hc i (by omega)).2.2.2
  let T:List Ho:=(List.range len).map fun i=>⟨L0 i,L1 i⟩
  have hT:T.length=len:=by simp [T]
  have hat:∀ i:Nat,i<len→at_ T (i:Int)=⟨L0 i,L1 i⟩:=fun i hi=>at_of (by simp [T,hi])
  have hlens:∀ h ∈ T,h.r.length≤9223372036854775807∧h.w.length≤9223372036854775807:=fun h hh=>by
   obtain ⟨i,hi,rfl⟩:=List.mem_map.1 hh
   have hi:=List.mem_range.1 hi
   exact ⟨(e0 i hi).2,(e1 i hi).2⟩
  rcases Nat.eq_zero_or_pos len with h0|h0
  ·subst h0
   exact ⟨[],⟨0,0,true,some (a,cap)⟩,0,fun _=>⟨0,0,true,none⟩,fun _=>0,⟨rfl,fun _=>⟨rfl,rfl⟩,fun q=>(by cases q),by decide,fun x hx=>(by cases hx)⟩⟩
  ·have q0:=(hc 0 (by omega)).1
   have hblk:∃ c t z,w.heap[a.block]?=some (.cells c t z)∧a.spot=none:=by
    have e:a.add (0 * 2)=a:=by simp [Addr.add]
    unfold World.cell? at q0
    rw [e] at q0
    split at q0
    ·rename_i c t z hh
     refine ⟨c,t,z,hh,?_⟩
     split at q0
     ·cases q0
     ·rename_i hs;simpa using hs
    ·cases q0
   obtain ⟨c,t,z,hh,hs⟩:=hblk
   obtain ⟨b,off,sp⟩:=a
   simp only at hs hh
   subst hs
   refine ⟨T,⟨b,cap,false,none⟩,off,fun j=>if j % 2=0 then M0 (j / 2) else M1 (j / 2),fun j=>if j % 2=0 then K0 (j / 2) else K1 (j / 2),⟨by rw [hT];rfl,fun q=>(by cases q),fun _=>⟨c,t,z,hh,fun i hi=>?_⟩,by rw [hT];omega,hlens⟩⟩
   rw [hT] at hi
   obtain ⟨p0,p1,_,_⟩:=hc i (by omega)
   rw [add_eq,cell_eq hh] at p0 p1
   refine ⟨V0 i,V1 i,by rw [← p0];congr 1;omega,by rw [← p1];congr 1;omega,?_,?_⟩
   ·rw [hat i hi]
    have e2:2 * i % 2=0:=by omega
    have e3:2 * i / 2=i:=by omega
    simp only [e2,e3,if_true]
    exact (e0 i hi).1
   ·rw [hat i hi]
    have e2:(2 * i + 1) % 2=1:=by omega
    have e3:(2 * i + 1) / 2=i:=by omega
    simp only [e2,e3,Nat.one_ne_zero,if_false]
    exact (e1 i hi).1
theorem open_boolA {r:Reach} {b0:Nat} {v:Value} {d:DataW H} {p:List MemPlace} (hv:Value.okWide Try.prog w r b0 4 v) (h:DataW.Trod enc Try.prog w base spare held 4 v d p):∃ b,v = .bool b:=by
 obtain ⟨b,rfl,_⟩:=open_bool Try.underlying4 hv h
 exact ⟨b,rfl⟩
end
end Go.Proofs.Ytcdhnaojdhdehaa.A
namespace Go.Proofs.Ytcdhnaojdhdehaa.A
open Go Go.RowKit
set_option maxHeartbeats 4000000
theorem FnExactLockMay_c {T:List Ho} {k:Nat} {off:Nat→Nat} (hT:T.length≤9223372036854775807) (hB:∀ h ∈ T,h.r.length≤9223372036854775807∧h.w.length≤9223372036854775807) {who:Int} (hwho:Fits64 who) (write:Bool) {s:Sp} (hs:Fits64 s.lo∧Fits64 s.hi):FDoes Try.prog 5 [.slice (some ⟨0,k,none⟩) T.length 0,.int .i64 who,.bool write,vSp s] (hp [(0,false,one ⟨hls k (rHv (tabV 1 off T)),50,0⟩),(1,false,inF off 31 0 T)]) { v:=.bool true,rd:=[0,1] }:=by
 have hm:Try.prog.follows .mixedOrders=true:=by kernel_rfl
 have hd_:∀ x_ ∈ ([(0,false,one ⟨hls k (rHv (tabV 1 off T)),50,0⟩),(1,false,inF off 31 0 T)]:List (Nat × Bool × Fam)),∀ k_ y_,x_.2.2 k_=some y_→DetB (lt 2) y_:=by
  intro x_ hx k_ y_ e
  simp only [List.mem_cons,List.not_mem_nil,or_false] at hx
  rcases hx with rfl|rfl
  ·exact det_tab (k0:=k) rfl e
  ·exact det_in e
 refine fn_exact (u0:=2) Try.func5 rfl rfl (gets rfl rfl rfl hd_ rfl) ?_
 clear hd_
 refine vc_seq ?_
 refine vc_region hm ?_
 refine gB (u':=3) trivial rfl rfl rfl rfl rfl rfl rfl rfl ?_
 refine gM trivial (.inr rfl) rfl rfl rfl ?_
 refine rg_nil nofun ?_
 refine vc_seq ?_
 refine vc_region hm ?_
 refine gM trivial (.inr rfl) rfl rfl rfl ?_
 refine rg_nil nofun ?_
 refine vc_seq ?_
 refine vc_region hm ?_
 refine gM trivial (.inl rfl) rfl rfl rfl ?_
 refine gM trivial (.inl rfl) rfl rfl rfl ?_
 refine gCT0 [nA (nm 0 (0)),nF 1] [0,1] (laws_szHoldS_c (T:=T) (k:=k) (off:=off) (left:=1048576) (by decide) (by decide) hT hB) trivial rfl rfl rfl rfl rfl ⟨aTab (k:=k) rfl rfl rfl rfl (.inl rfl) (.inl rfl) rfl rfl,aIn rfl rfl (.inl rfl) (.inl rfl) rfl,trivial⟩ rfl rfl rfl rfl ?_
 refine gM trivial (.inr rfl) rfl rfl rfl ?_
 refine rg_nil nofun ?_
 refine vc_seq ?_
 refine vc_seq ?_
 refine vc_region hm ?_
 refine gM trivial (.inl rfl) rfl rfl rfl ?_
 refine gI trivial rfl rfl rfl rfl rfl rfl ?_
 refine rg_nil nofun ?_
 refine cI rfl (fun c17=>?_) (fun c17=>?_)
 ·skip
  have p17:=of_decide_eq_true c17
  refine vc_seq ?_
  refine vc_region hm ?_
  refine gM trivial (.inr rfl) rfl rfl rfl ?_
  refine rg_nil nofun ?_
  refine vc_ret ?_
  exact ⟨idm,ends0 (.inr rfl) rfl (eqB rfl) rfl rfl rfl⟩
 ·skip
  have p17:=of_decide_eq_false c17
  refine vc_skip ?_
  refine vc_seq ?_
  refine vc_region hm ?_
  refine gM trivial (.inl rfl) rfl rfl rfl ?_
  refine gCT (as':=[(3,one ⟨rHv (tabV 4 zo T),54,102⟩),(4,inF zo 33 77 T)]) (v':=.slice (some ⟨3,0,none⟩) T.length 0) 5 [nA (nm 0 (0)),nF 1,nF 3,nF 4] [0,1] (laws_toHoldS_c (T:=T) (k:=k) (off:=off) (szT_B p17 (by decide)).1 (szT_B p17 (by decide)).2) trivial rfl rfl rfl rfl rfl ⟨aTab (k:=k) rfl rfl rfl rfl (.inl rfl) (.inl rfl) rfl rfl,aIn rfl rfl (.inl rfl) (.inl rfl) rfl,trivial⟩ ⟨rTab rfl rfl rfl,rIn rfl,trivial⟩ ⟨rfl,rfl⟩ rfl rfl rfl ?_
  refine gM trivial (.inl rfl) rfl rfl rfl ?_
  refine gM trivial (.inl rfl) rfl rfl rfl ?_
  refine gL trivial rfl rfl rfl rfl rfl rfl rfl rfl ?_
  refine gC0 [] (laws_toSpan_c s) trivial rfl rfl rfl rfl (by trivial) rfl rfl rfl rfl rfl ?_
  refine gCT0 [nA (nm 3 (0)),nF 4] [3,4] (spec_LockMay_c (T:=T) (who:=who) (write:=write) (s:=s) (szT_B p17 (by decide)).1 (szT_B p17 (by decide)).2) trivial rfl rfl rfl rfl rfl ⟨aTab (k:=0) rfl rfl rfl rfl (.inl rfl) (.inl rfl) rfl rfl,aIn rfl rfl (.inl rfl) (.inl rfl) rfl,trivial⟩ rfl rfl rfl rfl ?_
  refine gM trivial (.inr rfl) rfl rfl rfl ?_
  refine rg_nil (fun _=>by kernel_rfl) ?_
  refine vc_seq ?_
  refine vc_region hm ?_
  refine gM trivial (.inl rfl) rfl rfl rfl ?_
  refine gCT (as':=[(5,one ⟨rHv (tabV 6 zo T),54,102⟩),(6,inF zo 33 77 T)]) (v':=.slice (some ⟨5,0,none⟩) T.length 0) 7 [nA (nm 0 (0)),nF 1,nF 5,nF 6] [0,1] (laws_toHoldS_c (T:=T) (k:=k) (off:=off) (szT_B p17 (by decide)).1 (szT_B p17 (by decide)).2) trivial rfl rfl rfl rfl rfl ⟨aTab (k:=k) rfl rfl rfl rfl (.inl rfl) (.inl rfl) rfl rfl,aIn rfl rfl (.inl rfl) (.inl rfl) rfl,trivial⟩ ⟨rTab rfl rfl rfl,rIn rfl,trivial⟩ ⟨rfl,rfl⟩ rfl rfl rfl ?_
  refine gM trivial (.inr rfl) rfl rfl rfl ?_
  refine rg_nil nofun ?_
  refine vc_seq ?_
  refine vc_region hm ?_
  refine gM trivial (.inl rfl) rfl rfl rfl ?_
  refine gM trivial (.inl rfl) rfl rfl rfl ?_
  refine gM trivial (.inl rfl) rfl rfl rfl ?_
  refine gL trivial rfl rfl rfl rfl rfl rfl rfl rfl ?_
  refine gC0 [] (laws_toSpan_c s) trivial rfl rfl rfl rfl (by trivial) rfl rfl rfl rfl rfl ?_
  refine gCT0 [nA (nm 5 (0)),nF 6] [5,6] (impl_LockMay_c (T:=T) (who:=who) (write:=write) (s:=s) (szT_B p17 (by decide)).1 (szT_B p17 (by decide)).2) trivial rfl rfl rfl rfl rfl ⟨aTab (k:=0) rfl rfl rfl rfl (.inl rfl) (.inl rfl) rfl rfl,aIn rfl rfl (.inl rfl) (.inl rfl) rfl,trivial⟩ rfl rfl rfl rfl ?_
  refine gM trivial (.inr rfl) rfl rfl rfl ?_
  refine rg_nil nofun ?_
  refine vc_seq ?_
  refine vc_seq ?_
  refine vc_region hm ?_
  refine gM trivial (.inl rfl) rfl rfl rfl ?_
  refine gM trivial (.inl rfl) rfl rfl rfl ?_
  refine gBN trivial rfl rfl rfl rfl rfl rfl ?_
  refine rg_nil nofun ?_
  refine cF rfl (nself _) ?_
  refine vc_skip ?_
  refine vc_seq ?_
  refine vc_seq ?_
  refine vc_region hm ?_
  refine gM trivial (.inl rfl) rfl rfl rfl ?_
  refine gM trivial (.inl rfl) rfl rfl rfl ?_
  refine gCT (as':=[(7,one ⟨rHv (tabV 8 zo T),54,102⟩),(8,inF zo 33 77 T)]) (v':=.slice (some ⟨7,0,none⟩) T.length 0) 9 [nA (nm 0 (0)),nF 1,nF 7,nF 8] [0,1] (laws_toHoldS_c (T:=T) (k:=k) (off:=off) (szT_B p17 (by decide)).1 (szT_B p17 (by decide)).2) trivial rfl rfl rfl rfl rfl ⟨aTab (k:=k) rfl rfl rfl rfl (.inl rfl) (.inl rfl) rfl rfl,aIn rfl rfl (.inl rfl) (.inl rfl) rfl,trivial⟩ ⟨rTab rfl rfl rfl,rIn rfl,trivial⟩ ⟨rfl,rfl⟩ rfl rfl rfl ?_
  refine gCT0 [nA (nm 5 (0)),nF 6,nA (nm 7 (0)),nF 8] [5,6,7,8] (laws_eqHoldS_c (A:=T) (B:=T) (szT_B p17 (by decide)).1 (szT_B p17 (by decide)).2) trivial rfl rfl rfl rfl rfl ⟨aTab (k:=0) rfl rfl rfl rfl (.inl rfl) (.inl rfl) rfl rfl,aIn rfl rfl (.inl rfl) (.inl rfl) rfl,aTab (k:=0) rfl rfl rfl rfl (.inl rfl) (.inl rfl) rfl rfl,aIn rfl rfl (.inl rfl) (.inl rfl) rfl,trivial⟩ rfl rfl rfl rfl ?_
  refine gN trivial rfl rfl rfl rfl ?_
  refine rg_nil nofun ?_
  refine cF rfl (notT (decide_eq_true rfl)) ?_
  refine vc_skip ?_
  refine vc_seq ?_
  refine vc_region hm ?_
  refine gM trivial (.inr rfl) rfl rfl rfl ?_
  refine rg_nil nofun ?_
  refine vc_ret ?_
  exact ⟨idm,ends0 (.inr rfl) rfl (eqB rfl) rfl rfl rfl⟩
theorem FnExactLockMay_walk {w:World} {v0:Value} {T0:List Ho} {N0:Nam} {k0:Nat} {M0:Nat→Nam} {f0:Nat→Nat} (h0:HoldsArg w v0 T0 N0 k0 M0 f0) {a1:Int} (h1:Fits64 a1) {a2:Bool} {s3:Sp} (h3:Fits64 s3.lo∧Fits64 s3.hi):Calls Try.prog 5 #[v0,.int .i64 a1,.bool a2,vSp s3] w fun e w'=>e = .returned (.bool true)∧Below w.heap.size w w' :=
 law_done (FnExactLockMay_c h0.len h0.lens h1 a2 h3) (ρ:=envG [g0 N0,M0]) (by simp only [List.map_cons,List.map_nil,holds_r3 (gs:=[g0 N0,M0]) (a:=0) h0 rfl (of_blt rfl),r3_flat (v:=.int .i64 a1) rfl,r3_flat (v:=.bool a2) rfl,r3_flat (v:=vSp s3) rfl]) ⟨holds_at0 h0 rfl (of_blt rfl) rfl (of_blt rfl),holds_at1 h0 rfl (of_blt rfl),trivial⟩
end Go.Proofs.Ytcdhnaojdhdehaa.A

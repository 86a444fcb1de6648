/- Part 2 of the proof of FnOwnSame: words, contracts of callees, plain lemmas. -/
import Derived.Test.YthionnhbnfblcaaZLOwnSame1
set_option maxHeartbeats 8000000
set_option maxRecDepth 100000
set_option linter.unusedVariables false
set_option linter.unusedSimpArgs false
namespace Go.Proofs.Ythionnhbnfblcaa.A
open Go Go.RowKit
structure Ho where
 r:List Sp
 w:List Sp
deriving Inhabited,DecidableEq
structure Hv where
 a:Value
 b:Value
instance:Inhabited Hv:=⟨⟨.slice none 0 0,.slice none 0 0⟩⟩
def sv (n off len:Nat):Value:=.slice (some ⟨n,off,none⟩) len 0
def hv (C:Nat) (off:Nat→Nat) (i:Nat) (h:Ho):Hv:=⟨.slice (some ⟨nm C (2 * i),off (2 * i),none⟩) h.r.length 0,.slice (some ⟨nm C (2 * i + 1),off (2 * i + 1),none⟩) h.w.length 0⟩
theorem re_nil {r u1 u2 C:Nat} {ms:List Nat} {t1 t2:List (Nat × Value)} {h1 h2:List (Nat × Bool × Fam)} (hr:(Nat.ble r u2 && Nat.ble r C && Nat.blt C 1000)=true) (ht:KeepTT (tmG ms C nN) u2 t1 t2) (hh:KeepHT (tmG ms C nN) u2 h1 h2)
  (hi:(h2.all fun x=>h2.all fun y=>x.1 == C || y.1 == C || !(mp ms x.1 == mp ms y.1) || x.1 == y.1)=true) (hlt:(h2.all fun x=>Nat.blt (mp ms x.1) 1000)=true) (hm:∀ b,b<r→mp ms b=b) (hnd:nodB (h2.map (·.1))=true):Re r ⟨u2,t2,h2⟩ ⟨u1,t1,h1⟩ :=
 re_mk hr ht hh hi hlt hm (fun x hx ex=>⟨fun k k' n' _ _ q1 _=>(by cases q1),fun k n' _ q=>(by cases q)⟩) hnd
theorem asFlat {m:Nat→Nat} {u j t e:Nat} {cs:List Value} {h:List (Nat × Bool × Fam)} (hl:h.lookup j=some (true,one ⟨cs,t,e⟩)) (hf:cs.all flat1=true):h.lookup j=some (true,rnF m (one ⟨cs,t,e⟩))∧∀ k y,one ⟨cs,t,e⟩ k=some y→DetB (lt u) y:=⟨by rw [rnF_flat hf];exact hl,fun k y h=>det_row hf h⟩
theorem ktC1 {ms:List Nat} {C u2 t e:Nat} {h1:List (Nat × Bool × Fam)} {o:Bool} {cs:List Value} (hc:cs = []) (he:e<100) (hd:(Nat.blt C u2 && Nat.blt C 1000)=true):KeepBT (tmG ms C nN) u2 h1 C o (one ⟨cs,t,e⟩):=by
 subst hc
 refine ktC (fun k y hy=>?_) (fun k y hy=>⟨fun _=>?_,fun n' q=>(by cases q)⟩) hd
 ·obtain ⟨rfl,rfl⟩:=one_some hy;rfl
 ·obtain ⟨rfl,rfl⟩:=one_some hy;exact ⟨rfl,he⟩
theorem rig_of {m:Nat→Nat} {r:Nat} (h:((List.range r).all fun b=>m b == b)=true):∀ b,b<r→m b=b:=fun b hb=>by
 simpa using List.all_eq_true.1 h b (List.mem_range.2 hb)
theorem row_snoc {α:Type} {enc:α→List Value} {xs:List α} {x:α}:rowL enc xs ++ enc x=rowL enc (xs ++ [x]):=by simp [rowL]
theorem plL_ne {f:Nat→Bool}:plL f ≠ []:=fun e=>by have:=plL_len f;rw [e] at this;cases this
theorem eqSl {a:Addr} {n n' c:Nat} (h:n'=n):some (Value.slice (some a) n c)=some (.slice (some a) n' c):=by rw [h]
def ofStep (f:Nat→Bool) (out:List Sp) (i:Nat):List Sp :=
 if f i=true then (if (out.length:Int) > 0∧(at_ out ((out.length:Int) - 1)).hi=(i:Int) then out.set ((out.length:Int) - 1).toNat ⟨(at_ out ((out.length:Int) - 1)).lo,(i:Int) + 1⟩ else out ++ [⟨(i:Int),(i:Int) + 1⟩]) else out
def l1ofL (f:Nat→Bool):Nat→List Sp
 | 0=>[]
 | j + 1=>ofStep f (l1ofL f j) j
abbrev l1ofP (f:Nat→Bool):List Sp:=l1ofL f 48
theorem ofL_len {f:Nat→Bool}:∀ j,(l1ofL f j).length≤j
 | 0=>Nat.le_refl _
 | j + 1=>by
  have:=ofL_len (f:=f) j
  unfold l1ofL ofStep
  split
  ·split
   ·rw [List.length_set];omega
   ·simp;omega
  ·omega
theorem ofL_a {f:Nat→Bool} {j:Nat} (h:f j=false):l1ofL f (j + 1)=l1ofL f j:=by
 show ofStep f (l1ofL f j) j=_
 unfold ofStep
 rw [if_neg (by rw [h];decide)]
theorem ofL_b {f:Nat→Bool} {j:Nat} (h:f j=true) (h1:((l1ofL f j).length:Int) > 0) (h2:(at_ (l1ofL f j) (((l1ofL f j).length:Int) - 1)).hi=(j:Int)):l1ofL f (j + 1)=(l1ofL f j).set (((l1ofL f j).length:Int) - 1).toNat ⟨(at_ (l1ofL f j) (((l1ofL f j).length:Int) - 1)).lo,(j:Int) + 1⟩:=by
 show ofStep f (l1ofL f j) j=_
 unfold ofStep
 rw [if_pos h,if_pos ⟨h1,h2⟩]
theorem ofL_c {f:Nat→Bool} {j:Nat} (h:f j=true) (h1:¬ (((l1ofL f j).length:Int) > 0∧(at_ (l1ofL f j) (((l1ofL f j).length:Int) - 1)).hi=(j:Int))):l1ofL f (j + 1)=l1ofL f j ++ [⟨(j:Int),(j:Int) + 1⟩]:=by
 show ofStep f (l1ofL f j) j=_
 unfold ofStep
 rw [if_pos h,if_neg h1]
theorem l1ofL_congr {f g:Nat→Bool}:∀ j,(∀ i,i<j→f i=g i)→l1ofL f j=l1ofL g j
 | 0,_=>rfl
 | j + 1,h=>by
  unfold l1ofL
  rw [l1ofL_congr j fun i hi=>h i (by omega)]
  unfold ofStep
  rw [h j (by omega)]
def plT (f:Nat→Bool) (j:Nat):List Value:=(List.range j).map fun i=>.bool (f i)
theorem plT_flat (f:Nat→Bool) (j:Nat):(plT f j).all flat1=true:=by simp [plT,flat1]
theorem plT_len {f:Nat→Bool} {j:Nat}:(plT f j).length=j * 1:=by simp [plT]
theorem plT_snoc {f:Nat→Bool} {j:Nat}:plT f j ++ [.bool (f j)]=plT f (j + 1):=by simp [plT,List.range_succ]
theorem cut_end {l:List Sp} {s:Sp} {b:Bool} {i:Int} (hi:¬ i<s.hi) (h0:0≤s.lo):l1ofP (fillTo (fun x=>l1In l (x:Int)) s.lo i s.hi b)=l1ofP (putP (ofP l) (ofP [s]) b):=l1ofL_congr 48 fun x _=>by
 unfold fillTo putP
 have:ofP [s] x=inSp s x:=by simp [ofP]
 rw [this,ofP_in]
 by_cases h:s.lo≤(x:Int)∧(x:Int)<s.hi
 ·rw [if_pos (by omega),if_pos (inSp_of h.1 h.2)]
 ·rw [if_neg (by omega),if_neg (by rw [inSp_no h];decide)]
def st2 (P:Program) (ty:TypeId):Bool:=match P.underlying ty with
 | some (.struct ⟨[f0,f1]⟩)=>f0.name != "_" && f1.name != "_" && f0.offset == 0 && f1.offset == 1 && (match P.underlying f0.type with|some (.int _)=>true|_=>false) && (match P.underlying f1.type with|some (.int _)=>true|_=>false) && !P.stoodInHeld ty && !P.eqGuardType P.depth ty && (aggP P f0.type == some false) && (aggP P f1.type == some false)
 | _=>false
theorem run_eqI {P:Program} {w:World} {ty:TypeId} {n:Nat} {a b:Int} (hu:(match P.underlying ty with|some (.int _)=>true|_=>false)=true):(Op.equalIn (n + 1) ty (.int .i64 a) (.int .i64 b)).run P w = .ok (a == b) w:=by
 cases h:P.underlying ty with
 | none=>rw [h] at hu;cases hu
 | some d =>
  rw [h] at hu
  cases d <;> first|(cases hu;done)|skip
  unfold Op.equalIn
  simp [run_underlying h,Sem.run_pure,Sem.run_bind,Result.andThen_ok]
theorem run_eqSp {P:Program} {w:World} {ty:TypeId} {s t:Sp} (h:st2 P ty=true):(Op.equal ty (vSp s) (vSp t)).run P w = .ok (decide (s=t)) w:=by
 unfold st2 at h
 split at h
 ·rename_i f0 f1 hu
  simp only [Bool.and_eq_true,bne_iff_ne,ne_eq,beq_iff_eq,Bool.not_eq_true'] at h
  obtain ⟨⟨⟨⟨⟨⟨⟨⟨⟨n0,n1⟩,o0⟩,o1⟩,i0⟩,i1⟩,hst⟩,hg⟩,a0⟩,a1⟩:=h
  show (Op.equalIn (9999 + 1) ty _ _).run P w=_
  unfold Op.equalIn
  have p0:∀ x:Sp,(part f0.type (eSp x).toArray 0).run P w = .ok (.int .i64 x.lo) w:=fun x=>run_part a0 rfl
  have p1:∀ x:Sp,(part f1.type (eSp x).toArray 1).run P w = .ok (.int .i64 x.hi) w:=fun x=>run_part a1 rfl
  have e0:(Op.equalIn 9999 f0.type (.int .i64 s.lo) (.int .i64 t.lo)).run P w = .ok (s.lo == t.lo) w:=run_eqI i0
  have e1:(Op.equalIn 9999 f1.type (.int .i64 s.hi) (.int .i64 t.hi)).run P w = .ok (s.hi == t.hi) w:=run_eqI i1
  have fin:decide (s=t)=((s.lo == t.lo) && (s.hi == t.hi)):=by
   rw [Bool.eq_iff_iff]
   simp only [decide_eq_true_eq,Bool.and_eq_true,beq_iff_eq]
   exact ⟨fun e=>by rw [e];exact ⟨rfl,rfl⟩,fun e=>sp_eq e.1 e.2⟩
  rw [fin]
  cases h0:s.lo == t.lo <;> cases h1:s.hi == t.hi <;> simp [run_underlying hu,hst,program,Sem.run_pure,Sem.run_bind,Sem.run,Result.andThen_ok,n0,n1,o0,o1,p0,p1,e0,e1,h0,h1]
 ·cases h
section
variable {P:Program} {nt:Nat} {ops:Array Oper} {draw:Bool} {rest:List Oper} {u d:Nat} {t:List (Nat × Value)} {h:List (Nat × Bool × Fam)} {acc:List Eff} {K:St→Prop} {o:Oper}
theorem st2_guard {ty:TypeId} (h:st2 P ty=true):P.eqGuardType P.depth ty=false:=by
 unfold st2 at h
 split at h
 ·simp only [Bool.and_eq_true,Bool.not_eq_true'] at h
  exact h.1.1.2
 ·cases h
theorem gEqS {ng:Bool} {ty yt:TypeId} {x y:Operand} {a b:Sp} (hw:wantT (tl t) ops o) (hop:o.op = .binOp (if ng then .neq else .eql) ty x y yt) (hu:st2 P ty=true) (hx:ev t x=some (vSp a)) (hy:ev t y=some (vSp b)) (hs:o.dst=some d) (hn:Nat.blt d nt=true)
  (k:RG P nt ops draw rest ⟨u,(d,.bool (if ng then !decide (a=b) else decide (a=b))) :: t,h⟩ (acc ++ [{ v:=.bool (if ng then !decide (a=b) else decide (a=b)) }]) K):RG P nt ops draw (o :: rest) ⟨u,t,h⟩ acc K:=by
 refine gV (does_flat hw rfl fun ρ ac w ht hah=>?_) hs hn k
 have e1:ac.eval x=vSp a:=(ev_sound (ρ:=ρ) (by rw [hop];simp [Op.operands]) ht hx).trans (r3_flat rfl)
 have e2:ac.eval y=vSp b:=(ev_sound (ρ:=ρ) (by rw [hop];simp [Op.operands]) ht hy).trans (r3_flat rfl)
 have e3:=run_eqSp (P:=P) (w:=w) (s:=a) (t:=b) hu
 have e4:∀ op,(eqGuard op ty x y (vSp a) (vSp b)).run P w = .ok () w:=fun op=>by
  simp [eqGuard,program,Sem.run_bind,Sem.run_pure,Sem.run,st2_guard hu]
 cases ng <;> simp [execOp,hop,e1,e2,Sem.run_bind,e4,Result.andThen_ok,binOp,e3,Sem.run_pure]
theorem gNeS {ty yt:TypeId} {x y:Operand} {a b:Sp} (hw:wantT (tl t) ops o) (hop:o.op = .binOp .neq ty x y yt) (hu:st2 P ty=true) (hx:ev t x=some (vSp a)) (hy:ev t y=some (vSp b)) (hs:o.dst=some d) (hn:Nat.blt d nt=true) (k:RG P nt ops draw rest ⟨u,(d,.bool (!decide (a=b))) :: t,h⟩ (acc ++ [{ v:=.bool (!decide (a=b)) }]) K):RG P nt ops draw (o :: rest) ⟨u,t,h⟩ acc K:=gEqS (ng:=true) hw hop hu hx hy hs hn k
end
theorem at_ne {α:Type} [Inhabited α] {a b:List α} {j:Nat} (h:at_ a (j:Int) ≠ at_ b (j:Int)):a ≠ b:=fun e=>h (by rw [e])
theorem len_ne {α:Type} {a b:List α} (h:(a.length:Int) ≠ b.length):a ≠ b:=fun e=>h (by rw [e])
end Go.Proofs.Ythionnhbnfblcaa.A
namespace Go.Proofs.Ythionnhbnfblcaa.A
open Go Go.RowKit
set_option maxHeartbeats 4000000
theorem spec_l4Spans_c {a b:List Sp} (hn:a.length≤1048576):FDoes Try.prog 43 [.slice (some ⟨0,0,none⟩) a.length 0,.slice (some ⟨1,0,none⟩) b.length 0] (hp [(0,false,one ⟨rSp a,38,0⟩),(1,false,one ⟨rSp b,38,0⟩)]) { v:=.bool (decide (a=b)),rd:=[0,1] }:=by
 have hm:Try.prog.follows .mixedOrders=true:=by kernel_rfl
 have hd_:∀ x_ ∈ ([(0,false,one ⟨rSp a,38,0⟩),(1,false,one ⟨rSp b,38,0⟩)]:List (Nat × Bool × Fam)),∀ k_ y_,x_.2.2 k_=some y_→DetB (lt 2) y_:=by
  intro x_ hx k_ y_ e
  simp only [List.mem_cons,List.not_mem_nil,or_false] at hx
  rcases hx with rfl|rfl
  ·exact det_row (rSp_flat a) e
  ·exact det_row (rSp_flat b) e
 refine fn_exact (u0:=2) Try.func43 rfl rfl (gets rfl rfl rfl hd_ rfl) ?_
 clear hd_
 refine vc_seq ?_
 refine vc_region hm ?_
 refine gM trivial (.inr rfl) rfl rfl rfl ?_
 refine rg_nil nofun ?_
 refine vc_seq ?_
 refine vc_seq ?_
 refine vc_region hm ?_
 refine gM trivial (.inl rfl) rfl rfl rfl ?_
 refine gK trivial rfl rfl rfl rfl rfl rfl rSp_nil ?_
 refine gM trivial (.inl rfl) rfl rfl rfl ?_
 refine gK trivial rfl rfl rfl rfl rfl rfl rSp_nil ?_
 refine gI trivial rfl rfl rfl rfl rfl rfl ?_
 refine rg_nil nofun ?_
 refine cI rfl (fun c10=>?_) (fun c10=>?_)
 ·skip
  have p10:=bne_iff_ne.1 c10
  refine vc_seq ?_
  refine vc_region hm ?_
  refine gM trivial (.inr rfl) rfl rfl rfl ?_
  refine rg_nil nofun ?_
  refine vc_ret ?_
  exact ⟨idm,ends0 (.inr rfl) rfl (eqB (decide_eq_false (len_ne p10))) rfl rfl rfl⟩
 ·skip
  have p10:=bne_eq_false_iff_eq.1 c10
  refine vc_skip ?_
  refine vc_seq ?_
  refine vc_seq ?_
  refine vc_region hm ?_
  refine gM trivial (.inr rfl) rfl rfl rfl ?_
  refine rg_nil nofun ?_
  refine vc_block ?_
  have hl:a.length=b.length:=by omega
  refine vc_loop' (fun n_ S_=>∃ (j:Nat),j≤a.length∧a.take j=b.take j∧n_=a.length - j∧S_=⟨2,[(0,.slice (some ⟨0,0,none⟩) a.length 0),(1,.slice (some ⟨1,0,none⟩) b.length 0),(5,.int .i64 j)],[(0,false,one ⟨rSp a,38,0⟩),(1,false,one ⟨rSp b,38,0⟩)]⟩) (m0:=idm) ⟨0,Nat.zero_le _,rfl,rfl,rfl⟩ (le_mk rfl ⟨⟨rfl,rfl⟩,⟨rfl,rfl⟩,⟨rfl,rfl⟩,trivial⟩ ⟨kFlat (rSp_flat a) rfl id rfl,kFlat (rSp_flat b) rfl id rfl,trivial⟩ rfl (fun _ _=>rfl)) ?_
  rintro n_ S_ ⟨j,hj,hk,rfl,rfl⟩
  refine vc_seq ?_
  refine vc_seq ?_
  refine vc_region hm ?_
  refine gM trivial (.inl rfl) rfl rfl rfl ?_
  refine gM trivial (.inl rfl) rfl rfl rfl ?_
  refine gK trivial rfl rfl rfl rfl rfl rfl rSp_nil ?_
  refine gI trivial rfl rfl rfl rfl rfl rfl ?_
  refine rg_nil nofun ?_
  refine cI rfl (fun c14=>?_) (fun c14=>?_)
  ·skip
   have p14:=of_decide_eq_true c14
   refine vc_skip ?_
   refine vc_seq ?_
   refine vc_block ?_
   refine vc_seq ?_
   refine vc_region hm ?_
   refine gM trivial (.inl rfl) rfl rfl rfl ?_
   refine gM trivial (.inl rfl) rfl rfl rfl ?_
   refine gX trivial rfl rfl rfl rfl rfl rfl rfl rfl (by omega) (by omega) rSp_ne ?_
   refine gL trivial rfl rfl rfl rfl rfl rfl rfl (aSp (by omega) (by omega)) ?_
   refine gM trivial (.inl rfl) rfl rfl rfl ?_
   refine gM trivial (.inl rfl) rfl rfl rfl ?_
   refine gX trivial rfl rfl rfl rfl rfl rfl rfl rfl (by omega) (by omega) rSp_ne ?_
   refine gL trivial rfl rfl rfl rfl rfl rfl rfl (aSp (by omega) (by omega)) ?_
   refine gNeS trivial rfl (by kernel_rfl) rfl rfl rfl rfl ?_
   refine rg_nil (fun _=>by kernel_rfl) ?_
   refine cI rfl (fun c25=>?_) (fun c25=>?_)
   ·skip
    have n25:=unT c25
    refine vc_seq ?_
    refine vc_region hm ?_
    refine gM trivial (.inr rfl) rfl rfl rfl ?_
    refine rg_nil nofun ?_
    refine vc_ret ?_
    exact ⟨idm,ends0 (.inr rfl) rfl (eqB (decide_eq_false (at_ne (of_dF n25)))) rfl rfl rfl⟩
   ·skip
    have n25:=unF c25
    refine vc_skip ?_
    refine vc_region hm ?_
    refine gM trivial (.inl rfl) rfl rfl rfl ?_
    refine gA trivial rfl rfl rfl rfl rfl rfl (by omega) ?_
    refine gM trivial (.inr rfl) rfl rfl rfl ?_
    refine rg_nil nofun ?_
    have q:=of_dT n25
    exact lp_next (m:=idm) ⟨j + 1,(by omega),(take_step hk p14 hl q),rfl,rfl⟩ (by omega) (le_mk rfl ⟨⟨rfl,rfl⟩,⟨rfl,rfl⟩,⟨rfl,rfl⟩,trivial⟩ ⟨kFlat (rSp_flat a) rfl id rfl,kFlat (rSp_flat b) rfl id rfl,trivial⟩ rfl (fun _ _=>rfl))
  ·skip
   have p14:=of_decide_eq_false c14
   refine vc_exit ?_
   refine vc_seq ?_
   refine vc_region hm ?_
   refine gM trivial (.inr rfl) rfl rfl rfl ?_
   refine rg_nil nofun ?_
   refine vc_ret ?_
   exact ⟨idm,ends0 (.inr rfl) rfl (eqB (decide_eq_true (take_all hk p14 hl))) rfl rfl rfl⟩
theorem equal_c {a b:List Sp} (hn:a.length≤1048576):FDoes Try.prog 45 [.slice (some ⟨0,0,none⟩) a.length 0,.slice (some ⟨1,0,none⟩) b.length 0] (hp [(0,false,one ⟨rSp a,38,0⟩),(1,false,one ⟨rSp b,38,0⟩)]) { v:=.bool (decide (a=b)),rd:=[0,1] }:=by
 have hm:Try.prog.follows .mixedOrders=true:=by kernel_rfl
 have hd_:∀ x_ ∈ ([(0,false,one ⟨rSp a,38,0⟩),(1,false,one ⟨rSp b,38,0⟩)]:List (Nat × Bool × Fam)),∀ k_ y_,x_.2.2 k_=some y_→DetB (lt 2) y_:=by
  intro x_ hx k_ y_ e
  simp only [List.mem_cons,List.not_mem_nil,or_false] at hx
  rcases hx with rfl|rfl
  ·exact det_row (rSp_flat a) e
  ·exact det_row (rSp_flat b) e
 refine fn_exact (u0:=2) Try.func45 rfl rfl (gets rfl rfl rfl hd_ rfl) ?_
 clear hd_
 refine vc_seq ?_
 refine vc_region hm ?_
 refine gM trivial (.inr rfl) rfl rfl rfl ?_
 refine rg_nil nofun ?_
 refine vc_seq ?_
 refine vc_seq ?_
 refine vc_region hm ?_
 refine gM trivial (.inl rfl) rfl rfl rfl ?_
 refine gK trivial rfl rfl rfl rfl rfl rfl rSp_nil ?_
 refine gM trivial (.inl rfl) rfl rfl rfl ?_
 refine gK trivial rfl rfl rfl rfl rfl rfl rSp_nil ?_
 refine gI trivial rfl rfl rfl rfl rfl rfl ?_
 refine rg_nil nofun ?_
 refine cI rfl (fun c10=>?_) (fun c10=>?_)
 ·skip
  have p10:=bne_iff_ne.1 c10
  refine vc_seq ?_
  refine vc_region hm ?_
  refine gM trivial (.inr rfl) rfl rfl rfl ?_
  refine rg_nil nofun ?_
  refine vc_ret ?_
  exact ⟨idm,ends0 (.inr rfl) rfl (eqB (decide_eq_false (len_ne p10))) rfl rfl rfl⟩
 ·skip
  have p10:=bne_eq_false_iff_eq.1 c10
  refine vc_skip ?_
  refine vc_seq ?_
  refine vc_seq ?_
  refine vc_region hm ?_
  refine gM trivial (.inl rfl) rfl rfl rfl ?_
  refine gK trivial rfl rfl rfl rfl rfl rfl rSp_nil ?_
  refine gM trivial (.inl rfl) rfl rfl rfl ?_
  refine rg_nil nofun ?_
  refine vc_block ?_
  have hl:a.length=b.length:=by omega
  refine vc_loop' (fun n_ S_=>∃ (j:Nat),j≤a.length∧a.take j=b.take j∧n_=a.length - j∧S_=⟨2,[(0,.slice (some ⟨0,0,none⟩) a.length 0),(1,.slice (some ⟨1,0,none⟩) b.length 0),(12,.int .i64 a.length),(13,.int .i64 j)],[(0,false,one ⟨rSp a,38,0⟩),(1,false,one ⟨rSp b,38,0⟩)]⟩) (m0:=idm) ⟨0,Nat.zero_le _,rfl,rfl,rfl⟩ (le_mk rfl ⟨⟨rfl,rfl⟩,⟨rfl,rfl⟩,⟨rfl,rfl⟩,⟨rfl,rfl⟩,trivial⟩ ⟨kFlat (rSp_flat a) rfl id rfl,kFlat (rSp_flat b) rfl id rfl,trivial⟩ rfl (fun _ _=>rfl)) ?_
  rintro n_ S_ ⟨j,hj,hk,rfl,rfl⟩
  refine vc_seq ?_
  refine vc_region hm ?_
  refine gI trivial rfl rfl rfl rfl rfl rfl ?_
  refine rg_nil nofun ?_
  refine vc_seq ?_
  refine cI rfl (fun c14=>?_) (fun c14=>?_)
  ·skip
   have p14:=of_decide_eq_true c14
   refine vc_skip ?_
   refine vc_seq ?_
   refine vc_block ?_
   refine vc_seq ?_
   refine vc_region hm ?_
   refine gM trivial (.inl rfl) rfl rfl rfl ?_
   refine gM trivial (.inr rfl) rfl rfl rfl ?_
   refine rg_nil nofun ?_
   refine vc_seq ?_
   refine vc_region hm ?_
   refine gM trivial (.inl rfl) rfl rfl rfl ?_
   refine gM trivial (.inl rfl) rfl rfl rfl ?_
   refine gX trivial rfl rfl rfl rfl rfl rfl rfl rfl (by omega) (by omega) rSp_ne ?_
   refine gL trivial rfl rfl rfl rfl rfl rfl rfl (aSp (by omega) (by omega)) ?_
   refine gM trivial (.inl rfl) rfl rfl rfl ?_
   refine gM trivial (.inl rfl) rfl rfl rfl ?_
   refine gX trivial rfl rfl rfl rfl rfl rfl rfl rfl (by omega) (by omega) rSp_ne ?_
   refine gL trivial rfl rfl rfl rfl rfl rfl rfl (aSp (by omega) (by omega)) ?_
   refine gNeS trivial rfl (by kernel_rfl) rfl rfl rfl rfl ?_
   refine rg_nil (fun _=>by kernel_rfl) ?_
   refine cI rfl (fun c24=>?_) (fun c24=>?_)
   ·skip
    have n24:=unT c24
    refine vc_seq ?_
    refine vc_region hm ?_
    refine gM trivial (.inr rfl) rfl rfl rfl ?_
    refine rg_nil nofun ?_
    refine vc_ret ?_
    exact ⟨idm,ends0 (.inr rfl) rfl (eqB (decide_eq_false (at_ne (of_dF n24)))) rfl rfl rfl⟩
   ·skip
    have n24:=unF c24
    refine vc_skip ?_
    refine vc_region hm ?_
    refine gA trivial rfl rfl rfl rfl rfl rfl (by omega) ?_
    refine gM trivial (.inl rfl) rfl rfl rfl ?_
    refine rg_nil nofun ?_
    have q:=of_dT n24
    exact lp_next (m:=idm) ⟨j + 1,(by omega),(take_step hk p14 hl q),rfl,rfl⟩ (by omega) (le_mk rfl ⟨⟨rfl,rfl⟩,⟨rfl,rfl⟩,⟨rfl,rfl⟩,⟨rfl,rfl⟩,trivial⟩ ⟨kFlat (rSp_flat a) rfl id rfl,kFlat (rSp_flat b) rfl id rfl,trivial⟩ rfl (fun _ _=>rfl))
  ·skip
   have p14:=of_decide_eq_false c14
   refine vc_exit ?_
   refine vc_seq ?_
   refine vc_region hm ?_
   refine gM trivial (.inr rfl) rfl rfl rfl ?_
   refine rg_nil nofun ?_
   refine vc_ret ?_
   exact ⟨idm,ends0 (.inr rfl) rfl (eqB (decide_eq_true (take_all hk p14 hl))) rfl rfl rfl⟩
end Go.Proofs.Ythionnhbnfblcaa.A
namespace Go.Proofs.Ythionnhbnfblcaa.A
open Go Go.RowKit
theorem rSp_leaf (xs:List Sp):(rSp xs).all leaf=true:=by
 induction xs with
 | nil=>rfl
 | cons x xs ih=>show ([Value.int .i64 x.lo,.int .i64 x.hi] ++ rSp xs).all leaf=true;rw [List.all_append,ih];rfl
theorem row_all {α:Type} {enc:α→List Value} {n:Nat} (he:∀ x,(enc x).length=n) {xs:List α}:((rowL enc xs).drop 0).take (xs.length * n)=rowL enc xs:=by rw [List.drop_zero,List.take_of_length_le (by rw [rowL_len he];exact Nat.le_refl _)]
theorem cp_leaf (l:List Sp):(((rSp l).drop 0).take (l.length * 2)).all leaf=true:=by rw [row_all (n:=2) (fun _=>rfl)];exact rSp_leaf l
theorem cp_eq (l:List Sp):[] ++ ((rSp l).drop 0).take (l.length * 2)=rSp l:=by rw [row_all (n:=2) (fun _=>rfl)];rfl
theorem cp_len (l:List Sp):0 + l.length * 2≤(rSp l).length:=by rw [rowL_len (n:=2) (fun _=>rfl),Nat.zero_add];exact Nat.le_refl _
theorem bytes_fold (ns:List UInt8) (acc:ByteArray):(ns.map fun b=>(b.toNat:Int)).foldl (fun r n=>r.push (UInt8.ofNat n.toNat)) acc=⟨(acc.data.toList ++ ns).toArray⟩:=by
 induction ns generalizing acc with
 | nil=>simp
 | cons b ns ih =>
  rw [List.map_cons,List.foldl_cons,ih]
  have:UInt8.ofNat ((b.toNat:Int).toNat)=b:=by simp
  rw [this]
  congr 1
  simp [ByteArray.push]
theorem bytesS_L {s:ByteArray}:bytesS (bytesL s)=s:=by
 unfold bytesS bytesL
 rw [bytes_fold]
 show (⟨(([]:List UInt8) ++ s.data.toList).toArray⟩:ByteArray)=s
 rw [List.nil_append]
def putO (o x:Ow):Ow:=if ownOk x=true then x else o
theorem putO_T {o x:Ow} (h:ownOk x=true):putO o x=x:=if_pos h
theorem putO_F {o x:Ow} (h:ownOk x=false):putO o x=o:=if_neg (by rw [h];decide)
def chO (may:Bool) (o x:Ow):Ow:=if may=true then putO o x else o
def chB (may:Bool) (x:Ow):Bool:=may && ownOk x
theorem chO_F {o x:Ow} {may:Bool} (h:may=false):chO may o x=o∧chB may x=false:=by subst h;exact ⟨rfl,rfl⟩
theorem chO_P {o x:Ow} {may:Bool} (h:may=true):chO may o x=putO o x∧chB may x=ownOk x:=by subst h;exact ⟨rfl,rfl⟩
theorem ok_len {x:Ow} (h:ownOk x=true):x.t.size≤1048576∧x.h.length≤1048576∧x.d.length≤1048576:=by
 have h1:=ownOk_size h
 have h2:=spansOk_len (ownOk_have h)
 have h3:=spansOk_len (ownOk_dirty h)
 omega
def cleanX (o:Ow) (s:Sp):Ow:=⟨o.t,o.h,l1ofP (putP (ofP o.d) (ofP [s]) false)⟩
theorem ofL48_len {f:Nat→Bool}:(l1ofP f).length≤48:=ofL_len 48
def meetS (a b:Sp):Sp:=⟨if a.lo > b.lo then a.lo else b.lo,if a.hi<b.hi then a.hi else b.hi⟩
def meetB (a b:Sp):Bool:=decide ((meetS a b).lo<(meetS a b).hi)
def meetV (a b:Sp):Sp:=if meetB a b=true then meetS a b else ⟨0,0⟩
abbrev tMeet (a b:Sp):Value:=.tuple #[vSp (meetV a b),.bool (meetB a b)]
theorem mt_T {a b:Sp} (h:¬ (meetS a b).lo ≥ (meetS a b).hi):Value.tuple #[vSp (meetS a b),.bool true]=tMeet a b:=by
 have:meetB a b=true:=decide_eq_true (by omega)
 unfold tMeet meetV
 rw [if_pos this,this]
theorem mt_F {a b:Sp} (h:(meetS a b).lo ≥ (meetS a b).hi):Value.tuple #[vSp ⟨0,0⟩,.bool false]=tMeet a b:=by
 have:meetB a b=false:=decide_eq_false (by omega)
 unfold tMeet meetV
 rw [if_neg (by rw [this];decide),this]
def patE (o:Ow) (p s:Sp):Pa:=⟨(meetV s p).lo,o.t.extract (meetV s p).lo.toNat (meetV s p).hi.toNat⟩
def patO (o:Ow) (p:Sp) (j:Nat):List Pa:=(o.d.take j).filterMap fun s=>if meetB s p=true then some (patE o p s) else none
abbrev patA (o:Ow) (p:Sp):List Pa:=patO o p o.d.length
theorem pat_T {o:Ow} {p:Sp} {j:Nat} (hj:(j:Int)<o.d.length) (h:meetB (at_ o.d (j:Int)) p=true):patO o p (j + 1)=patO o p j ++ [patE o p (at_ o.d (j:Int))]:=by
 unfold patO
 rw [List.take_succ_eq_append_getElem (show j<o.d.length by omega),List.filterMap_append,at_get (show j<o.d.length by omega)]
 simp [h]
theorem pat_F {o:Ow} {p:Sp} {j:Nat} (hj:(j:Int)<o.d.length) (h:meetB (at_ o.d (j:Int)) p=false):patO o p (j + 1)=patO o p j:=by
 unfold patO
 rw [List.take_succ_eq_append_getElem (show j<o.d.length by omega),List.filterMap_append,at_get (show j<o.d.length by omega)]
 simp [h]
theorem pat_len {o:Ow} {p:Sp} (j:Nat):(patO o p j).length≤j:=by
 unfold patO
 have h1:=List.length_filterMap_le (fun s=>if meetB s p=true then some (patE o p s) else none) (o.d.take j)
 rw [List.length_take] at h1
 omega
theorem pat_bd {o:Ow} {p:Sp} {j:Nat} (h:ownOk o=true) (hp:spanOk p=true) (hj:(j:Int)<o.d.length) (hm:meetB (at_ o.d (j:Int)) p=true):0≤(meetV (at_ o.d (j:Int)) p).lo∧(meetV (at_ o.d (j:Int)) p).lo≤(meetV (at_ o.d (j:Int)) p).hi∧(meetV (at_ o.d (j:Int)) p).hi≤o.t.size:=by
 have hs:=spanOk_in (spansOk_at (ownOk_dirty h) _ (at_mem (by omega) hj))
 have h2:=spanOk_in hp
 have h3:=ownOk_size h
 unfold meetV
 rw [if_pos hm]
 have h4:=of_decide_eq_true hm
 unfold meetS at h4 ⊢
 simp only at h4 ⊢
 refine ⟨?_,by omega,?_⟩
 ·split <;> omega
 ·split <;> omega
theorem eqT {a b:ByteArray} (h:b=a):some (Value.string a)=some (.string b):=by rw [h]
theorem bT_ext {a b:ByteArray} (h:bytesL a=bytesL b):a=b:=by rw [← bytesS_L (s:=a),h,bytesS_L]
theorem bytesL_app {a b:ByteArray}:bytesL (a ++ b)=bytesL a ++ bytesL b:=by
 unfold bytesL
 rw [ByteArray.data_append,Array.toList_append,List.map_append]
theorem bytesL_cut {s:ByteArray} {a b:Nat}:bytesL (s.extract a b)=((bytesL s).drop a).take (b - a):=by
 unfold bytesL
 rw [ByteArray.data_extract,Array.toList_extract,List.extract_eq_drop_take',List.map_drop,List.map_take,List.drop_take]
theorem byteAt_rng (s:ByteArray) (i:Int):0≤byteAt s i∧byteAt s i<256:=by
 unfold byteAt
 have:=UInt8.toNat_lt ((s[i.toNat]?).getD 0)
 omega
theorem bytesL_get {s:ByteArray} {i:Nat} (h:i<s.size):(bytesL s)[i]?=some (byteAt s (i:Int)):=by
 unfold bytesL byteAt
 rw [List.getElem?_map,Array.getElem?_toList,Int.toNat_natCast]
 have e:s.data[i]?=some s[i]:=by rw [Array.getElem?_eq_getElem h];rfl
 rw [e,getElem?_pos s i h]
 rfl
theorem bytesL_S {xs:List Int} (h:∀ x ∈ xs,0≤x∧x<256):bytesL (bytesS xs)=xs:=by
 have e:xs=(xs.map fun n=>UInt8.ofNat n.toNat).map fun b=>(b.toNat:Int):=by
  rw [List.map_map]
  conv=>lhs;rw [← List.map_id xs]
  refine List.map_congr_left fun x hx=>?_
  have:=h x hx
  simp only [id_eq,Function.comp_apply,UInt8.toNat_ofNat']
  omega
 have e2:bytesS xs=⟨(xs.map fun n=>UInt8.ofNat n.toNat).toArray⟩:=by
  unfold bytesS
  conv=>lhs;rw [e]
  rw [bytes_fold]
  rfl
 rw [e2]
 unfold bytesL
 exact e.symm
theorem bytesS_size {xs:List Int}:(bytesS xs).size=xs.length:=by
 have:∀ (ns:List Int) (acc:ByteArray),(ns.foldl (fun r n=>r.push (UInt8.ofNat n.toNat)) acc).size=acc.size + ns.length:=by
  intro ns
  induction ns with
  | nil=>intro acc;rfl
  | cons n ns ih=>intro acc;rw [List.foldl_cons,ih,ByteArray.size_push,List.length_cons];omega
 unfold bytesS
 rw [this]
 exact Nat.zero_add _
def fL (F:Nat→Int):List Int:=(List.range 48).map F
theorem fL_len {F:Nat→Int}:(fL F).length=48:=by simp [fL]
theorem fL_congr {F G:Nat→Int} (h:∀ i,i<48→F i=G i):fL F=fL G:=List.map_congr_left fun i hi=>h i (List.mem_range.1 hi)
theorem fL_rng {F:Nat→Int} (h:∀ i,0≤F i∧F i<256):∀ x ∈ fL F,0≤x∧x<256:=fun x hx=>by
 obtain ⟨i,_,rfl⟩:=List.mem_map.1 hx
 exact h i
theorem fL_get {F:Nat→Int} {i:Nat} (h:i<48):(fL F)[i]?=some (F i):=by simp [fL,h]
theorem fL_text {s:ByteArray} (h:s.size=48):bytesL s=fL fun x=>byteAt s (x:Int):=by
 apply List.ext_getElem?
 intro i
 by_cases hi:i<48
 ·rw [bytesL_get (by omega),fL_get hi]
 ·rw [List.getElem?_eq_none (by rw [bytesL_len];omega),List.getElem?_eq_none (by rw [fL_len];omega)]
def upF (F:Nat→Int) (i:Nat) (b:Int):Nat→Int:=fun x=>if x=i then b else F x
def overT (s:ByteArray) (lo hi:Int) (d:ByteArray):ByteArray:=s.extract 0 lo.toNat ++ d ++ s.extract hi.toNat s.size
theorem over_fL {F:Nat→Int} {s d:ByteArray} {lo hi:Int} (hF:∀ i,0≤F i∧F i<256) (hs:s=bytesS (fL F)) (h0:0≤lo) (h1:hi=lo + d.size) (h2:hi≤48):overT s lo hi d=bytesS (fL fun x=>if lo≤(x:Int)∧(x:Int)<hi then byteAt d ((x:Int) - lo) else F x):=by
 subst hs
 have hsz:(bytesS (fL F)).size=48:=by rw [bytesS_size,fL_len]
 have hG:∀ i:Nat,0≤(if lo≤(i:Int)∧(i:Int)<hi then byteAt d ((i:Int) - lo) else F i)∧(if lo≤(i:Int)∧(i:Int)<hi then byteAt d ((i:Int) - lo) else F i)<256:=fun i=>by
  split
  ·exact byteAt_rng _ _
  ·exact hF i
 apply bT_ext
 rw [bytesL_S (fL_rng (F:=fun x=>if lo≤(x:Int)∧(x:Int)<hi then byteAt d ((x:Int) - lo) else F x) hG)]
 unfold overT
 rw [bytesL_app,bytesL_app,bytesL_cut,bytesL_cut,bytesL_S (fL_rng hF),hsz]
 apply List.ext_getElem?
 intro j
 have l1:(((fL F).drop 0).take (lo.toNat - 0)).length=lo.toNat:=by simp [fL_len];omega
 have l2:(bytesL d).length=d.size:=bytesL_len
 have l3:(((fL F).drop hi.toNat).take (48 - hi.toNat)).length=48 - hi.toNat:=by simp [fL_len]
 by_cases hj:j<48
 ·rw [fL_get hj]
  by_cases a:j<lo.toNat
  ·rw [List.getElem?_append_left (by rw [List.length_append,l1];omega),List.getElem?_append_left (by rw [l1];exact a),List.getElem?_take,if_pos (by omega),List.drop_zero,fL_get hj,if_neg (by omega)]
  ·by_cases b:j<hi.toNat
   ·rw [List.getElem?_append_left (by rw [List.length_append,l1,l2];omega),List.getElem?_append_right (by rw [l1];omega),l1,bytesL_get (by omega),if_pos (by omega),show ((j - lo.toNat:Nat):Int)=(j:Int) - lo by omega]
   ·rw [List.getElem?_append_right (by rw [List.length_append,l1,l2];omega),List.length_append,l1,l2,List.getElem?_take,if_pos (by omega),List.getElem?_drop,show hi.toNat + (j - (lo.toNat + d.size))=j by omega,fL_get hj,if_neg (by omega)]
 ·rw [List.getElem?_eq_none (by rw [List.length_append,List.length_append,l1,l2,l3];omega),List.getElem?_eq_none (by rw [fL_len];omega)]
theorem text_fL {s:ByteArray} (h:s.size=48):s=bytesS (fL fun x=>byteAt s (x:Int)):=by rw [← fL_text h,bytesS_L]
theorem byte_cut {d:ByteArray} {j:Int} (h0:0≤j) (h1:j<d.size):byteAt (d.extract j.toNat (j + 1).toNat) 0=byteAt d j:=by
 have h2:=bytesL_get (s:=d.extract j.toNat (j + 1).toNat) (i:=0) (by rw [ByteArray.size_extract];omega)
 rw [bytesL_cut,show (j + 1).toNat - j.toNat=1 by omega,List.getElem?_take,if_pos (by decide),List.getElem?_drop,Nat.add_zero,bytesL_get (by omega),show ((j.toNat:Nat):Int)=j by omega] at h2
 exact (Option.some.inj h2).symm
theorem size_cut {d:ByteArray} {j:Int} (h0:0≤j) (h1:j<d.size):(d.extract j.toNat (j + 1).toNat).size=1:=by rw [ByteArray.size_extract];omega
def fillF (t d:ByteArray) (l:List Sp) (lo i:Int) (x:Nat):Int:=if lo≤(x:Int)∧(x:Int)<i∧l1In l (x:Int)=false then byteAt d ((x:Int) - lo) else byteAt t (x:Int)
theorem fillF_rng {t d:ByteArray} {l:List Sp} {lo i:Int} (x:Nat):0≤fillF t d l lo i x∧fillF t d l lo i x<256:=by
 unfold fillF
 split <;> exact byteAt_rng _ _
theorem fillF_0 {t d:ByteArray} {l:List Sp} {lo:Int} (h:t.size=48):bytesL t=fL (fillF t d l lo lo):=by
 rw [fL_text h]
 exact fL_congr fun x _=>by unfold fillF;rw [if_neg (by omega)]
theorem fillF_1 {t d:ByteArray} {l:List Sp} {lo i:Int} (h0:0≤i) (h:l1In l i=true):fL (fillF t d l lo i)=fL (fillF t d l lo (i + 1)):=fL_congr fun x _=>by
 unfold fillF
 by_cases e:(x:Int)=i
 ·rw [if_neg (by omega),if_neg (by rw [e,h];simp)]
 ·by_cases e2:lo≤(x:Int)∧(x:Int)<i∧l1In l (x:Int)=false
  ·rw [if_pos e2,if_pos ⟨e2.1,by omega,e2.2.2⟩]
  ·rw [if_neg e2,if_neg fun c=>e2 ⟨c.1,by omega,c.2.2⟩]
theorem fillF_2 {t d:ByteArray} {l:List Sp} {lo i:Int} (h0:0≤i) (hl:lo≤i) (h:l1In l i=false):fL (upF (fillF t d l lo i) i.toNat (byteAt d (i - lo)))=fL (fillF t d l lo (i + 1)):=fL_congr fun x _=>by
 unfold upF fillF
 by_cases e:(x:Int)=i
 ·rw [if_pos (by omega),if_pos ⟨by omega,by omega,by rw [e];exact h⟩,e]
 ·rw [if_neg (by omega)]
  by_cases e2:lo≤(x:Int)∧(x:Int)<i∧l1In l (x:Int)=false
  ·rw [if_pos e2,if_pos ⟨e2.1,by omega,e2.2.2⟩]
  ·rw [if_neg e2,if_neg fun c=>e2 ⟨c.1,by omega,c.2.2⟩]
theorem fillF_3 {t d:ByteArray} {l:List Sp} {lo i:Int} (h0:0≤i) (hl:lo≤i) (h48:i<48) (hd:i - lo<d.size) (h:l1In l i=false):overT (bytesS (fL (fillF t d l lo i))) i (i + 1) (d.extract (i - lo).toNat (i - lo + 1).toNat)=bytesS (fL (fillF t d l lo (i + 1))):=by
 have hc:=size_cut (d:=d) (j:=i - lo) (by omega) hd
 rw [over_fL (F:=fillF t d l lo i) fillF_rng rfl h0 (by rw [hc];rfl) (by omega),← fillF_2 h0 hl h]
 congr 1
 refine fL_congr fun x _=>?_
 unfold upF
 by_cases e:x=i.toNat
 ·rw [if_pos (by omega),if_pos e,show (x:Int) - i=0 by omega,byte_cut (by omega) hd]
 ·rw [if_neg (by omega),if_neg e]
def blankF (t:ByteArray) (lo i:Int) (x:Nat):Int:=if lo≤(x:Int)∧(x:Int)<i then 46 else byteAt t (x:Int)
def fillX (o:Ow) (s:Sp) (d:ByteArray):Ow:=⟨bytesS (fL (fillF o.t d o.d s.lo s.hi)),l1ofP (putP (ofP o.h) (ofP [s]) true),o.d⟩
def mayF (s:Sp) (d:ByteArray):Bool:=spanOk s && (textOk d && ((d.size:Int) == s.hi - s.lo))
theorem mayF_1 {s:Sp} {d:ByteArray} (h:spanOk s=false):mayF s d=false:=and_false_l h
theorem mayF_2 {s:Sp} {d:ByteArray} (h:textOk d=false):mayF s d=false:=and_false_r (and_false_l h)
theorem mayF_4 {s:Sp} {d:ByteArray} (h:(d.size:Int) ≠ s.hi - s.lo):mayF s d=false:=and_false_r (and_false_r (beq_eq_false_iff_ne.2 h))
theorem mayF_5 {s:Sp} {d:ByteArray} (h:spanOk s=true) (k:textOk d=true) (e:(d.size:Int)=s.hi - s.lo):mayF s d=true:=and_true h (and_true k (beq_iff_eq.2 e))
def dropX (o:Ow) (s:Sp):Ow:=⟨bytesS (fL (blankF o.t s.lo s.hi)),l1ofP (putP (ofP o.h) (ofP [s]) false),o.d⟩
def mayD (o:Ow) (s:Sp):Bool:=spanOk s && (((patA o s).length:Int) == 0)
theorem mayD_1 {o:Ow} {s:Sp} (h:spanOk s=false):mayD o s=false:=and_false_l h
theorem mayD_3 {o:Ow} {s:Sp} (h:((patA o s).length:Int) > 0):mayD o s=false:=and_false_r (beq_eq_false_iff_ne.2 (by omega))
theorem mayD_4 {o:Ow} {s:Sp} (h:spanOk s=true) (k:¬ ((patA o s).length:Int) > 0):mayD o s=true:=and_true h (beq_iff_eq.2 (by omega))
def blankT (n:Nat):ByteArray:=bytesS (List.replicate n 46)
theorem blankT_size {n:Nat}:(blankT n).size=n:=by unfold blankT;rw [bytesS_size,List.length_replicate]
theorem blankT_L {n:Nat}:bytesL (blankT n)=List.replicate n 46:=bytesL_S fun x hx=>by rw [List.eq_of_mem_replicate hx];decide
theorem blankT_1 {n:Nat}:blankT n ++ ⟨#[46]⟩=blankT (n + 1):=bT_ext (by rw [bytesL_app,blankT_L,blankT_L,List.replicate_succ'];rfl)
theorem blank_over {t:ByteArray} {lo hi:Int} (ht:t.size=48) (h0:0≤lo) (h1:lo≤hi) (h2:hi≤48):overT t lo hi (blankT (hi - lo).toNat)=bytesS (fL (blankF t lo hi)):=by
 rw [over_fL (F:=fun x=>byteAt t (x:Int)) (fun i=>byteAt_rng _ _) (text_fL ht) h0 (by rw [blankT_size];omega) h2]
 congr 1
 refine fL_congr fun x _=>?_
 unfold blankF
 by_cases e:lo≤(x:Int)∧(x:Int)<hi
 ·rw [if_pos e,if_pos e]
  have h3:=bytesL_get (s:=blankT (hi - lo).toNat) (i:=((x:Int) - lo).toNat) (by rw [blankT_size];omega)
  rw [blankT_L,List.getElem?_replicate,if_pos (by omega),show ((((x:Int) - lo).toNat:Nat):Int)=(x:Int) - lo by omega] at h3
  exact (Option.some.inj h3).symm
 ·rw [if_neg e,if_neg e]
theorem blank_len {s:Sp} {t:ByteArray}:(bytesS (fL (blankF t s.lo s.hi))).size=48:=by rw [bytesS_size,fL_len]
theorem toList_loop (d:ByteArray):∀ n i (r:List UInt8),i + n=d.size→ByteArray.toList.loop d i r=r.reverse ++ d.data.toList.drop i:=by
 intro n
 induction n with
 | zero =>
  intro i r h
  unfold ByteArray.toList.loop
  rw [if_neg (by omega),List.drop_eq_nil_of_le (by rw [Array.length_toList];show d.size≤i;omega),List.append_nil]
 | succ n ih =>
  intro i r h
  unfold ByteArray.toList.loop
  rw [if_pos (by omega),ih (i + 1) _ (by omega),List.reverse_cons,List.append_assoc]
  have hi:i<d.data.toList.length:=by rw [Array.length_toList];show i<d.size;omega
  rw [List.drop_eq_getElem_cons hi]
  congr 2
  have:i<d.data.size:=by simpa using hi
  simp [ByteArray.get!]
  exact getElem!_pos d.data i this
theorem toList_data (d:ByteArray):d.toList=d.data.toList:=by
 have:=toList_loop d d.size 0 [] (by omega)
 simpa [ByteArray.toList] using this
theorem empty_T {d:ByteArray} (h:(d.toList == (⟨#[]⟩:ByteArray).toList)=true):d.size=0:=by
 rw [beq_iff_eq,toList_data,toList_data] at h
 have:=congrArg List.length h
 rw [Array.length_toList] at this
 exact this
theorem empty_F {d:ByteArray} (h:(d.toList == (⟨#[]⟩:ByteArray).toList)=false):0<d.size:=by
 rcases Nat.eq_zero_or_pos d.size with h0|h0
 ·exfalso
  rw [beq_eq_false_iff_ne,toList_data,toList_data] at h
  refine h ?_
  have h0:d.data.size=0:=h0
  rw [Array.size_eq_zero_iff.1 h0]
 ·exact h0
def writeF (t d:ByteArray) (a:Int) (x:Nat):Int:=if a≤(x:Int)∧(x:Int)<a + d.size then byteAt d ((x:Int) - a) else byteAt t (x:Int)
theorem write_over {t d:ByteArray} {a:Int} (ht:t.size=48) (h0:0≤a) (h2:a + d.size≤48):overT t a (a + d.size) d=bytesS (fL (writeF t d a)):=over_fL (F:=fun x=>byteAt t (x:Int)) (fun i=>byteAt_rng _ _) (text_fL ht) h0 rfl h2
def mayW (a:Int) (d:ByteArray):Bool:=decide (0≤a∧a≤48∧0<d.size∧a + d.size≤48) && textOk d
theorem mayW_in {a:Int} {d:ByteArray} (h:mayW a d=true):(0≤a∧a≤48∧0<d.size∧a + d.size≤48)∧textOk d=true:=by unfold mayW at h;simpa using h
theorem mayW_T {a:Int} {d:ByteArray} (h0:¬ a<0) (h1:¬ a > 48) (h2:(d.toList == (⟨#[]⟩:ByteArray).toList)=false) (h3:textOk d=true) (h4:¬ a + d.size > 48):mayW a d=true:=and_true (decide_eq_true ⟨by omega,by omega,empty_F h2,by omega⟩) h3
theorem mayW_1 {a:Int} {d:ByteArray} (h:a<0):mayW a d=false:=and_false_l (decide_eq_false (by omega))
theorem mayW_2 {a:Int} {d:ByteArray} (h:a > 48):mayW a d=false:=and_false_l (decide_eq_false (by omega))
theorem mayW_3 {a:Int} {d:ByteArray} (h:(d.toList == (⟨#[]⟩:ByteArray).toList)=true):mayW a d=false:=and_false_l (decide_eq_false (by have:=empty_T h;omega))
theorem mayW_4 {a:Int} {d:ByteArray} (h:textOk d=false):mayW a d=false:=and_false_r h
theorem mayW_5 {a:Int} {d:ByteArray} (h:a + d.size > 48):mayW a d=false:=and_false_l (decide_eq_false (by omega))
abbrev partW (a:Int) (d:ByteArray):Sp:=⟨a,a + d.size⟩
theorem partW_ok {a:Int} {d:ByteArray} (h:mayW a d=true):spanOk (partW a d)=true:=decide_eq_true (by have:=(mayW_in h).1;simp only;omega)
abbrev writeX (o:Ow) (a:Int) (d:ByteArray):Ow:=⟨bytesS (fL (writeF o.t d a)),l1ofP (putP (ofP o.h) (ofP [partW a d]) true),l1ofP (putP (ofP o.d) (ofP [partW a d]) true)⟩
end Go.Proofs.Ythionnhbnfblcaa.A
namespace Go.Proofs.Ythionnhbnfblcaa.A
open Go Go.RowKit
set_option maxHeartbeats 4000000
def smO (a b:Ow):Bool:=(a.t.toList == b.t.toList) && (decide (a.h=b.h) && decide (a.d=b.d))
theorem smO_1 {a b:Ow} (h:(a.t.toList == b.t.toList)=false):smO a b=false:=by unfold smO;rw [h];rfl
theorem smO_2 {a b:Ow} (h:decide (a.h=b.h)=false):smO a b=false:=by unfold smO;rw [h];simp
theorem smO_3 {a b:Ow} (h1:(a.t.toList == b.t.toList)=true) (h2:decide (a.h=b.h)=true):smO a b=decide (a.d=b.d):=by unfold smO;rw [h1,h2];rfl
theorem smO_self {a:Ow}:smO a a=true:=by unfold smO;simp
theorem smO_comm {a b:Ow}:smO a b=smO b a:=by
 unfold smO
 rw [show (a.t.toList == b.t.toList)=(b.t.toList == a.t.toList) from BEq.comm,decide_eq_decide.2 (eq_comm (a:=a.h) (b:=b.h)),decide_eq_decide.2 (eq_comm (a:=a.d) (b:=b.d))]
theorem smO_d {a:Ow} {s:Sp}:true = !smO a (⟨a.t,a.h,a.d ++ [s]⟩:Ow):=by
 have:smO a (⟨a.t,a.h,a.d ++ [s]⟩:Ow)=false:=by
  show ((a.t.toList == a.t.toList) && (decide (a.h=a.h) && decide (a.d=a.d ++ [s])))=false
  have hd:decide (a.d=a.d ++ [s])=false:=decide_eq_false (fun e=>by have:=congrArg List.length e;simp at this)
  rw [hd]
  simp
 rw [this];rfl
theorem smO_t {a:Ow}:smO a (⟨a.t ++ ⟨#[46]⟩,a.h,a.d⟩:Ow)=false:=by
 refine smO_1 ?_
 show (a.t.toList == (a.t ++ ⟨#[46]⟩:ByteArray).toList)=false
 rw [beq_eq_false_iff_ne]
 intro e
 have:=congrArg List.length e
 rw [toList_data,toList_data] at this
 simp at this
theorem beqNO {a b:Bool} (e:a=b):(!(a == b))=false:=by rw [e];exact nself _
theorem impl_OwnSame_c {a b:Ow} (h1:a.h.length≤1048576) (h2:a.d.length≤1048576):FDoes Try.prog 16 [.agg #[.string a.t,.slice (some ⟨0,0,none⟩) a.h.length 0,.slice (some ⟨1,0,none⟩) a.d.length 0],.agg #[.string b.t,.slice (some ⟨2,0,none⟩) b.h.length 0,.slice (some ⟨3,0,none⟩) b.d.length 0]] (hp [(0,false,one ⟨rSp a.h,38,0⟩),(1,false,one ⟨rSp a.d,38,0⟩),(2,false,one ⟨rSp b.h,38,0⟩),(3,false,one ⟨rSp b.d,38,0⟩)]) { v:=.bool (smO a b),rd:=[0,1,2,3] }:=by
 have hm:Try.prog.follows .mixedOrders=true:=by kernel_rfl
 have hd_:∀ x_ ∈ ([(0,false,one ⟨rSp a.h,38,0⟩),(1,false,one ⟨rSp a.d,38,0⟩),(2,false,one ⟨rSp b.h,38,0⟩),(3,false,one ⟨rSp b.d,38,0⟩)]:List (Nat × Bool × Fam)),∀ k_ y_,x_.2.2 k_=some y_→DetB (lt 4) y_:=by
  intro x_ hx k_ y_ e
  simp only [List.mem_cons,List.not_mem_nil,or_false] at hx
  rcases hx with rfl|rfl|rfl|rfl
  ·exact det_row (rSp_flat _) e
  ·exact det_row (rSp_flat _) e
  ·exact det_row (rSp_flat _) e
  ·exact det_row (rSp_flat _) e
 refine fn_exact (u0:=4) Try.func16 rfl rfl (gets rfl rfl rfl hd_ rfl) ?_
 clear hd_
 refine vc_seq ?_
 refine vc_region hm ?_
 refine gB (u':=5) trivial rfl rfl rfl rfl rfl rfl rfl rfl ?_
 refine gB (u':=6) trivial rfl rfl rfl rfl rfl rfl rfl rfl ?_
 refine gM trivial (.inr rfl) rfl rfl rfl ?_
 refine rg_nil nofun ?_
 refine vc_seq ?_
 refine vc_region hm ?_
 refine gF trivial rfl rfl rfl rfl rfl ?_
 refine gL trivial rfl rfl rfl rfl rfl rfl rfl rfl ?_
 refine gF trivial rfl rfl rfl rfl rfl ?_
 refine gL trivial rfl rfl rfl rfl rfl rfl rfl rfl ?_
 refine gS trivial rfl rfl rfl rfl rfl rfl ?_
 refine gM trivial (.inl rfl) rfl rfl rfl ?_
 refine gI2 (d:=10) rfl (fun c10=>?_) (fun c10=>?_)
 ·skip
  refine gF ⟨_,_,rfl,rfl,c10⟩ rfl rfl rfl rfl rfl ?_
  refine gL ⟨_,_,rfl,rfl,c10⟩ rfl rfl rfl rfl rfl rfl rfl rfl ?_
  refine gF ⟨_,_,rfl,rfl,c10⟩ rfl rfl rfl rfl rfl ?_
  refine gL ⟨_,_,rfl,rfl,c10⟩ rfl rfl rfl rfl rfl rfl rfl rfl ?_
  refine gC0 [0,2] (equal_c (a:=a.h) (b:=b.h) (by omega)) ⟨_,_,rfl,rfl,c10⟩ rfl rfl rfl rfl ⟨rFlat (rSp_flat a.h) rfl (.inl rfl) rfl,rFlat (rSp_flat b.h) rfl (.inl rfl) rfl,trivial⟩ rfl rfl rfl rfl rfl ?_
  refine gPT trivial rfl rfl c10 rfl rfl rfl ?_
  refine gM trivial (.inl rfl) rfl rfl rfl ?_
  refine gI2 (d:=17) rfl (fun c17=>?_) (fun c17=>?_)
  ·skip
   refine gF ⟨_,_,rfl,rfl,c17⟩ rfl rfl rfl rfl rfl ?_
   refine gL ⟨_,_,rfl,rfl,c17⟩ rfl rfl rfl rfl rfl rfl rfl rfl ?_
   refine gF ⟨_,_,rfl,rfl,c17⟩ rfl rfl rfl rfl rfl ?_
   refine gL ⟨_,_,rfl,rfl,c17⟩ rfl rfl rfl rfl rfl rfl rfl rfl ?_
   refine gC0 [1,3] (equal_c (a:=a.d) (b:=b.d) (by omega)) ⟨_,_,rfl,rfl,c17⟩ rfl rfl rfl rfl ⟨rFlat (rSp_flat a.d) rfl (.inl rfl) rfl,rFlat (rSp_flat b.d) rfl (.inl rfl) rfl,trivial⟩ rfl rfl rfl rfl rfl ?_
   refine gPT trivial rfl rfl c17 rfl rfl rfl ?_
   refine gM trivial (.inr rfl) rfl rfl rfl ?_
   refine rg_nil nofun ?_
   refine vc_ret ?_
   exact ⟨idm,ends0 (.inr rfl) rfl (eqB (smO_3 c10 c17)) rfl rfl rfl⟩
  ·skip
   refine gO ⟨_,_,rfl,rfl,c17⟩ rfl rfl ?_
   refine gO ⟨_,_,rfl,rfl,c17⟩ rfl rfl ?_
   refine gO ⟨_,_,rfl,rfl,c17⟩ rfl rfl ?_
   refine gO ⟨_,_,rfl,rfl,c17⟩ rfl rfl ?_
   refine gO ⟨_,_,rfl,rfl,c17⟩ rfl rfl ?_
   refine gPF trivial rfl rfl c17 rfl rfl rfl ?_
   refine gM trivial (.inr rfl) rfl rfl rfl ?_
   refine rg_nil nofun ?_
   refine vc_ret ?_
   exact ⟨idm,ends0 (.inr rfl) rfl (eqB (smO_2 c17)) rfl rfl rfl⟩
 ·skip
  refine gO ⟨_,_,rfl,rfl,c10⟩ rfl rfl ?_
  refine gO ⟨_,_,rfl,rfl,c10⟩ rfl rfl ?_
  refine gO ⟨_,_,rfl,rfl,c10⟩ rfl rfl ?_
  refine gO ⟨_,_,rfl,rfl,c10⟩ rfl rfl ?_
  refine gO ⟨_,_,rfl,rfl,c10⟩ rfl rfl ?_
  refine gPF trivial rfl rfl c10 rfl rfl rfl ?_
  refine gM trivial (.inl rfl) rfl rfl rfl ?_
  refine gO ⟨_,_,rfl,rfl,rfl⟩ rfl rfl ?_
  refine gO ⟨_,_,rfl,rfl,rfl⟩ rfl rfl ?_
  refine gO ⟨_,_,rfl,rfl,rfl⟩ rfl rfl ?_
  refine gO ⟨_,_,rfl,rfl,rfl⟩ rfl rfl ?_
  refine gO ⟨_,_,rfl,rfl,rfl⟩ rfl rfl ?_
  refine gPF trivial rfl rfl rfl rfl rfl rfl ?_
  refine gM trivial (.inr rfl) rfl rfl rfl ?_
  refine rg_nil nofun ?_
  refine vc_ret ?_
  exact ⟨idm,ends0 (.inr rfl) rfl (eqB (smO_1 c10)) rfl rfl rfl⟩
theorem spec_OwnSame_c {a b:Ow} (h1:a.h.length≤1048576) (h2:a.d.length≤1048576):FDoes Try.prog 14 [.agg #[.string a.t,.slice (some ⟨0,0,none⟩) a.h.length 0,.slice (some ⟨1,0,none⟩) a.d.length 0],.agg #[.string b.t,.slice (some ⟨2,0,none⟩) b.h.length 0,.slice (some ⟨3,0,none⟩) b.d.length 0]] (hp [(0,false,one ⟨rSp a.h,38,0⟩),(1,false,one ⟨rSp a.d,38,0⟩),(2,false,one ⟨rSp b.h,38,0⟩),(3,false,one ⟨rSp b.d,38,0⟩)]) { v:=.bool (smO a b),rd:=[0,1,2,3] }:=by
 have hm:Try.prog.follows .mixedOrders=true:=by kernel_rfl
 have hd_:∀ x_ ∈ ([(0,false,one ⟨rSp a.h,38,0⟩),(1,false,one ⟨rSp a.d,38,0⟩),(2,false,one ⟨rSp b.h,38,0⟩),(3,false,one ⟨rSp b.d,38,0⟩)]:List (Nat × Bool × Fam)),∀ k_ y_,x_.2.2 k_=some y_→DetB (lt 4) y_:=by
  intro x_ hx k_ y_ e
  simp only [List.mem_cons,List.not_mem_nil,or_false] at hx
  rcases hx with rfl|rfl|rfl|rfl
  ·exact det_row (rSp_flat _) e
  ·exact det_row (rSp_flat _) e
  ·exact det_row (rSp_flat _) e
  ·exact det_row (rSp_flat _) e
 refine fn_exact (u0:=4) Try.func14 rfl rfl (gets rfl rfl rfl hd_ rfl) ?_
 clear hd_
 refine vc_seq ?_
 refine vc_region hm ?_
 refine gB (u':=5) trivial rfl rfl rfl rfl rfl rfl rfl rfl ?_
 refine gB (u':=6) trivial rfl rfl rfl rfl rfl rfl rfl rfl ?_
 refine gM trivial (.inr rfl) rfl rfl rfl ?_
 refine rg_nil nofun ?_
 refine vc_seq ?_
 refine vc_region hm ?_
 refine gF trivial rfl rfl rfl rfl rfl ?_
 refine gL trivial rfl rfl rfl rfl rfl rfl rfl rfl ?_
 refine gF trivial rfl rfl rfl rfl rfl ?_
 refine gL trivial rfl rfl rfl rfl rfl rfl rfl rfl ?_
 refine gS trivial rfl rfl rfl rfl rfl rfl ?_
 refine gM trivial (.inl rfl) rfl rfl rfl ?_
 refine gI2 (d:=10) rfl (fun c10=>?_) (fun c10=>?_)
 ·skip
  refine gF ⟨_,_,rfl,rfl,c10⟩ rfl rfl rfl rfl rfl ?_
  refine gL ⟨_,_,rfl,rfl,c10⟩ rfl rfl rfl rfl rfl rfl rfl rfl ?_
  refine gF ⟨_,_,rfl,rfl,c10⟩ rfl rfl rfl rfl rfl ?_
  refine gL ⟨_,_,rfl,rfl,c10⟩ rfl rfl rfl rfl rfl rfl rfl rfl ?_
  refine gC0 [0,2] (spec_l4Spans_c (a:=a.h) (b:=b.h) (by omega)) ⟨_,_,rfl,rfl,c10⟩ rfl rfl rfl rfl ⟨rFlat (rSp_flat a.h) rfl (.inl rfl) rfl,rFlat (rSp_flat b.h) rfl (.inl rfl) rfl,trivial⟩ rfl rfl rfl rfl rfl ?_
  refine gPT trivial rfl rfl c10 rfl rfl rfl ?_
  refine gM trivial (.inl rfl) rfl rfl rfl ?_
  refine gI2 (d:=17) rfl (fun c17=>?_) (fun c17=>?_)
  ·skip
   refine gF ⟨_,_,rfl,rfl,c17⟩ rfl rfl rfl rfl rfl ?_
   refine gL ⟨_,_,rfl,rfl,c17⟩ rfl rfl rfl rfl rfl rfl rfl rfl ?_
   refine gF ⟨_,_,rfl,rfl,c17⟩ rfl rfl rfl rfl rfl ?_
   refine gL ⟨_,_,rfl,rfl,c17⟩ rfl rfl rfl rfl rfl rfl rfl rfl ?_
   refine gC0 [1,3] (spec_l4Spans_c (a:=a.d) (b:=b.d) (by omega)) ⟨_,_,rfl,rfl,c17⟩ rfl rfl rfl rfl ⟨rFlat (rSp_flat a.d) rfl (.inl rfl) rfl,rFlat (rSp_flat b.d) rfl (.inl rfl) rfl,trivial⟩ rfl rfl rfl rfl rfl ?_
   refine gPT trivial rfl rfl c17 rfl rfl rfl ?_
   refine gM trivial (.inr rfl) rfl rfl rfl ?_
   refine rg_nil nofun ?_
   refine vc_ret ?_
   exact ⟨idm,ends0 (.inr rfl) rfl (eqB (smO_3 c10 c17)) rfl rfl rfl⟩
  ·skip
   refine gO ⟨_,_,rfl,rfl,c17⟩ rfl rfl ?_
   refine gO ⟨_,_,rfl,rfl,c17⟩ rfl rfl ?_
   refine gO ⟨_,_,rfl,rfl,c17⟩ rfl rfl ?_
   refine gO ⟨_,_,rfl,rfl,c17⟩ rfl rfl ?_
   refine gO ⟨_,_,rfl,rfl,c17⟩ rfl rfl ?_
   refine gPF trivial rfl rfl c17 rfl rfl rfl ?_
   refine gM trivial (.inr rfl) rfl rfl rfl ?_
   refine rg_nil nofun ?_
   refine vc_ret ?_
   exact ⟨idm,ends0 (.inr rfl) rfl (eqB (smO_2 c17)) rfl rfl rfl⟩
 ·skip
  refine gO ⟨_,_,rfl,rfl,c10⟩ rfl rfl ?_
  refine gO ⟨_,_,rfl,rfl,c10⟩ rfl rfl ?_
  refine gO ⟨_,_,rfl,rfl,c10⟩ rfl rfl ?_
  refine gO ⟨_,_,rfl,rfl,c10⟩ rfl rfl ?_
  refine gO ⟨_,_,rfl,rfl,c10⟩ rfl rfl ?_
  refine gPF trivial rfl rfl c10 rfl rfl rfl ?_
  refine gM trivial (.inl rfl) rfl rfl rfl ?_
  refine gO ⟨_,_,rfl,rfl,rfl⟩ rfl rfl ?_
  refine gO ⟨_,_,rfl,rfl,rfl⟩ rfl rfl ?_
  refine gO ⟨_,_,rfl,rfl,rfl⟩ rfl rfl ?_
  refine gO ⟨_,_,rfl,rfl,rfl⟩ rfl rfl ?_
  refine gO ⟨_,_,rfl,rfl,rfl⟩ rfl rfl ?_
  refine gPF trivial rfl rfl rfl rfl rfl rfl ?_
  refine gM trivial (.inr rfl) rfl rfl rfl ?_
  refine rg_nil nofun ?_
  refine vc_ret ?_
  exact ⟨idm,ends0 (.inr rfl) rfl (eqB (smO_1 c10)) rfl rfl rfl⟩
end Go.Proofs.Ythionnhbnfblcaa.A
namespace Go.Proofs.Ythionnhbnfblcaa.A
open Go Go.RowKit
def ByL (l:List Int):Prop:=∀ x ∈ l,0≤x∧x≤255
theorem byL_at {l:List Int} (h:ByL l) {i:Int} (h0:0≤i) (h1:i<l.length):0≤at_ l i∧at_ l i≤255:=h _ (at_mem h0 h1)
theorem tmod_in {x n:Int} (hx:0≤x) (hn:1≤n):0≤Int.tmod x n∧Int.tmod x n<n:=by
 rw [Int.tmod_eq_emod_of_nonneg hx]
 exact ⟨Int.emod_nonneg _ (by omega),Int.emod_lt_of_pos _ (by omega)⟩
theorem tdiv_in {x n:Int} (hx:0≤x) (hn:0≤n):0≤Int.tdiv x n∧Int.tdiv x n≤x:=⟨Int.tdiv_nonneg hx hn,Int.tdiv_le_self _ hx⟩
def xorI (a b:Int):Int:=IntKind.i64.wrap (BitVec.ofInt IntKind.i64.bits a ^^^ BitVec.ofInt IntKind.i64.bits b).toNat
theorem xor_nn {a b:Int} (ha:0≤a) (ha2:a<4611686018427387904) (hb:0≤b) (hb2:b<4611686018427387904):0≤xorI a b:=by
 obtain ⟨m,rfl⟩:=Int.eq_ofNat_of_zero_le ha
 obtain ⟨n,rfl⟩:=Int.eq_ofNat_of_zero_le hb
 have h62:(2:Nat) ^ 62=4611686018427387904:=by decide
 have h64:(2:Nat) ^ IntKind.i64.bits=18446744073709551616:=by decide
 have h1:m<2 ^ 62:=by omega
 have h2:n<2 ^ 62:=by omega
 have hm:m % 2 ^ IntKind.i64.bits=m:=Nat.mod_eq_of_lt (by omega)
 have hn:n % 2 ^ IntKind.i64.bits=n:=Nat.mod_eq_of_lt (by omega)
 have hx:=Nat.xor_lt_two_pow h1 h2
 unfold xorI
 simp only [BitVec.ofInt_natCast,BitVec.toNat_xor,BitVec.toNat_ofNat,hm,hn]
 rw [wrap_in (by omega)]
 exact Int.natCast_nonneg _
section
variable {P:Program} {nt:Nat} {ops:Array Oper} {draw:Bool} {rest:List Oper} {u d:Nat} {t:List (Nat × Value)} {h:List (Nat × Bool × Fam)} {acc:List Eff} {K:St→Prop} {o:Oper}
theorem gNilP {x:Operand} {ad:Addr} (hw:wantT (tl t) ops o) (hop:o.op = .nilCheck x) (hx:ev t x=some (.pointer (some ad))) (hs:o.dst=some d) (hn:Nat.blt d nt=true) (k:RG P nt ops draw rest ⟨u,(d,.pointer (some ad)) :: t,h⟩ (acc ++ [{ v:=.pointer (some ad) }]) K):RG P nt ops draw (o :: rest) ⟨u,t,h⟩ acc K:=gV (does_nil hop hw hx) hs hn k
theorem gXor {ty yt:TypeId} {x y:Operand} {a b:Int} (hw:wantT (tl t) ops o) (hop:o.op = .binOp .xor ty x y yt) (hx:ev t x=some (.int .i64 a)) (hy:ev t y=some (.int .i64 b)) (hs:o.dst=some d) (hn:Nat.blt d nt=true) (k:RG P nt ops draw rest ⟨u,(d,.int .i64 (xorI a b)) :: t,h⟩ (acc ++ [{ v:=.int .i64 (xorI a b) }]) K):RG P nt ops draw (o :: rest) ⟨u,t,h⟩ acc K:=gV (does_xor hop hw hx hy) hs hn k
theorem gCvB {sy dy:TypeId} {x:Operand} {kd:IntKind} {a:Int} {ds:TypeDesc} (hw:wantT (tl t) ops o) (hop:o.op = .convert sy dy x) (hs':P.underlying sy=some ds) (hd:P.underlying dy=some (.int .i64)) (hx:ev t x=some (.int kd a)) (hs:o.dst=some d) (hn:Nat.blt d nt=true) (hr:-9223372036854775808≤a∧a≤9223372036854775807)
  (k:RG P nt ops draw rest ⟨u,(d,.int .i64 a) :: t,h⟩ (acc ++ [{ v:=.int .i64 a }]) K):RG P nt ops draw (o :: rest) ⟨u,t,h⟩ acc K:=by
 have:=does_conv (P:=P) (nt:=nt) (ops:=ops) (t:=tl t) (h:=hp h) hop hw hs' hd hx
 rw [wrap_in hr] at this
 exact gV this hs hn k
theorem gHead {ty e:TypeId} {x y:Operand} {n k len m:Nat} {cs:List Value} (hw:wantT (tl t) ops o) (hop:o.op = .slice ty x none (some y) none) (hu:P.underlying ty=some (.slice e)) (hz:szP P e=some 1) (hx:ev t x=some (.slice (some ⟨n,k,none⟩) len 0)) (hy:ev t y=some (.int .i64 (m:Int))) (hb:hat (hp h) n=some ⟨cs,capT + len,0⟩) (hs:o.dst=some d) (hn:Nat.blt d nt=true) (hne:cs ≠ []) (hm:m≤len)
  (kk:RG P nt ops draw rest ⟨u,(d,.slice (some ⟨n,k,none⟩) m 0) :: t,h⟩ (acc ++ [{ v:=.slice (some ⟨n,k,none⟩) m 0,rd:=[n % 1000] }]) K):RG P nt ops draw (o :: rest) ⟨u,t,h⟩ acc K:=by
 refine gV (does_val hw (fun ρ ac w ht hah=>?_) fun U hU=>?_) hs hn kk
 ·have hbl:=hat_at hb hah (.inl (.head _))
  have hnil:=(blkAt_cell hbl hne).1
  have hcap:len≤(ρ n).cap:=by
   unfold blkAt at hbl
   rw [hnil,if_neg (by decide),if_pos rfl] at hbl
   obtain ⟨_,_,_,_,_,h3⟩:=hbl
   have h3:capT + len - capT≤(ρ n).cap:=h3
   omega
  have e1:ac.eval x=r3 ρ (.slice (some ⟨n,k,none⟩) len 0):=ev_sound (ρ:=ρ) (by rw [hop];simp [Op.operands]) ht hx
  have e1:ac.eval x = .slice (some ⟨(ρ n).blk,k,none⟩) len (ρ n).cap:=by rw [e1];show (if (ρ n).nil=true then zv _ else _)=_;rw [if_neg (by rw [hnil];decide)];rfl
  have e2:ac.eval y = .int .i64 (m:Int):=ev_sound (ρ:=ρ) (by rw [hop];simp [Op.operands]) ht hy
  have e3:(Instr.sliceBounds true len (ρ n).cap none (some (.int .i64 (m:Int))) none).run P w = .ok (0,m,(ρ n).cap) w:=by
   simp [Instr.sliceBounds,Instr.sliceBound,asIntOf,show (m:Int)≤((ρ n).cap:Int) by omega,show (0:Int)≤(m:Int) by omega,show ¬ ((ρ n).cap<m) by omega,Sem.run_pure,Sem.run_bind,Result.andThen_ok]
  have e5:r3 ρ (.slice (some ⟨n,k,none⟩) m 0) = .slice (some ⟨(ρ n).blk,k,none⟩) m ((ρ n).cap - 0):=by
   show (if (ρ n).nil=true then zv _ else _)=_
   rw [if_neg (by rw [hnil];decide)]
  rw [e5]
  by_cases hc0:(ρ n).cap=0
  ·rw [hc0] at e3
   simp [execOp,hop,e1,e2,Instr.sliceAt,Instr.slice,run_underlying hu,run_sizeOf hz,e3,add_eq,hc0,Sem.run_pure,Sem.run_bind,Result.andThen_ok]
  ·simp [execOp,hop,e1,e2,Instr.sliceAt,Instr.slice,run_underlying hu,run_sizeOf hz,e3,add_eq,hc0,Sem.run_pure,Sem.run_bind,Result.andThen_ok]
 ·intro ρ ρ' hρ
  have:=hρ n (hat_det hb hU (.inl (.head _))).1
  simp [r3,r2,r1,this]
end
theorem det_ok {u t e k:Nat} {cs:List Value} {y:Blk} (hk:cs.all (ok1 u)=true) (h:one ⟨cs,t,e⟩ k=some y):DetB (lt u) y:=by
 obtain ⟨rfl,rfl⟩:=one_some h
 exact fun ρ ρ' hρ=>okL_det hk hρ
theorem upOne {hl h:List (Nat × Bool × Fam)} {m:Nat→Nat} {u b:Nat} {o:Bool} {x y:Blk} (h0:hl.lookup b=some (true,one y)) (hh:h.lookup b=some (o,one (x.rn m))) (hk:x.cs.all (ok1 u)=true):(∃ G,hl.lookup b=some (true,G)∧∀ k,G k ≠ none↔one x k ≠ none)∧(∃ o,h.lookup b=some (o,rnF m (one x)))∧∀ k y,one x k=some y→DetB (lt u) y:=by
 refine ⟨⟨_,h0,fun k=>?_⟩,⟨o,by rw [rnF_one];exact hh⟩,fun k y e=>det_ok (t:=x.t) (e:=x.e) hk e⟩
 by_cases hk:k=0 <;> simp [one,hk]
def FRn (m:Nat→Nat):List (Nat × Fam)→List (Nat × Fam)→Prop
 | [],[]=>True
 | (b,F) :: l,(c,G) :: l'=>(m b=c∧rnF m F=G)∧FRn m l l'
 | _,_=>False
theorem frn_map {m:Nat→Nat}:∀ {l l':List (Nat × Fam)},FRn m l l'→(l.map fun x=>(m x.1,rnF m x.2))=l'
 | [],[],_=>rfl
 | (b,F) :: l,(c,G) :: l',h=>by
  obtain ⟨⟨rfl,rfl⟩,h2⟩:=h
  rw [List.map_cons,frn_map h2]
 | [],_ :: _,h=>h.elim
 | _ :: _,[],h=>h.elim
theorem frOne {m:Nat→Nat} {b c:Nat} {x y:Blk} (h:m b=c) (e:x.rn m=y):m b=c∧rnF m (one x)=one y:=⟨h,by rw [rnF_one,e]⟩
section
variable {P:Program} {nt:Nat} {ops:Array Oper} {draw:Bool} {rest:List Oper} {u d:Nat} {t:List (Nat × Value)} {h:List (Nat × Bool × Fam)} {acc:List Eff} {K:St→Prop} {o:Oper}
theorem gCF {f:FuncId} {args:Array Operand} {tys:Array TypeId} {avs vs:List Value} {hl:List (Nat × Bool × Fam)} {v v':Value} {rd:List Nat} {ups as_ ups' as':List (Nat × Fam)} (u':Nat) (ms:List Nat) (hF:FDoes P f vs (hp hl) (mkF v rd ups as_)) (hw:wantT (tl t) ops o) (hop:o.op = .call ⟨.value (.func f),args,tys⟩) (hfn:fnOk P f=true) (ha:evL (tl t) args.toList=some avs) (hv:avs=vs.map (rn3 (mp ms)))
  (hr:RenL (mp ms) h hl) (hru:FRn (mp ms) ups ups') (hra:FRn (mp ms) as_ as') (hv':rn3 (mp ms) v=v') (hb:callB (mp ms) (mkF v rd ups as_) u u'=true) (ho:∀ x ∈ ups,Owned (hp h) (mp ms x.1)) (hU:∀ x ∈ ups,∃ F,hl.lookup x.1=some (true,F)∧∀ k,x.2 k ≠ none→F k ≠ none) (hs:o.dst=some d) (hn:Nat.blt d nt=true)
  (kk:RG P nt ops draw rest ⟨u',(d,v') :: t,as'.map (fun x=>(x.1,true,x.2)) ++ (ups'.map (fun x=>(x.1,true,x.2)) ++ h)⟩ (acc ++ [mkF v' (rd.map (mp ms)) ups' as']) K):RG P nt ops draw (o :: rest) ⟨u,t,h⟩ acc K:=by
 subst hv'
 have hE:(mkF v rd ups as_).rn (mp ms)=mkF (rn3 (mp ms) v) (rd.map (mp ms)) ups' as':=by
  unfold Eff.rn mkF
  simp only [List.map_nil]
  rw [frn_map hru,frn_map hra]
 refine gC u' ms hF hw hop hfn ha hv hr hb (fun b hb=>?_) (fun x hx k y e=>?_) rfl hs hn ?_
 ·rw [mkF_wr] at hb
  obtain ⟨x,hx,rfl⟩:=List.mem_map.1 hb
  exact ho x hx
 ·obtain ⟨F,h1,h2⟩:=hU x hx
  have:=h2 k (by rw [e];exact Option.some_ne_none _)
  cases hk:F k with
  | none=>exact absurd hk this
  | some z=>exact ⟨true,F,z,h1,hk⟩
 ·rw [hE]
  have:(mkF (rn3 (mp ms) v) (rd.map (mp ms)) ups' as').outL=as'.map (fun x=>(x.1,true,x.2)) ++ ups'.map (fun x=>(x.1,true,x.2)):=by simp [Eff.outL,mkF]
  rw [this,List.append_assoc]
  exact kk
end
end Go.Proofs.Ythionnhbnfblcaa.A
namespace Go.Proofs.Ythionnhbnfblcaa.A
open Go Go.RowKit
set_option maxHeartbeats 4000000
theorem det_code {u k t e n:Nat} {l:List Int} {y:Blk} (h:one ⟨hls k (rY l),t,e⟩ n=some y):DetB (lt u) y:=det_row (hls_flat (rY_flat l)) h
theorem pick_c {l:List Int} {k n t0:Nat} {p:Int} (hl:ByL l) (hn:n≤l.length) (hp0:0≤p) (hp1:p≤1000000) {m:Int} (h1:1≤m) (h2:m≤1000000):∃ E,FDoes Try.prog 75 [.pointer (some ⟨1,0,none⟩),.int .i64 m] (hp [(0,false,one ⟨hls k (rY l),t0,0⟩),(1,true,one ⟨[.slice (some ⟨0,k,none⟩) n 0,.int .i64 (p)],101,2⟩)]) E∧∃ x:Int,0≤x∧x<m∧E=mkF (.int .i64 x) [0] [(1,one ⟨[.slice (some ⟨0,k,none⟩) n 0,.int .i64 (p + 1)],101,2⟩)] []:=by
 have hm:Try.prog.follows .mixedOrders=true:=by kernel_rfl
 have hd_:∀ x_ ∈ ([(0,false,one ⟨hls k (rY l),t0,0⟩),(1,true,one ⟨[.slice (some ⟨0,k,none⟩) n 0,.int .i64 (p)],101,2⟩)]:List (Nat × Bool × Fam)),∀ k_ y_,x_.2.2 k_=some y_→DetB (lt 2) y_:=by
  intro x_ hx k_ y_ e
  simp only [List.mem_cons,List.not_mem_nil,or_false] at hx
  rcases hx with rfl|rfl
  ·exact det_code e
  ·exact det_ok rfl e
 refine fn_some (u0:=2) Try.func75 rfl rfl (gets rfl rfl rfl hd_ rfl) ?_
 clear hd_
 refine vc_seq ?_
 refine vc_region hm ?_
 refine gM trivial (.inr rfl) rfl rfl rfl ?_
 refine rg_nil nofun ?_
 refine vc_seq ?_
 refine vc_region hm ?_
 refine gM trivial (.inl rfl) rfl rfl rfl ?_
 refine gM trivial (.inl rfl) rfl rfl rfl ?_
 refine gNilP trivial rfl rfl rfl rfl ?_
 refine gF trivial rfl rfl rfl rfl rfl ?_
 refine gL trivial rfl rfl rfl rfl rfl rfl rfl rfl ?_
 refine gA trivial rfl rfl rfl rfl rfl rfl (by omega) ?_
 refine gNilP trivial rfl rfl rfl rfl ?_
 refine gF trivial rfl rfl rfl rfl rfl ?_
 refine gT trivial rfl rfl rfl rfl rfl rfl rfl rfl rfl rfl (Nat.le_of_ble_eq_true rfl) rfl ?_
 refine rg_nil nofun ?_
 refine vc_seq ?_
 refine vc_seq ?_
 refine vc_region hm ?_
 refine gM trivial (.inl rfl) rfl rfl rfl ?_
 refine gI trivial rfl rfl rfl rfl rfl rfl ?_
 refine gM trivial (.inl rfl) rfl rfl rfl ?_
 refine gM ⟨_,_,rfl,rfl,(decide_eq_false (by omega))⟩ (.inl rfl) rfl rfl rfl ?_
 refine gNilP ⟨_,_,rfl,rfl,(decide_eq_false (by omega))⟩ rfl rfl rfl rfl ?_
 refine gF ⟨_,_,rfl,rfl,(decide_eq_false (by omega))⟩ rfl rfl rfl rfl rfl ?_
 refine gL ⟨_,_,rfl,rfl,(decide_eq_false (by omega))⟩ rfl rfl rfl rfl rfl rfl rfl rfl ?_
 refine gK ⟨_,_,rfl,rfl,(decide_eq_false (by omega))⟩ rfl rfl rfl rfl rfl rfl (hls_nil fun e=>(by have:=rY_nil e;omega)) ?_
 refine gI ⟨_,_,rfl,rfl,(decide_eq_false (by omega))⟩ rfl rfl rfl rfl rfl rfl ?_
 refine gPF trivial rfl rfl (decide_eq_false (by omega)) rfl rfl rfl ?_
 refine rg_nil nofun ?_
 refine cI rfl (fun c24=>?_) (fun c24=>?_)
 ·skip
  have p24:=eq_of_beq c24
  refine vc_seq ?_
  refine vc_region hm ?_
  refine gM trivial (.inr rfl) rfl rfl rfl ?_
  refine rg_nil nofun ?_
  refine vc_ret ?_
  exact ⟨mkF (.int .i64 (0)) [0] [(1,one ⟨[.slice (some ⟨0,k,none⟩) n 0,.int .i64 (p + 1)],101,2⟩)] [],_,endsT [] (.inr rfl) (.tmp rfl rfl .nil) rfl rfl ⟨upOne rfl rfl rfl,trivial⟩ trivial rfl,_,(by omega),(by omega),rfl⟩
 ·skip
  have p24:=ne_of_beq_false c24
  refine vc_skip ?_
  refine vc_seq ?_
  refine vc_region hm ?_
  refine gM trivial (.inl rfl) rfl rfl rfl ?_
  refine gNilP trivial rfl rfl rfl rfl ?_
  refine gF trivial rfl rfl rfl rfl rfl ?_
  refine gL trivial rfl rfl rfl rfl rfl rfl rfl rfl ?_
  refine gA trivial rfl rfl rfl rfl rfl rfl (by omega) ?_
  refine gM trivial (.inr rfl) rfl rfl rfl ?_
  refine rg_nil nofun ?_
  refine vc_seq ?_
  refine vc_seq ?_
  refine vc_region hm ?_
  refine gM trivial (.inl rfl) rfl rfl rfl ?_
  refine gM trivial (.inl rfl) rfl rfl rfl ?_
  refine gNilP trivial rfl rfl rfl rfl ?_
  refine gF trivial rfl rfl rfl rfl rfl ?_
  refine gL trivial rfl rfl rfl rfl rfl rfl rfl rfl ?_
  refine gK trivial rfl rfl rfl rfl rfl rfl (hls_nil fun e=>(by have:=rY_nil e;omega)) ?_
  refine gI trivial rfl rfl rfl rfl rfl rfl ?_
  refine rg_nil nofun ?_
  refine cI rfl (fun c36=>?_) (fun c36=>?_)
  ·skip
   have p36:=of_decide_eq_true c36
   refine vc_seq ?_
   refine vc_region hm ?_
   refine gM trivial (.inl rfl) rfl rfl rfl ?_
   refine gNilP trivial rfl rfl rfl rfl ?_
   refine gF trivial rfl rfl rfl rfl rfl ?_
   refine gL trivial rfl rfl rfl rfl rfl rfl rfl rfl ?_
   refine gM trivial (.inl rfl) rfl rfl rfl ?_
   refine gX trivial rfl rfl rfl rfl rfl rfl rfl rfl (by omega) p36 (fun h=>hls_ne (rY_ne (by omega))) ?_
   refine gL trivial rfl rfl rfl rfl rfl rfl rfl (wR (lY (by omega) (by omega)) rfl) ?_
   refine gCvB trivial rfl rfl rfl rfl rfl rfl (by have:=byL_at hl (i:=p + 1 - 1) (by omega) (by omega);omega) ?_
   refine gM trivial (.inl rfl) rfl rfl rfl ?_
   refine gRem trivial rfl rfl rfl rfl rfl (by omega) ?_
   refine gM trivial (.inr rfl) rfl rfl rfl ?_
   refine rg_nil nofun ?_
   refine vc_ret ?_
   exact ⟨mkF (.int .i64 (Int.tmod (at_ l (p + 1 - 1)) m)) [0] [(1,one ⟨[.slice (some ⟨0,k,none⟩) n 0,.int .i64 (p + 1)],101,2⟩)] [],_,endsT [] (.inr rfl) (.tmp rfl rfl .nil) rfl rfl ⟨upOne rfl rfl rfl,trivial⟩ trivial rfl,_,(tmod_in (byL_at hl (by omega) (by omega)).1 (by omega)).1,(tmod_in (byL_at hl (by omega) (by omega)).1 (by omega)).2,rfl⟩
  ·skip
   have p36:=of_decide_eq_false c36
   refine vc_skip ?_
   refine vc_seq ?_
   refine vc_region hm ?_
   refine gM trivial (.inl rfl) rfl rfl rfl ?_
   refine gNilP trivial rfl rfl rfl rfl ?_
   refine gF trivial rfl rfl rfl rfl rfl ?_
   refine gL trivial rfl rfl rfl rfl rfl rfl rfl rfl ?_
   refine gM trivial (.inl rfl) rfl rfl rfl ?_
   refine gM trivial (.inl rfl) rfl rfl rfl ?_
   refine gNilP trivial rfl rfl rfl rfl ?_
   refine gF trivial rfl rfl rfl rfl rfl ?_
   refine gL trivial rfl rfl rfl rfl rfl rfl rfl rfl ?_
   refine gK trivial rfl rfl rfl rfl rfl rfl (hls_nil fun e=>(by have:=rY_nil e;omega)) ?_
   refine gRem trivial rfl rfl rfl rfl rfl (by omega) ?_
   refine gX trivial rfl rfl rfl rfl rfl rfl rfl rfl (tmod_in (x:=p + 1 - 1) (n:=n) (by omega) (by omega)).1 (tmod_in (x:=p + 1 - 1) (n:=n) (by omega) (by omega)).2 (fun h=>hls_ne (rY_ne (by omega))) ?_
   refine gL trivial rfl rfl rfl rfl rfl rfl rfl (wR (lY (tmod_in (x:=p + 1 - 1) (n:=n) (by omega) (by omega)).1 (Int.lt_of_lt_of_le (tmod_in (x:=p + 1 - 1) (n:=n) (by omega) (by omega)).2 (by omega))) rfl) ?_
   refine gCvB trivial rfl rfl rfl rfl rfl rfl (by have:=byL_at hl (i:=Int.tmod (p + 1 - 1) n) (tmod_in (x:=p + 1 - 1) (n:=n) (by omega) (by omega)).1 (Int.lt_of_lt_of_le (tmod_in (x:=p + 1 - 1) (n:=n) (by omega) (by omega)).2 (by omega));omega) ?_
   refine gA trivial rfl rfl rfl rfl rfl rfl (by have b1:=byL_at hl (i:=Int.tmod (p + 1 - 1) n) (tmod_in (x:=p + 1 - 1) (n:=n) (by omega) (by omega)).1 (Int.lt_of_lt_of_le (tmod_in (x:=p + 1 - 1) (n:=n) (by omega) (by omega)).2 (by omega));have b2:=byL_at hl (i:=Int.tmod ((p + 1 - 1) * 7 + 3) n) (tmod_in (x:=(p + 1 - 1) * 7 + 3) (n:=n) (by omega) (by omega)).1 (Int.lt_of_lt_of_le (tmod_in (x:=(p + 1 - 1) * 7 + 3) (n:=n) (by omega) (by omega)).2 (by omega));have b3:=tdiv_in (x:=p + 1 - 1) (n:=n) (by omega) (by omega);omega) ?_
   refine gM trivial (.inl rfl) rfl rfl rfl ?_
   refine gNilP trivial rfl rfl rfl rfl ?_
   refine gF trivial rfl rfl rfl rfl rfl ?_
   refine gL trivial rfl rfl rfl rfl rfl rfl rfl rfl ?_
   refine gM trivial (.inl rfl) rfl rfl rfl ?_
   refine gA trivial rfl rfl rfl rfl rfl rfl (by omega) ?_
   refine gA trivial rfl rfl rfl rfl rfl rfl (by omega) ?_
   refine gM trivial (.inl rfl) rfl rfl rfl ?_
   refine gNilP trivial rfl rfl rfl rfl ?_
   refine gF trivial rfl rfl rfl rfl rfl ?_
   refine gL trivial rfl rfl rfl rfl rfl rfl rfl rfl ?_
   refine gK trivial rfl rfl rfl rfl rfl rfl (hls_nil fun e=>(by have:=rY_nil e;omega)) ?_
   refine gRem trivial rfl rfl rfl rfl rfl (by omega) ?_
   refine gX trivial rfl rfl rfl rfl rfl rfl rfl rfl (tmod_in (x:=(p + 1 - 1) * 7 + 3) (n:=n) (by omega) (by omega)).1 (tmod_in (x:=(p + 1 - 1) * 7 + 3) (n:=n) (by omega) (by omega)).2 (fun h=>hls_ne (rY_ne (by omega))) ?_
   refine gL trivial rfl rfl rfl rfl rfl rfl rfl (wR (lY (tmod_in (x:=(p + 1 - 1) * 7 + 3) (n:=n) (by omega) (by omega)).1 (Int.lt_of_lt_of_le (tmod_in (x:=(p + 1 - 1) * 7 + 3) (n:=n) (by omega) (by omega)).2 (by omega))) rfl) ?_
   refine gCvB trivial rfl rfl rfl rfl rfl rfl (by have:=byL_at hl (i:=Int.tmod ((p + 1 - 1) * 7 + 3) n) (tmod_in (x:=(p + 1 - 1) * 7 + 3) (n:=n) (by omega) (by omega)).1 (Int.lt_of_lt_of_le (tmod_in (x:=(p + 1 - 1) * 7 + 3) (n:=n) (by omega) (by omega)).2 (by omega));omega) ?_
   refine gA trivial rfl rfl rfl rfl rfl rfl (by have b1:=byL_at hl (i:=Int.tmod (p + 1 - 1) n) (tmod_in (x:=p + 1 - 1) (n:=n) (by omega) (by omega)).1 (Int.lt_of_lt_of_le (tmod_in (x:=p + 1 - 1) (n:=n) (by omega) (by omega)).2 (by omega));have b2:=byL_at hl (i:=Int.tmod ((p + 1 - 1) * 7 + 3) n) (tmod_in (x:=(p + 1 - 1) * 7 + 3) (n:=n) (by omega) (by omega)).1 (Int.lt_of_lt_of_le (tmod_in (x:=(p + 1 - 1) * 7 + 3) (n:=n) (by omega) (by omega)).2 (by omega));have b3:=tdiv_in (x:=p + 1 - 1) (n:=n) (by omega) (by omega);omega) ?_
   refine gA trivial rfl rfl rfl rfl rfl rfl (by have b1:=byL_at hl (i:=Int.tmod (p + 1 - 1) n) (tmod_in (x:=p + 1 - 1) (n:=n) (by omega) (by omega)).1 (Int.lt_of_lt_of_le (tmod_in (x:=p + 1 - 1) (n:=n) (by omega) (by omega)).2 (by omega));have b2:=byL_at hl (i:=Int.tmod ((p + 1 - 1) * 7 + 3) n) (tmod_in (x:=(p + 1 - 1) * 7 + 3) (n:=n) (by omega) (by omega)).1 (Int.lt_of_lt_of_le (tmod_in (x:=(p + 1 - 1) * 7 + 3) (n:=n) (by omega) (by omega)).2 (by omega));have b3:=tdiv_in (x:=p + 1 - 1) (n:=n) (by omega) (by omega);omega) ?_
   refine gM trivial (.inl rfl) rfl rfl rfl ?_
   refine gA trivial rfl rfl rfl rfl rfl rfl (by omega) ?_
   refine gA trivial rfl rfl rfl rfl rfl rfl (by have b1:=byL_at hl (i:=Int.tmod (p + 1 - 1) n) (tmod_in (x:=p + 1 - 1) (n:=n) (by omega) (by omega)).1 (Int.lt_of_lt_of_le (tmod_in (x:=p + 1 - 1) (n:=n) (by omega) (by omega)).2 (by omega));have b2:=byL_at hl (i:=Int.tmod ((p + 1 - 1) * 7 + 3) n) (tmod_in (x:=(p + 1 - 1) * 7 + 3) (n:=n) (by omega) (by omega)).1 (Int.lt_of_lt_of_le (tmod_in (x:=(p + 1 - 1) * 7 + 3) (n:=n) (by omega) (by omega)).2 (by omega));have b3:=tdiv_in (x:=p + 1 - 1) (n:=n) (by omega) (by omega);omega) ?_
   refine gM trivial (.inl rfl) rfl rfl rfl ?_
   refine gM trivial (.inl rfl) rfl rfl rfl ?_
   refine gNilP trivial rfl rfl rfl rfl ?_
   refine gF trivial rfl rfl rfl rfl rfl ?_
   refine gL trivial rfl rfl rfl rfl rfl rfl rfl rfl ?_
   refine gK trivial rfl rfl rfl rfl rfl rfl (hls_nil fun e=>(by have:=rY_nil e;omega)) ?_
   refine gQuo trivial rfl rfl rfl rfl rfl (by omega) rfl (by have b1:=byL_at hl (i:=Int.tmod (p + 1 - 1) n) (tmod_in (x:=p + 1 - 1) (n:=n) (by omega) (by omega)).1 (Int.lt_of_lt_of_le (tmod_in (x:=p + 1 - 1) (n:=n) (by omega) (by omega)).2 (by omega));have b2:=byL_at hl (i:=Int.tmod ((p + 1 - 1) * 7 + 3) n) (tmod_in (x:=(p + 1 - 1) * 7 + 3) (n:=n) (by omega) (by omega)).1 (Int.lt_of_lt_of_le (tmod_in (x:=(p + 1 - 1) * 7 + 3) (n:=n) (by omega) (by omega)).2 (by omega));have b3:=tdiv_in (x:=p + 1 - 1) (n:=n) (by omega) (by omega);omega) ?_
   refine gA trivial rfl rfl rfl rfl rfl rfl (by have b1:=byL_at hl (i:=Int.tmod (p + 1 - 1) n) (tmod_in (x:=p + 1 - 1) (n:=n) (by omega) (by omega)).1 (Int.lt_of_lt_of_le (tmod_in (x:=p + 1 - 1) (n:=n) (by omega) (by omega)).2 (by omega));have b2:=byL_at hl (i:=Int.tmod ((p + 1 - 1) * 7 + 3) n) (tmod_in (x:=(p + 1 - 1) * 7 + 3) (n:=n) (by omega) (by omega)).1 (Int.lt_of_lt_of_le (tmod_in (x:=(p + 1 - 1) * 7 + 3) (n:=n) (by omega) (by omega)).2 (by omega));have b3:=tdiv_in (x:=p + 1 - 1) (n:=n) (by omega) (by omega);omega) ?_
   refine gA trivial rfl rfl rfl rfl rfl rfl (by have b1:=byL_at hl (i:=Int.tmod (p + 1 - 1) n) (tmod_in (x:=p + 1 - 1) (n:=n) (by omega) (by omega)).1 (Int.lt_of_lt_of_le (tmod_in (x:=p + 1 - 1) (n:=n) (by omega) (by omega)).2 (by omega));have b2:=byL_at hl (i:=Int.tmod ((p + 1 - 1) * 7 + 3) n) (tmod_in (x:=(p + 1 - 1) * 7 + 3) (n:=n) (by omega) (by omega)).1 (Int.lt_of_lt_of_le (tmod_in (x:=(p + 1 - 1) * 7 + 3) (n:=n) (by omega) (by omega)).2 (by omega));have b3:=tdiv_in (x:=p + 1 - 1) (n:=n) (by omega) (by omega);omega) ?_
   refine gM trivial (.inr rfl) rfl rfl rfl ?_
   refine rg_nil (fun _=>by kernel_rfl) ?_
   refine vc_seq ?_
   refine vc_region hm ?_
   refine gM trivial (.inl rfl) rfl rfl rfl ?_
   refine gM trivial (.inl rfl) rfl rfl rfl ?_
   refine gQuo trivial rfl rfl rfl rfl rfl (by decide) rfl (by have b1:=byL_at hl (i:=Int.tmod (p + 1 - 1) n) (tmod_in (x:=p + 1 - 1) (n:=n) (by omega) (by omega)).1 (Int.lt_of_lt_of_le (tmod_in (x:=p + 1 - 1) (n:=n) (by omega) (by omega)).2 (by omega));have b2:=byL_at hl (i:=Int.tmod ((p + 1 - 1) * 7 + 3) n) (tmod_in (x:=(p + 1 - 1) * 7 + 3) (n:=n) (by omega) (by omega)).1 (Int.lt_of_lt_of_le (tmod_in (x:=(p + 1 - 1) * 7 + 3) (n:=n) (by omega) (by omega)).2 (by omega));have b3:=tdiv_in (x:=p + 1 - 1) (n:=n) (by omega) (by omega);have:=tdiv_in (x:=((at_ l (Int.tmod (p + 1 - 1) n)) * 131 + (at_ l (Int.tmod ((p + 1 - 1) * 7 + 3) n)) * 1117 + (p + 1 - 1) * 29 + Int.tdiv (p + 1 - 1) n * 53)) (n:=64) (by omega) (by omega);omega) ?_
   refine gXor trivial rfl rfl rfl rfl rfl ?_
   refine gM trivial (.inr rfl) rfl rfl rfl ?_
   refine rg_nil nofun ?_
   refine vc_seq ?_
   refine vc_region hm ?_
   refine gM trivial (.inl rfl) rfl rfl rfl ?_
   refine gM trivial (.inl rfl) rfl rfl rfl ?_
   refine gRem trivial rfl rfl rfl rfl rfl (by omega) ?_
   refine gM trivial (.inr rfl) rfl rfl rfl ?_
   refine rg_nil nofun ?_
   refine vc_ret ?_
   exact ⟨mkF (.int .i64 (Int.tmod (xorI ((at_ l (Int.tmod (p + 1 - 1) n)) * 131 + (at_ l (Int.tmod ((p + 1 - 1) * 7 + 3) n)) * 1117 + (p + 1 - 1) * 29 + Int.tdiv (p + 1 - 1) n * 53) (Int.tdiv ((at_ l (Int.tmod (p + 1 - 1) n)) * 131 + (at_ l (Int.tmod ((p + 1 - 1) * 7 + 3) n)) * 1117 + (p + 1 - 1) * 29 + Int.tdiv (p + 1 - 1) n * 53) 64)) m)) [0] [(1,one ⟨[.slice (some ⟨0,k,none⟩) n 0,.int .i64 (p + 1)],101,2⟩)] [],_,endsT [] (.inr rfl) (.tmp rfl rfl .nil) rfl rfl ⟨upOne rfl rfl rfl,trivial⟩ trivial rfl,_,(tmod_in (by have b1:=byL_at hl (i:=Int.tmod (p + 1 - 1) n) (tmod_in (x:=p + 1 - 1) (n:=n) (by omega) (by omega)).1 (Int.lt_of_lt_of_le (tmod_in (x:=p + 1 - 1) (n:=n) (by omega) (by omega)).2 (by omega));have b2:=byL_at hl (i:=Int.tmod ((p + 1 - 1) * 7 + 3) n) (tmod_in (x:=(p + 1 - 1) * 7 + 3) (n:=n) (by omega) (by omega)).1 (Int.lt_of_lt_of_le (tmod_in (x:=(p + 1 - 1) * 7 + 3) (n:=n) (by omega) (by omega)).2 (by omega));have b3:=tdiv_in (x:=p + 1 - 1) (n:=n) (by omega) (by omega);have b4:=tdiv_in (x:=((at_ l (Int.tmod (p + 1 - 1) n)) * 131 + (at_ l (Int.tmod ((p + 1 - 1) * 7 + 3) n)) * 1117 + (p + 1 - 1) * 29 + Int.tdiv (p + 1 - 1) n * 53)) (n:=64) (by omega) (by omega);exact xor_nn (by omega) (by omega) b4.1 (by omega)) (by omega)).1,(tmod_in (by have b1:=byL_at hl (i:=Int.tmod (p + 1 - 1) n) (tmod_in (x:=p + 1 - 1) (n:=n) (by omega) (by omega)).1 (Int.lt_of_lt_of_le (tmod_in (x:=p + 1 - 1) (n:=n) (by omega) (by omega)).2 (by omega));have b2:=byL_at hl (i:=Int.tmod ((p + 1 - 1) * 7 + 3) n) (tmod_in (x:=(p + 1 - 1) * 7 + 3) (n:=n) (by omega) (by omega)).1 (Int.lt_of_lt_of_le (tmod_in (x:=(p + 1 - 1) * 7 + 3) (n:=n) (by omega) (by omega)).2 (by omega));have b3:=tdiv_in (x:=p + 1 - 1) (n:=n) (by omega) (by omega);have b4:=tdiv_in (x:=((at_ l (Int.tmod (p + 1 - 1) n)) * 131 + (at_ l (Int.tmod ((p + 1 - 1) * 7 + 3) n)) * 1117 + (p + 1 - 1) * 29 + Int.tdiv (p + 1 - 1) n * 53)) (n:=64) (by omega) (by omega);exact xor_nn (by omega) (by omega) b4.1 (by omega)) (by omega)).2,rfl⟩


theorem spec_OwnOk_c {o:Ow} (ht:o.t.size≤1048576) (hh:o.h.length≤1048576) (hd:o.d.length≤1048576):FDoes Try.prog 18 [.agg #[.string o.t,.slice (some ⟨0,0,none⟩) o.h.length 0,.slice (some ⟨1,0,none⟩) o.d.length 0]] (hp [(0,false,one ⟨rSp o.h,38,0⟩),(1,false,one ⟨rSp o.d,38,0⟩)]) { v:=.bool (ownOk o),rd:=[0,1] }:=by
 have hm:Try.prog.follows .mixedOrders=true:=by kernel_rfl
 have hd_:∀ x_ ∈ ([(0,false,one ⟨rSp o.h,38,0⟩),(1,false,one ⟨rSp o.d,38,0⟩)]:List (Nat × Bool × Fam)),∀ k_ y_,x_.2.2 k_=some y_→DetB (lt 2) y_:=by
  intro x_ hx k_ y_ e
  simp only [List.mem_cons,List.not_mem_nil,or_false] at hx
  rcases hx with rfl|rfl
  ·exact det_row (rSp_flat o.h) e
  ·exact det_row (rSp_flat o.d) e
 refine fn_exact (u0:=2) Try.func18 rfl rfl (gets rfl rfl rfl hd_ rfl) ?_
 clear hd_
 refine vc_seq ?_
 refine vc_region hm ?_
 refine gB (u':=3) trivial rfl rfl rfl rfl rfl rfl rfl rfl ?_
 refine gM trivial (.inr rfl) rfl rfl rfl ?_
 refine rg_nil nofun ?_
 refine vc_seq ?_
 refine vc_seq ?_
 refine vc_region hm ?_
 refine gF trivial rfl rfl rfl rfl rfl ?_
 refine gL trivial rfl rfl rfl rfl rfl rfl rfl rfl ?_
 refine gC0 [] (spec_TextOk_c (s:=o.t) (by omega)) trivial rfl rfl rfl rfl (by trivial) rfl rfl rfl rfl rfl ?_
 refine gN trivial rfl rfl rfl rfl ?_
 refine gM trivial (.inl rfl) rfl rfl rfl ?_
 refine gI2 (d:=8) rfl (fun c8=>?_) (fun c8=>?_)
 ·skip
  have n8:=unT c8
  refine gO ⟨_,_,rfl,rfl,c8⟩ rfl rfl ?_
  refine gO ⟨_,_,rfl,rfl,c8⟩ rfl rfl ?_
  refine gO ⟨_,_,rfl,rfl,c8⟩ rfl rfl ?_
  refine gO ⟨_,_,rfl,rfl,c8⟩ rfl rfl ?_
  refine gPT trivial rfl rfl c8 rfl rfl rfl ?_
  refine gM trivial (.inl rfl) rfl rfl rfl ?_
  refine gO ⟨_,_,rfl,rfl,rfl⟩ rfl rfl ?_
  refine gO ⟨_,_,rfl,rfl,rfl⟩ rfl rfl ?_
  refine gO ⟨_,_,rfl,rfl,rfl⟩ rfl rfl ?_
  refine gO ⟨_,_,rfl,rfl,rfl⟩ rfl rfl ?_
  refine gPT trivial rfl rfl rfl rfl rfl rfl ?_
  refine gM trivial (.inl rfl) rfl rfl rfl ?_
  refine gO ⟨_,_,rfl,rfl,rfl⟩ rfl rfl ?_
  refine gO ⟨_,_,rfl,rfl,rfl⟩ rfl rfl ?_
  refine gO ⟨_,_,rfl,rfl,rfl⟩ rfl rfl ?_
  refine gO ⟨_,_,rfl,rfl,rfl⟩ rfl rfl ?_
  refine gPT trivial rfl rfl rfl rfl rfl rfl ?_
  refine rg_nil nofun ?_
  refine cT rfl rfl ?_
  refine vc_seq ?_
  refine vc_region hm ?_
  refine gM trivial (.inr rfl) rfl rfl rfl ?_
  refine rg_nil nofun ?_
  refine vc_ret ?_
  exact ⟨idm,ends0 (.inr rfl) rfl (eqB (by first|exact ownOk_1 (by assumption)|exact ownOk_2 (by assumption)|exact ownOk_3 (by assumption)|exact ownOk_4 (by assumption))) rfl rfl rfl⟩
 ·skip
  have n8:=unF c8
  refine gF ⟨_,_,rfl,rfl,c8⟩ rfl rfl rfl rfl rfl ?_
  refine gL ⟨_,_,rfl,rfl,c8⟩ rfl rfl rfl rfl rfl rfl rfl rfl ?_
  refine gKT ⟨_,_,rfl,rfl,c8⟩ rfl rfl rfl rfl rfl ?_
  refine gI ⟨_,_,rfl,rfl,c8⟩ rfl rfl rfl rfl rfl rfl ?_
  refine gPF trivial rfl rfl c8 rfl rfl rfl ?_
  refine gM trivial (.inl rfl) rfl rfl rfl ?_
  refine gI2 (d:=14) rfl (fun c14=>?_) (fun c14=>?_)
  ·skip
   have p14:=bne_iff_ne.1 c14
   refine gO ⟨_,_,rfl,rfl,c14⟩ rfl rfl ?_
   refine gO ⟨_,_,rfl,rfl,c14⟩ rfl rfl ?_
   refine gO ⟨_,_,rfl,rfl,c14⟩ rfl rfl ?_
   refine gO ⟨_,_,rfl,rfl,c14⟩ rfl rfl ?_
   refine gPT trivial rfl rfl c14 rfl rfl rfl ?_
   refine gM trivial (.inl rfl) rfl rfl rfl ?_
   refine gO ⟨_,_,rfl,rfl,rfl⟩ rfl rfl ?_
   refine gO ⟨_,_,rfl,rfl,rfl⟩ rfl rfl ?_
   refine gO ⟨_,_,rfl,rfl,rfl⟩ rfl rfl ?_
   refine gO ⟨_,_,rfl,rfl,rfl⟩ rfl rfl ?_
   refine gPT trivial rfl rfl rfl rfl rfl rfl ?_
   refine rg_nil nofun ?_
   refine cT rfl rfl ?_
   refine vc_seq ?_
   refine vc_region hm ?_
   refine gM trivial (.inr rfl) rfl rfl rfl ?_
   refine rg_nil nofun ?_
   refine vc_ret ?_
   exact ⟨idm,ends0 (.inr rfl) rfl (eqB (by first|exact ownOk_1 (by assumption)|exact ownOk_2 (by assumption)|exact ownOk_3 (by assumption)|exact ownOk_4 (by assumption))) rfl rfl rfl⟩
  ·skip
   have p14:=bne_eq_false_iff_eq.1 c14
   refine gF ⟨_,_,rfl,rfl,c14⟩ rfl rfl rfl rfl rfl ?_
   refine gL ⟨_,_,rfl,rfl,c14⟩ rfl rfl rfl rfl rfl rfl rfl rfl ?_
   refine gC0 [0] (spec_SpansOk_c (l:=o.h) hh) ⟨_,_,rfl,rfl,c14⟩ rfl rfl rfl rfl ⟨rFlat (rSp_flat o.h) rfl (.inl rfl) rfl,trivial⟩ rfl rfl rfl rfl rfl ?_
   refine gN ⟨_,_,rfl,rfl,c14⟩ rfl rfl rfl rfl ?_
   refine gPF trivial rfl rfl c14 rfl rfl rfl ?_
   refine gM trivial (.inl rfl) rfl rfl rfl ?_
   refine gI2 (d:=20) rfl (fun c20=>?_) (fun c20=>?_)
   ·skip
    have n20:=unT c20
    refine gO ⟨_,_,rfl,rfl,c20⟩ rfl rfl ?_
    refine gO ⟨_,_,rfl,rfl,c20⟩ rfl rfl ?_
    refine gO ⟨_,_,rfl,rfl,c20⟩ rfl rfl ?_
    refine gO ⟨_,_,rfl,rfl,c20⟩ rfl rfl ?_
    refine gPT trivial rfl rfl c20 rfl rfl rfl ?_
    refine rg_nil nofun ?_
    refine cT rfl rfl ?_
    refine vc_seq ?_
    refine vc_region hm ?_
    refine gM trivial (.inr rfl) rfl rfl rfl ?_
    refine rg_nil nofun ?_
    refine vc_ret ?_
    exact ⟨idm,ends0 (.inr rfl) rfl (eqB (by first|exact ownOk_1 (by assumption)|exact ownOk_2 (by assumption)|exact ownOk_3 (by assumption)|exact ownOk_4 (by assumption))) rfl rfl rfl⟩
   ·skip
    have n20:=unF c20
    refine gF ⟨_,_,rfl,rfl,c20⟩ rfl rfl rfl rfl rfl ?_
    refine gL ⟨_,_,rfl,rfl,c20⟩ rfl rfl rfl rfl rfl rfl rfl rfl ?_
    refine gC0 [1] (spec_SpansOk_c (l:=o.d) hd) ⟨_,_,rfl,rfl,c20⟩ rfl rfl rfl rfl ⟨rFlat (rSp_flat o.d) rfl (.inl rfl) rfl,trivial⟩ rfl rfl rfl rfl rfl ?_
    refine gN ⟨_,_,rfl,rfl,c20⟩ rfl rfl rfl rfl ?_
    refine gPF trivial rfl rfl c20 rfl rfl rfl ?_
    refine rg_nil nofun ?_
    refine cI rfl (fun c25=>?_) (fun c25=>?_)
    ·skip
     have n25:=unT c25
     refine vc_seq ?_
     refine vc_region hm ?_
     refine gM trivial (.inr rfl) rfl rfl rfl ?_
     refine rg_nil nofun ?_
     refine vc_ret ?_
     exact ⟨idm,ends0 (.inr rfl) rfl (eqB (by first|exact ownOk_1 (by assumption)|exact ownOk_2 (by assumption)|exact ownOk_3 (by assumption)|exact ownOk_4 (by assumption))) rfl rfl rfl⟩
    ·skip
     have n25:=unF c25
     refine vc_skip ?_
     refine vc_seq ?_
     refine vc_seq ?_
     refine vc_region hm ?_
     refine gM trivial (.inr rfl) rfl rfl rfl ?_
     refine rg_nil nofun ?_
     refine vc_block ?_
     refine vc_loop' (fun n_ S_=>∃ (j:Nat),j≤48∧(List.range j).all (placeOk o)=true∧n_=48 - j∧S_=⟨3,[(1,.pointer (some ⟨2,0,none⟩)),(3,.int .i64 j)],[(0,false,one ⟨rSp o.h,38,0⟩),(1,false,one ⟨rSp o.d,38,0⟩),(2,true,one ⟨[.string o.t,.slice (some ⟨0,0,none⟩) o.h.length 0,.slice (some ⟨1,0,none⟩) o.d.length 0],29,3⟩)]⟩) (m0:=idm) ⟨0,Nat.zero_le _,rfl,rfl,rfl⟩ (le_mk rfl ⟨⟨rfl,rfl⟩,⟨rfl,rfl⟩,trivial⟩ ⟨kFlat (rSp_flat o.h) rfl id rfl,kFlat (rSp_flat o.d) rfl id rfl,kCells rfl rfl id rfl,trivial⟩ rfl (fun _ _=>rfl)) ?_
     rintro n_ S_ ⟨j,hj,ha,rfl,rfl⟩
     refine vc_seq ?_
     refine vc_seq ?_
     refine vc_region hm ?_
     refine gM trivial (.inl rfl) rfl rfl rfl ?_
     refine gF trivial rfl rfl rfl rfl rfl ?_
     refine gL trivial rfl rfl rfl rfl rfl rfl rfl rfl ?_
     refine gKT trivial rfl rfl rfl rfl rfl ?_
     refine gI trivial rfl rfl rfl rfl rfl rfl ?_
     refine rg_nil nofun ?_
     refine cI rfl (fun c30=>?_) (fun c30=>?_)
     ·skip
      have p30:=of_decide_eq_true c30
      refine vc_skip ?_
      refine vc_seq ?_
      refine vc_block ?_
      refine vc_seq ?_
      refine vc_region hm ?_
      refine gF trivial rfl rfl rfl rfl rfl ?_
      refine gL trivial rfl rfl rfl rfl rfl rfl rfl rfl ?_
      refine gM trivial (.inl rfl) rfl rfl rfl ?_
      refine gC0 [0] (spec_l1In_c (l:=o.h) (a:=j) hh) trivial rfl rfl rfl rfl ⟨rFlat (rSp_flat o.h) rfl (.inl rfl) rfl,trivial⟩ rfl rfl rfl rfl rfl ?_
      refine gN trivial rfl rfl rfl rfl ?_
      refine gM trivial (.inl rfl) rfl rfl rfl ?_
      refine gI2 (d:=38) rfl (fun c38=>?_) (fun c38=>?_)
      ·skip
       have n38:=unT c38
       refine gF ⟨_,_,rfl,rfl,c38⟩ rfl rfl rfl rfl rfl ?_
       refine gL ⟨_,_,rfl,rfl,c38⟩ rfl rfl rfl rfl rfl rfl rfl rfl ?_
       refine gM ⟨_,_,rfl,rfl,c38⟩ (.inl rfl) rfl rfl rfl ?_
       refine gY ⟨_,_,rfl,rfl,c38⟩ rfl rfl rfl rfl rfl rfl (by omega) (by omega) ?_
       refine gI ⟨_,_,rfl,rfl,c38⟩ rfl rfl rfl rfl rfl rfl ?_
       refine gM ⟨_,_,rfl,rfl,c38⟩ (.inl rfl) rfl rfl rfl ?_
       refine gI2 (d:=44) rfl (fun c44=>?_) (fun c44=>?_)
       ·skip
        have p44:=bne_iff_ne.1 c44
        refine gO ⟨_,_,rfl,rfl,c44⟩ rfl rfl ?_
        refine gO ⟨_,_,rfl,rfl,c44⟩ rfl rfl ?_
        refine gO ⟨_,_,rfl,rfl,c44⟩ rfl rfl ?_
        refine gO ⟨_,_,rfl,rfl,c44⟩ rfl rfl ?_
        refine gPT ⟨_,_,rfl,rfl,c38⟩ rfl rfl c44 rfl rfl rfl ?_
        refine gPT trivial rfl rfl c38 rfl rfl rfl ?_
        refine rg_nil nofun ?_
        refine cT rfl rfl ?_
        refine vc_seq ?_
        refine vc_region hm ?_
        refine gM trivial (.inr rfl) rfl rfl rfl ?_
        refine rg_nil nofun ?_
        refine vc_ret ?_
        exact ⟨idm,ends0 (.inr rfl) rfl (eqB (ownOk_5 (j:=j) (by omega) (by first|exact placeOk_3 (by assumption) (by assumption)|exact placeOk_4 (by assumption) (by assumption)|exact placeOk_7 (by assumption) (by assumption)|exact placeOk_8 (by assumption) (by assumption)))) rfl rfl rfl⟩
       ·skip
        have p44:=bne_eq_false_iff_eq.1 c44
        refine gF ⟨_,_,rfl,rfl,c44⟩ rfl rfl rfl rfl rfl ?_
        refine gL ⟨_,_,rfl,rfl,c44⟩ rfl rfl rfl rfl rfl rfl rfl rfl ?_
        refine gM ⟨_,_,rfl,rfl,c44⟩ (.inl rfl) rfl rfl rfl ?_
        refine gC0 [1] (spec_l1In_c (l:=o.d) (a:=j) hd) ⟨_,_,rfl,rfl,c44⟩ rfl rfl rfl rfl ⟨rFlat (rSp_flat o.d) rfl (.inl rfl) rfl,trivial⟩ rfl rfl rfl rfl rfl ?_
        refine gPF ⟨_,_,rfl,rfl,c38⟩ rfl rfl c44 rfl rfl rfl ?_
        refine gPT trivial rfl rfl c38 rfl rfl rfl ?_
        refine rg_nil nofun ?_
        refine cI rfl (fun c50=>?_) (fun c50=>?_)
        ·skip
         refine vc_seq ?_
         refine vc_region hm ?_
         refine gM trivial (.inr rfl) rfl rfl rfl ?_
         refine rg_nil nofun ?_
         refine vc_ret ?_
         exact ⟨idm,ends0 (.inr rfl) rfl (eqB (ownOk_5 (j:=j) (by omega) (by first|exact placeOk_3 (by assumption) (by assumption)|exact placeOk_4 (by assumption) (by assumption)|exact placeOk_7 (by assumption) (by assumption)|exact placeOk_8 (by assumption) (by assumption)))) rfl rfl rfl⟩
        ·skip
         refine vc_skip ?_
         refine vc_region hm ?_
         refine gM trivial (.inl rfl) rfl rfl rfl ?_
         refine gA trivial rfl rfl rfl rfl rfl rfl (by omega) ?_
         refine gM trivial (.inr rfl) rfl rfl rfl ?_
         refine rg_nil nofun ?_
         exact lp_next (m:=idm) ⟨j + 1,(by omega),(all_step ha (by first|exact placeOk_1 (by assumption)|exact placeOk_2 (by assumption) (by assumption)|exact placeOk_5 (by assumption)|exact placeOk_6 (by assumption) (by assumption))),rfl,rfl⟩ (by omega) (le_mk rfl ⟨⟨rfl,rfl⟩,⟨rfl,rfl⟩,trivial⟩ ⟨kFlat (rSp_flat o.h) rfl id rfl,kFlat (rSp_flat o.d) rfl id rfl,kCells rfl rfl id rfl,trivial⟩ rfl (fun _ _=>rfl))
      ·skip
       have n38:=unF c38
       refine gO ⟨_,_,rfl,rfl,c38⟩ rfl rfl ?_
       refine gO ⟨_,_,rfl,rfl,c38⟩ rfl rfl ?_
       refine gO ⟨_,_,rfl,rfl,c38⟩ rfl rfl ?_
       refine gO ⟨_,_,rfl,rfl,c38⟩ rfl rfl ?_
       refine gO ⟨_,_,rfl,rfl,c38⟩ rfl rfl ?_
       refine gO ⟨_,_,rfl,rfl,c38⟩ rfl rfl ?_
       refine gO ⟨_,_,rfl,rfl,trivial⟩ rfl rfl ?_
       refine gO ⟨_,_,rfl,rfl,trivial⟩ rfl rfl ?_
       refine gO ⟨_,_,rfl,rfl,trivial⟩ rfl rfl ?_
       refine gO ⟨_,_,rfl,rfl,trivial⟩ rfl rfl ?_
       refine gO ⟨_,_,rfl,rfl,c38⟩ rfl rfl ?_
       refine gPF trivial rfl rfl c38 rfl rfl rfl ?_
       refine rg_nil nofun ?_
       refine cF rfl rfl ?_
       refine vc_skip ?_
       refine vc_region hm ?_
       refine gM trivial (.inl rfl) rfl rfl rfl ?_
       refine gA trivial rfl rfl rfl rfl rfl rfl (by omega) ?_
       refine gM trivial (.inr rfl) rfl rfl rfl ?_
       refine rg_nil nofun ?_
       exact lp_next (m:=idm) ⟨j + 1,(by omega),(all_step ha (by first|exact placeOk_1 (by assumption)|exact placeOk_2 (by assumption) (by assumption)|exact placeOk_5 (by assumption)|exact placeOk_6 (by assumption) (by assumption))),rfl,rfl⟩ (by omega) (le_mk rfl ⟨⟨rfl,rfl⟩,⟨rfl,rfl⟩,trivial⟩ ⟨kFlat (rSp_flat o.h) rfl id rfl,kFlat (rSp_flat o.d) rfl id rfl,kCells rfl rfl id rfl,trivial⟩ rfl (fun _ _=>rfl))
     ·skip
      have p30:=of_decide_eq_false c30
      refine vc_exit ?_
      refine vc_seq ?_
      refine vc_region hm ?_
      refine gM trivial (.inr rfl) rfl rfl rfl ?_
      refine rg_nil nofun ?_
      refine vc_ret ?_
      exact ⟨idm,ends0 (.inr rfl) rfl (eqB (ownOk_6 (j:=j) (by assumption) (by assumption) (by assumption) (by assumption) hj (by omega) ha)) rfl rfl rfl⟩

theorem spec_l1Of_c (f:Nat→Bool):FDoes Try.prog 86 [.slice (some ⟨0,0,none⟩) 48 0] (hp [(0,false,one ⟨plL f,4,0⟩)]) (mkE (.slice (some ⟨1,0,none⟩) (l1ofP f).length 0) [0] [] [(1,⟨rSp (l1ofP f),38,2⟩)]):=by
 have hm:Try.prog.follows .mixedOrders=true:=by kernel_rfl
 have hd_:∀ x_ ∈ ([(0,false,one ⟨plL f,4,0⟩)]:List (Nat × Bool × Fam)),∀ k_ y_,x_.2.2 k_=some y_→DetB (lt 1) y_:=by
  intro x_ hx k_ y_ e
  simp only [List.mem_cons,List.not_mem_nil,or_false] at hx
  subst hx
  exact det_row (plL_flat f) e
 refine fn_exact (u0:=1) Try.func86 rfl rfl (gets rfl rfl rfl hd_ rfl) ?_
 clear hd_
 refine vc_seq ?_
 refine vc_region hm ?_
 refine gM trivial (.inr rfl) rfl rfl rfl ?_
 refine rg_nil nofun ?_
 refine vc_seq ?_
 refine vc_region hm ?_
 refine gR (u':=2) trivial rfl rfl rfl rfl rfl rfl rfl rfl rfl rfl rfl rfl rfl rfl ?_
 refine gM trivial (.inr rfl) rfl rfl rfl ?_
 refine rg_nil nofun ?_
 refine vc_seq ?_
 refine vc_seq ?_
 refine vc_region hm ?_
 refine gM trivial (.inr rfl) rfl rfl rfl ?_
 refine rg_nil nofun ?_
 refine vc_block ?_
 refine vc_loop' (fun n_ S_=>∃ (j:Nat),j≤48∧(l1ofL f j).length≤j∧n_=48 - j∧S_=⟨2,[(0,.slice (some ⟨0,0,none⟩) 48 0),(3,.slice (some ⟨1,0,none⟩) (l1ofL f j).length 0),(4,.int .i64 j)],[(0,false,one ⟨plL f,4,0⟩),(1,true,one ⟨rSp (l1ofL f j),38,2⟩)]⟩) (m0:=idm) ⟨0,Nat.zero_le _,Nat.le_refl _,rfl,rfl⟩ (le_mk rfl ⟨⟨rfl,rfl⟩,⟨rfl,rfl⟩,⟨rfl,rfl⟩,trivial⟩ ⟨kFlat (plL_flat f) rfl id rfl,kFlat (rSp_flat _) rfl id rfl,trivial⟩ rfl (rig_of rfl)) ?_
 rintro n_ S_ ⟨j,hj,hq,rfl,rfl⟩
 refine vc_seq ?_
 refine vc_seq ?_
 refine vc_region hm ?_
 refine gM trivial (.inl rfl) rfl rfl rfl ?_
 refine gM trivial (.inl rfl) rfl rfl rfl ?_
 refine gK trivial rfl rfl rfl rfl rfl rfl (fun h=>absurd h plL_ne) ?_
 refine gI trivial rfl rfl rfl rfl rfl rfl ?_
 refine rg_nil nofun ?_
 refine cI rfl (fun c10=>?_) (fun c10=>?_)
 ·skip
  have p10:=of_decide_eq_true c10
  refine vc_skip ?_
  refine vc_seq ?_
  refine vc_block ?_
  refine vc_seq ?_
  refine vc_region hm ?_
  refine gM trivial (.inl rfl) rfl rfl rfl ?_
  refine gK trivial rfl rfl rfl rfl rfl rfl rSp_nil ?_
  refine gM trivial (.inr rfl) rfl rfl rfl ?_
  refine rg_nil nofun ?_
  refine vc_block ?_
  refine vc_seq ?_
  refine vc_region hm ?_
  refine gM trivial (.inl rfl) rfl rfl rfl ?_
  refine gM trivial (.inl rfl) rfl rfl rfl ?_
  refine gX trivial rfl rfl rfl rfl rfl rfl rfl rfl (by omega) (by omega) (fun _=>plL_ne) ?_
  refine gL trivial rfl rfl rfl rfl rfl rfl rfl (lPl (by omega) (by omega)) ?_
  refine gN trivial rfl rfl rfl rfl ?_
  refine gM trivial (.inr rfl) rfl rfl rfl ?_
  refine rg_nil nofun ?_
  refine cI rfl (fun c22=>?_) (fun c22=>?_)
  ·skip
   have n22:=unT c22
   refine vc_exit ?_
   refine vc_region hm ?_
   refine gM trivial (.inl rfl) rfl rfl rfl ?_
   refine gA trivial rfl rfl rfl rfl rfl rfl (by omega) ?_
   refine gM trivial (.inr rfl) rfl rfl rfl ?_
   refine rg_nil nofun ?_
   exact lp_next (m:=idm) ⟨j + 1,(by omega),(ofL_len _),rfl,rfl⟩ (by omega) (le_mk rfl ⟨⟨rfl,rfl⟩,⟨eqSl (by rw [(ofL_a (f:=f) (j:=j) n22)];skip),rfl⟩,⟨rfl,rfl⟩,trivial⟩ ⟨kFlat (plL_flat f) rfl id rfl,kFlat (rSp_flat _) (eqH (congrArg _ (ofL_a (f:=f) (j:=j) n22).symm)) id rfl,trivial⟩ rfl (rig_of rfl))
  ·skip
   have n22:=unF c22
   refine vc_seq ?_
   refine vc_region hm ?_
   refine gM trivial (.inl rfl) rfl rfl rfl ?_
   refine gI trivial rfl rfl rfl rfl rfl rfl ?_
   refine gM trivial (.inl rfl) rfl rfl rfl ?_
   refine gI2 (d:=31) rfl (fun c31=>?_) (fun c31=>?_)
   ·skip
    have p31:=of_decide_eq_true c31
    refine gM ⟨_,_,rfl,rfl,c31⟩ (.inl rfl) rfl rfl rfl ?_
    refine gM ⟨_,_,rfl,rfl,c31⟩ (.inl rfl) rfl rfl rfl ?_
    refine gA ⟨_,_,rfl,rfl,c31⟩ rfl rfl rfl rfl rfl rfl (by omega) ?_
    refine gX ⟨_,_,rfl,rfl,c31⟩ rfl rfl rfl rfl rfl rfl rfl rfl (by omega) (by omega) rSp_ne ?_
    refine gF ⟨_,_,rfl,rfl,c31⟩ rfl rfl rfl rfl rfl ?_
    refine gL ⟨_,_,rfl,rfl,c31⟩ rfl rfl rfl rfl rfl rfl rfl (lSp1 (by omega) (by omega)) ?_
    refine gM ⟨_,_,rfl,rfl,c31⟩ (.inl rfl) rfl rfl rfl ?_
    refine gI ⟨_,_,rfl,rfl,c31⟩ rfl rfl rfl rfl rfl rfl ?_
    refine gPT trivial rfl rfl c31 rfl rfl rfl ?_
    refine gM trivial (.inr rfl) rfl rfl rfl ?_
    refine rg_nil nofun ?_
    refine cI rfl (fun c28=>?_) (fun c28=>?_)
    ·skip
     have p28:=eq_of_beq c28
     refine vc_region hm ?_
     refine gM trivial (.inl rfl) rfl rfl rfl ?_
     refine gM trivial (.inl rfl) rfl rfl rfl ?_
     refine gA trivial rfl rfl rfl rfl rfl rfl (by omega) ?_
     refine gM trivial (.inl rfl) rfl rfl rfl ?_
     refine gA trivial rfl rfl rfl rfl rfl rfl (by omega) ?_
     refine gX trivial rfl rfl rfl rfl rfl rfl rfl rfl (by omega) (by omega) rSp_ne ?_
     refine gF trivial rfl rfl rfl rfl rfl ?_
     refine gT trivial rfl rfl rfl rfl rfl rfl rfl rfl rfl rfl (kSp1 (by omega) (by omega)) (sSp1 (by omega) (by omega)) ?_
     refine rg_nil nofun ?_
     refine vc_region hm ?_
     refine gM trivial (.inl rfl) rfl rfl rfl ?_
     refine gA trivial rfl rfl rfl rfl rfl rfl (by omega) ?_
     refine gM trivial (.inr rfl) rfl rfl rfl ?_
     refine rg_nil nofun ?_
     exact lp_next (m:=idm) ⟨j + 1,(by omega),(ofL_len _),rfl,rfl⟩ (by omega) (le_mk rfl ⟨⟨rfl,rfl⟩,⟨eqSl (by rw [(ofL_b (f:=f) (j:=j) n22 p31 p28)];simp),rfl⟩,⟨rfl,rfl⟩,trivial⟩ ⟨kFlat (plL_flat f) rfl id rfl,kFlat (rSp_flat _) (eqH (congrArg _ (ofL_b (f:=f) (j:=j) n22 p31 p28).symm)) id rfl,trivial⟩ rfl (rig_of rfl))
    ·skip
     have p28:=ne_of_beq_false c28
     refine vc_region hm ?_
     refine gM trivial (.inl rfl) rfl rfl rfl ?_
     refine gM trivial (.inl rfl) rfl rfl rfl ?_
     refine gM trivial (.inl rfl) rfl rfl rfl ?_
     refine gA trivial rfl rfl rfl rfl rfl rfl (by omega) ?_
     refine gU trivial rfl rfl rfl rfl rfl rfl rfl rfl ?_
     refine gR (u':=3) trivial rfl rfl rfl rfl rfl rfl rfl rfl rfl rfl rfl rfl rfl rfl ?_
     refine gAp (u':=4) trivial rfl rfl rfl rfl rfl rfl rfl rfl rfl rfl rfl rfl (by rw [rowL_len (n:=2) (fun _=>rfl)]) (Nat.le_refl _) rfl (show ((l1ofL f j).length + 1) * (16 + 1)≤140737488355328 by omega) (row_snoc (enc:=eSp) (x:=⟨(j:Int),(j:Int) + 1⟩)) rfl ?_
     refine gM trivial (.inr rfl) rfl rfl rfl ?_
     refine rg_nil nofun ?_
     refine vc_region hm ?_
     refine gM trivial (.inl rfl) rfl rfl rfl ?_
     refine gA trivial rfl rfl rfl rfl rfl rfl (by omega) ?_
     refine gM trivial (.inr rfl) rfl rfl rfl ?_
     refine rg_nil nofun ?_
     exact lp_next (m:=(mp [0,3])) ⟨j + 1,(by omega),(ofL_len _),rfl,rfl⟩ (by omega) (le_mk rfl ⟨⟨rfl,rfl⟩,⟨eqSl (by rw [(ofL_c (f:=f) (j:=j) n22 (fun hc=>by first|exact p31 hc.1|exact p28 hc.2))];simp),rfl⟩,⟨rfl,rfl⟩,trivial⟩ ⟨kFlat (plL_flat f) rfl id rfl,kFlat (rSp_flat _) (eqH (congrArg _ (ofL_c (f:=f) (j:=j) n22 (fun hc=>by first|exact p31 hc.1|exact p28 hc.2)).symm)) id rfl,trivial⟩ rfl (rig_of rfl))
   ·skip
    have p31:=of_decide_eq_false c31
    refine gO ⟨_,_,rfl,rfl,c31⟩ rfl rfl ?_
    refine gO ⟨_,_,rfl,rfl,c31⟩ rfl rfl ?_
    refine gO ⟨_,_,rfl,rfl,c31⟩ rfl rfl ?_
    refine gO ⟨_,_,rfl,rfl,c31⟩ rfl rfl ?_
    refine gO ⟨_,_,rfl,rfl,c31⟩ rfl rfl ?_
    refine gO ⟨_,_,rfl,rfl,c31⟩ rfl rfl ?_
    refine gO ⟨_,_,rfl,rfl,c31⟩ rfl rfl ?_
    refine gO ⟨_,_,rfl,rfl,c31⟩ rfl rfl ?_
    refine gPF trivial rfl rfl c31 rfl rfl rfl ?_
    refine gM trivial (.inr rfl) rfl rfl rfl ?_
    refine rg_nil nofun ?_
    refine cF rfl rfl ?_
    refine vc_region hm ?_
    refine gM trivial (.inl rfl) rfl rfl rfl ?_
    refine gM trivial (.inl rfl) rfl rfl rfl ?_
    refine gM trivial (.inl rfl) rfl rfl rfl ?_
    refine gA trivial rfl rfl rfl rfl rfl rfl (by omega) ?_
    refine gU trivial rfl rfl rfl rfl rfl rfl rfl rfl ?_
    refine gR (u':=3) trivial rfl rfl rfl rfl rfl rfl rfl rfl rfl rfl rfl rfl rfl rfl ?_
    refine gAp (u':=4) trivial rfl rfl rfl rfl rfl rfl rfl rfl rfl rfl rfl rfl (by rw [rowL_len (n:=2) (fun _=>rfl)]) (Nat.le_refl _) rfl (show ((l1ofL f j).length + 1) * (16 + 1)≤140737488355328 by omega) (row_snoc (enc:=eSp) (x:=⟨(j:Int),(j:Int) + 1⟩)) rfl ?_
    refine gM trivial (.inr rfl) rfl rfl rfl ?_
    refine rg_nil nofun ?_
    refine vc_region hm ?_
    refine gM trivial (.inl rfl) rfl rfl rfl ?_
    refine gA trivial rfl rfl rfl rfl rfl rfl (by omega) ?_
    refine gM trivial (.inr rfl) rfl rfl rfl ?_
    refine rg_nil nofun ?_
    exact lp_next (m:=(mp [0,3])) ⟨j + 1,(by omega),(ofL_len _),rfl,rfl⟩ (by omega) (le_mk rfl ⟨⟨rfl,rfl⟩,⟨eqSl (by rw [(ofL_c (f:=f) (j:=j) n22 (fun hc=>by first|exact p31 hc.1|exact p28 hc.2))];simp),rfl⟩,⟨rfl,rfl⟩,trivial⟩ ⟨kFlat (plL_flat f) rfl id rfl,kFlat (rSp_flat _) (eqH (congrArg _ (ofL_c (f:=f) (j:=j) n22 (fun hc=>by first|exact p31 hc.1|exact p28 hc.2)).symm)) id rfl,trivial⟩ rfl (rig_of rfl))
 ·skip
  have p10:=of_decide_eq_false c10
  refine vc_exit ?_
  refine vc_seq ?_
  refine vc_region hm ?_
  refine gM trivial (.inl rfl) rfl rfl rfl ?_
  refine gM trivial (.inr rfl) rfl rfl rfl ?_
  refine rg_nil nofun ?_
  refine vc_ret ?_
  obtain rfl:j=48:=by omega
  exact ⟨_,endsG [(1,1,⟨rSp (l1ofP f),38,2⟩)] (.inr rfl) (.tmp rfl rfl .nil) rfl rfl trivial ⟨⟨rfl,rSp_flat _⟩,trivial⟩ rfl⟩
theorem spec_l1Places_c {l:List Sp} (hn:l.length≤1048576):FDoes Try.prog 85 [.slice (some ⟨0,0,none⟩) l.length 0] (hp [(0,false,one ⟨rSp l,38,0⟩)]) (mkE (.slice (some ⟨1,0,none⟩) 48 0) [0] [] [(1,⟨plL (fun x=>l1In l (x:Int)),4,1⟩)]):=by
 have hm:Try.prog.follows .mixedOrders=true:=by kernel_rfl
 have hd_:∀ x_ ∈ ([(0,false,one ⟨rSp l,38,0⟩)]:List (Nat × Bool × Fam)),∀ k_ y_,x_.2.2 k_=some y_→DetB (lt 1) y_:=by
  intro x_ hx k_ y_ e
  simp only [List.mem_cons,List.not_mem_nil,or_false] at hx
  subst hx
  exact det_row (rSp_flat l) e
 refine fn_exact (u0:=1) Try.func85 rfl rfl (gets rfl rfl rfl hd_ rfl) ?_
 clear hd_
 refine vc_seq ?_
 refine vc_region hm ?_
 refine gM trivial (.inr rfl) rfl rfl rfl ?_
 refine rg_nil nofun ?_
 refine vc_seq ?_
 refine vc_region hm ?_
 refine gR (u':=2) trivial rfl rfl rfl rfl rfl rfl rfl rfl rfl rfl rfl rfl rfl rfl ?_
 refine gM trivial (.inr rfl) rfl rfl rfl ?_
 refine rg_nil nofun ?_
 refine vc_seq ?_
 refine vc_seq ?_
 refine vc_region hm ?_
 refine gM trivial (.inr rfl) rfl rfl rfl ?_
 refine rg_nil nofun ?_
 refine vc_block ?_
 refine vc_loop' (fun n_ S_=>∃ (j:Nat),j≤48∧n_=48 - j∧S_=⟨2,[(0,.slice (some ⟨0,0,none⟩) l.length 0),(3,.slice (some ⟨1,0,none⟩) j 0),(4,.int .i64 j)],[(0,false,one ⟨rSp l,38,0⟩),(1,true,one ⟨plT (fun x=>l1In l (x:Int)) j,4,1⟩)]⟩) (m0:=idm) ⟨0,Nat.zero_le _,rfl,rfl⟩ (le_mk rfl ⟨⟨rfl,rfl⟩,⟨rfl,rfl⟩,⟨rfl,rfl⟩,trivial⟩ ⟨kFlat (rSp_flat l) rfl id rfl,kFlat (plT_flat _ _) rfl id rfl,trivial⟩ rfl (rig_of rfl)) ?_
 rintro n_ S_ ⟨j,hj,rfl,rfl⟩
 refine vc_seq ?_
 refine vc_seq ?_
 refine vc_region hm ?_
 refine gM trivial (.inl rfl) rfl rfl rfl ?_
 refine gI trivial rfl rfl rfl rfl rfl rfl ?_
 refine rg_nil nofun ?_
 refine cI rfl (fun c7=>?_) (fun c7=>?_)
 ·skip
  have p7:=of_decide_eq_true c7
  refine vc_skip ?_
  refine vc_seq ?_
  refine vc_block ?_
  refine vc_region hm ?_
  refine gM trivial (.inl rfl) rfl rfl rfl ?_
  refine gM trivial (.inl rfl) rfl rfl rfl ?_
  refine gM trivial (.inl rfl) rfl rfl rfl ?_
  refine gC0 [0] (spec_l1In_c (l:=l) (a:=j) hn) trivial rfl rfl rfl rfl ⟨rFlat (rSp_flat l) rfl (.inl rfl) rfl,trivial⟩ rfl rfl rfl rfl rfl ?_
  refine gR (u':=3) trivial rfl rfl rfl rfl rfl rfl rfl rfl rfl rfl rfl rfl rfl rfl ?_
  refine gAp (u':=4) trivial rfl rfl rfl rfl rfl rfl rfl rfl rfl rfl rfl rfl plT_len (Nat.le_refl _) rfl (show (j + 1) * (1 + 1)≤140737488355328 by omega) (plT_snoc (f:=(fun x=>l1In l (x:Int)))) rfl ?_
  refine gM trivial (.inr rfl) rfl rfl rfl ?_
  refine rg_nil nofun ?_
  refine vc_region hm ?_
  refine gM trivial (.inl rfl) rfl rfl rfl ?_
  refine gA trivial rfl rfl rfl rfl rfl rfl (by omega) ?_
  refine gM trivial (.inr rfl) rfl rfl rfl ?_
  refine rg_nil nofun ?_
  exact lp_next (m:=(mp [0,3])) ⟨j + 1,(by omega),rfl,rfl⟩ (by omega) (le_mk rfl ⟨⟨rfl,rfl⟩,⟨rfl,rfl⟩,⟨rfl,rfl⟩,trivial⟩ ⟨kFlat (rSp_flat l) rfl id rfl,kFlat (plT_flat _ _) rfl id rfl,trivial⟩ rfl (rig_of rfl))
 ·skip
  have p7:=of_decide_eq_false c7
  refine vc_exit ?_
  refine vc_seq ?_
  refine vc_region hm ?_
  refine gM trivial (.inl rfl) rfl rfl rfl ?_
  refine gM trivial (.inr rfl) rfl rfl rfl ?_
  refine rg_nil nofun ?_
  refine vc_ret ?_
  obtain rfl:j=48:=by omega
  exact ⟨_,endsG [(1,1,⟨plL (fun x=>l1In l (x:Int)),4,1⟩)] (.inr rfl) (.tmp rfl rfl .nil) rfl rfl trivial ⟨⟨rfl,plL_flat _⟩,trivial⟩ rfl⟩
theorem spec_l1Cut_c {l:List Sp} {s:Sp} (hn:l.length≤1048576) (h0:0≤s.lo∧s.lo<s.hi∧s.hi≤48):FDoes Try.prog 63 [.slice (some ⟨0,0,none⟩) l.length 0,vSp s] (hp [(0,false,one ⟨rSp l,38,0⟩)]) (mkE (.slice (some ⟨1,0,none⟩) (l1ofP (putP (ofP l) (ofP [s]) false)).length 0) [0] [] [(1,⟨rSp (l1ofP (putP (ofP l) (ofP [s]) false)),38,2⟩)]):=by
 have hm:Try.prog.follows .mixedOrders=true:=by kernel_rfl
 have hd_:∀ x_ ∈ ([(0,false,one ⟨rSp l,38,0⟩)]:List (Nat × Bool × Fam)),∀ k_ y_,x_.2.2 k_=some y_→DetB (lt 1) y_:=by
  intro x_ hx k_ y_ e
  simp only [List.mem_cons,List.not_mem_nil,or_false] at hx
  subst hx
  exact det_row (rSp_flat l) e
 refine fn_exact (u0:=1) Try.func63 rfl rfl (gets rfl rfl rfl hd_ rfl) ?_
 clear hd_
 refine vc_seq ?_
 refine vc_region hm ?_
 refine gB (u':=2) trivial rfl rfl rfl rfl rfl rfl rfl rfl ?_
 refine gM trivial (.inr rfl) rfl rfl rfl ?_
 refine rg_nil nofun ?_
 refine vc_seq ?_
 refine vc_region hm ?_
 refine gM trivial (.inl rfl) rfl rfl rfl ?_
 refine gCn 3 [0,2] (spec_l1Places_c (l:=l) hn) trivial rfl rfl rfl rfl ⟨rFlat (rSp_flat l) rfl (.inl rfl) rfl,trivial⟩ ⟨plL_flat _,trivial⟩ rfl rfl rfl rfl ?_
 refine gM trivial (.inr rfl) rfl rfl rfl ?_
 refine rg_nil nofun ?_
 refine vc_seq ?_
 refine vc_seq ?_
 refine vc_region hm ?_
 refine gF trivial rfl rfl rfl rfl rfl ?_
 refine gL trivial rfl rfl rfl rfl rfl rfl rfl rfl ?_
 refine gM trivial (.inr rfl) rfl rfl rfl ?_
 refine rg_nil nofun ?_
 refine vc_block ?_
 refine vc_loop' (fun n_ S_=>∃ (i:Int),s.lo≤i∧i≤s.hi∧n_=(s.hi - i).toNat∧S_=⟨3,[(0,.slice (some ⟨0,0,none⟩) l.length 0),(3,.pointer (some ⟨1,0,none⟩)),(5,.slice (some ⟨2,0,none⟩) 48 0),(6,.int .i64 i)],[(0,false,one ⟨rSp l,38,0⟩),(1,true,one ⟨[.int .i64 s.lo,.int .i64 s.hi],38,2⟩),(2,true,one ⟨plL (fillTo (fun x=>l1In l (x:Int)) s.lo i s.hi false),4,1⟩)]⟩) (m0:=idm) ⟨s.lo,Int.le_refl _,(by omega),rfl,rfl⟩ (le_mk rfl ⟨⟨rfl,rfl⟩,⟨rfl,rfl⟩,⟨rfl,rfl⟩,⟨rfl,rfl⟩,trivial⟩ ⟨kFlat (rSp_flat l) rfl id rfl,kCells rfl rfl id rfl,kFlat (plL_flat _) (eqH fillTo_start) id rfl,trivial⟩ rfl (fun _ _=>rfl)) ?_
 rintro n_ S_ ⟨i,hi,hj,rfl,rfl⟩
 refine vc_seq ?_
 refine vc_seq ?_
 refine vc_region hm ?_
 refine gM trivial (.inl rfl) rfl rfl rfl ?_
 refine gF trivial rfl rfl rfl rfl rfl ?_
 refine gL trivial rfl rfl rfl rfl rfl rfl rfl rfl ?_
 refine gI trivial rfl rfl rfl rfl rfl rfl ?_
 refine rg_nil nofun ?_
 refine cI rfl (fun c14=>?_) (fun c14=>?_)
 ·skip
  have p14:=of_decide_eq_true c14
  refine vc_skip ?_
  refine vc_seq ?_
  refine vc_block ?_
  refine vc_region hm ?_
  refine gM trivial (.inl rfl) rfl rfl rfl ?_
  refine gM trivial (.inl rfl) rfl rfl rfl ?_
  refine gX trivial rfl rfl rfl rfl rfl rfl rfl rfl (by omega) (by omega) (fun _=>plL_ne) ?_
  refine gT trivial rfl rfl rfl rfl rfl rfl rfl rfl rfl rfl (kPl (by omega) (by omega)) (sPl (by omega) (by omega)) ?_
  refine rg_nil nofun ?_
  refine vc_region hm ?_
  refine gM trivial (.inl rfl) rfl rfl rfl ?_
  refine gA trivial rfl rfl rfl rfl rfl rfl (by omega) ?_
  refine gM trivial (.inr rfl) rfl rfl rfl ?_
  refine rg_nil nofun ?_
  exact lp_next (m:=idm) ⟨i + 1,(by omega),(by omega),rfl,rfl⟩ (by omega) (le_mk rfl ⟨⟨rfl,rfl⟩,⟨rfl,rfl⟩,⟨rfl,rfl⟩,⟨rfl,rfl⟩,trivial⟩ ⟨kFlat (rSp_flat l) rfl id rfl,kCells rfl rfl id rfl,kFlat (plL_flat _) (eqH (fillTo_step (by omega) hi p14)) id rfl,trivial⟩ rfl (fun _ _=>rfl))
 ·skip
  have p14:=of_decide_eq_false c14
  refine vc_exit ?_
  refine vc_seq ?_
  refine vc_region hm ?_
  refine gM trivial (.inl rfl) rfl rfl rfl ?_
  refine gCn 4 [2,3] (spec_l1Of_c (fillTo (fun x=>l1In l (x:Int)) s.lo i s.hi false)) trivial rfl rfl rfl rfl ⟨rFlat (plL_flat _) rfl (.inl rfl) rfl,trivial⟩ ⟨rSp_flat _,trivial⟩ rfl rfl rfl rfl ?_
  refine gM trivial (.inr rfl) rfl rfl rfl ?_
  refine rg_nil nofun ?_
  refine vc_ret ?_
  rw [cut_end p14 h0.1]
  exact ⟨_,endsG [(1,3,⟨rSp (l1ofP (putP (ofP l) (ofP [s]) false)),38,2⟩)] (.inr rfl) (.tmp rfl rfl .nil) rfl rfl trivial ⟨⟨rfl,rSp_flat _⟩,trivial⟩ rfl⟩
theorem spec_l1Add_c {l:List Sp} {s:Sp} (hn:l.length≤1048576) (h0:0≤s.lo∧s.lo<s.hi∧s.hi≤48):FDoes Try.prog 69 [.slice (some ⟨0,0,none⟩) l.length 0,vSp s] (hp [(0,false,one ⟨rSp l,38,0⟩)]) (mkE (.slice (some ⟨1,0,none⟩) (l1ofP (putP (ofP l) (ofP [s]) true)).length 0) [0] [] [(1,⟨rSp (l1ofP (putP (ofP l) (ofP [s]) true)),38,2⟩)]):=by
 have hm:Try.prog.follows .mixedOrders=true:=by kernel_rfl
 have hd_:∀ x_ ∈ ([(0,false,one ⟨rSp l,38,0⟩)]:List (Nat × Bool × Fam)),∀ k_ y_,x_.2.2 k_=some y_→DetB (lt 1) y_:=by
  intro x_ hx k_ y_ e
  simp only [List.mem_cons,List.not_mem_nil,or_false] at hx
  subst hx
  exact det_row (rSp_flat l) e
 refine fn_exact (u0:=1) Try.func69 rfl rfl (gets rfl rfl rfl hd_ rfl) ?_
 clear hd_
 refine vc_seq ?_
 refine vc_region hm ?_
 refine gB (u':=2) trivial rfl rfl rfl rfl rfl rfl rfl rfl ?_
 refine gM trivial (.inr rfl) rfl rfl rfl ?_
 refine rg_nil nofun ?_
 refine vc_seq ?_
 refine vc_region hm ?_
 refine gM trivial (.inl rfl) rfl rfl rfl ?_
 refine gCn 3 [0,2] (spec_l1Places_c (l:=l) hn) trivial rfl rfl rfl rfl ⟨rFlat (rSp_flat l) rfl (.inl rfl) rfl,trivial⟩ ⟨plL_flat _,trivial⟩ rfl rfl rfl rfl ?_
 refine gM trivial (.inr rfl) rfl rfl rfl ?_
 refine rg_nil nofun ?_
 refine vc_seq ?_
 refine vc_seq ?_
 refine vc_region hm ?_
 refine gF trivial rfl rfl rfl rfl rfl ?_
 refine gL trivial rfl rfl rfl rfl rfl rfl rfl rfl ?_
 refine gM trivial (.inr rfl) rfl rfl rfl ?_
 refine rg_nil nofun ?_
 refine vc_block ?_
 refine vc_loop' (fun n_ S_=>∃ (i:Int),s.lo≤i∧i≤s.hi∧n_=(s.hi - i).toNat∧S_=⟨3,[(0,.slice (some ⟨0,0,none⟩) l.length 0),(3,.pointer (some ⟨1,0,none⟩)),(5,.slice (some ⟨2,0,none⟩) 48 0),(6,.int .i64 i)],[(0,false,one ⟨rSp l,38,0⟩),(1,true,one ⟨[.int .i64 s.lo,.int .i64 s.hi],38,2⟩),(2,true,one ⟨plL (fillTo (fun x=>l1In l (x:Int)) s.lo i s.hi true),4,1⟩)]⟩) (m0:=idm) ⟨s.lo,Int.le_refl _,(by omega),rfl,rfl⟩ (le_mk rfl ⟨⟨rfl,rfl⟩,⟨rfl,rfl⟩,⟨rfl,rfl⟩,⟨rfl,rfl⟩,trivial⟩ ⟨kFlat (rSp_flat l) rfl id rfl,kCells rfl rfl id rfl,kFlat (plL_flat _) (eqH fillTo_start) id rfl,trivial⟩ rfl (fun _ _=>rfl)) ?_
 rintro n_ S_ ⟨i,hi,hj,rfl,rfl⟩
 refine vc_seq ?_
 refine vc_seq ?_
 refine vc_region hm ?_
 refine gM trivial (.inl rfl) rfl rfl rfl ?_
 refine gF trivial rfl rfl rfl rfl rfl ?_
 refine gL trivial rfl rfl rfl rfl rfl rfl rfl rfl ?_
 refine gI trivial rfl rfl rfl rfl rfl rfl ?_
 refine rg_nil nofun ?_
 refine cI rfl (fun c14=>?_) (fun c14=>?_)
 ·skip
  have p14:=of_decide_eq_true c14
  refine vc_skip ?_
  refine vc_seq ?_
  refine vc_block ?_
  refine vc_region hm ?_
  refine gM trivial (.inl rfl) rfl rfl rfl ?_
  refine gM trivial (.inl rfl) rfl rfl rfl ?_
  refine gX trivial rfl rfl rfl rfl rfl rfl rfl rfl (by omega) (by omega) (fun _=>plL_ne) ?_
  refine gT trivial rfl rfl rfl rfl rfl rfl rfl rfl rfl rfl (kPl (by omega) (by omega)) (sPl (by omega) (by omega)) ?_
  refine rg_nil nofun ?_
  refine vc_region hm ?_
  refine gM trivial (.inl rfl) rfl rfl rfl ?_
  refine gA trivial rfl rfl rfl rfl rfl rfl (by omega) ?_
  refine gM trivial (.inr rfl) rfl rfl rfl ?_
  refine rg_nil nofun ?_
  exact lp_next (m:=idm) ⟨i + 1,(by omega),(by omega),rfl,rfl⟩ (by omega) (le_mk rfl ⟨⟨rfl,rfl⟩,⟨rfl,rfl⟩,⟨rfl,rfl⟩,⟨rfl,rfl⟩,trivial⟩ ⟨kFlat (rSp_flat l) rfl id rfl,kCells rfl rfl id rfl,kFlat (plL_flat _) (eqH (fillTo_step (by omega) hi p14)) id rfl,trivial⟩ rfl (fun _ _=>rfl))
 ·skip
  have p14:=of_decide_eq_false c14
  refine vc_exit ?_
  refine vc_seq ?_
  refine vc_region hm ?_
  refine gM trivial (.inl rfl) rfl rfl rfl ?_
  refine gCn 4 [2,3] (spec_l1Of_c (fillTo (fun x=>l1In l (x:Int)) s.lo i s.hi true)) trivial rfl rfl rfl rfl ⟨rFlat (plL_flat _) rfl (.inl rfl) rfl,trivial⟩ ⟨rSp_flat _,trivial⟩ rfl rfl rfl rfl ?_
  refine gM trivial (.inr rfl) rfl rfl rfl ?_
  refine rg_nil nofun ?_
  refine vc_ret ?_
  rw [cut_end p14 h0.1]
  exact ⟨_,endsG [(1,3,⟨rSp (l1ofP (putP (ofP l) (ofP [s]) true)),38,2⟩)] (.inr rfl) (.tmp rfl rfl .nil) rfl rfl trivial ⟨⟨rfl,rSp_flat _⟩,trivial⟩ rfl⟩
theorem spec_l6Copy_c {o:Ow} (ht:o.t.size≤1048576) (hh:o.h.length≤1048576) (hd:o.d.length≤1048576):FDoes Try.prog 61 [.agg #[.string o.t,.slice (some ⟨0,0,none⟩) o.h.length 0,.slice (some ⟨1,0,none⟩) o.d.length 0]] (hp [(0,false,one ⟨rSp o.h,38,0⟩),(1,false,one ⟨rSp o.d,38,0⟩)]) (mkE (.agg #[.string o.t,.slice (some ⟨2,0,none⟩) o.h.length 0,.slice (some ⟨3,0,none⟩) o.d.length 0]) [0,1] [] [(2,⟨rSp o.h,38,2⟩),(3,⟨rSp o.d,38,2⟩)]):=by
 have hm:Try.prog.follows .mixedOrders=true:=by kernel_rfl
 have hd_:∀ x_ ∈ ([(0,false,one ⟨rSp o.h,38,0⟩),(1,false,one ⟨rSp o.d,38,0⟩)]:List (Nat × Bool × Fam)),∀ k_ y_,x_.2.2 k_=some y_→DetB (lt 2) y_:=by
  intro x_ hx k_ y_ e
  simp only [List.mem_cons,List.not_mem_nil,or_false] at hx
  rcases hx with rfl|rfl
  ·exact det_row (rSp_flat o.h) e
  ·exact det_row (rSp_flat o.d) e
 refine fn_exact (u0:=2) Try.func61 rfl rfl (gets rfl rfl rfl hd_ rfl) ?_
 clear hd_
 refine vc_seq ?_
 refine vc_region hm ?_
 refine gB (u':=3) trivial rfl rfl rfl rfl rfl rfl rfl rfl ?_
 refine gZ (u':=4) trivial rfl rfl rfl rfl rfl rfl rfl rfl ?_
 refine rg_nil nofun ?_
 refine vc_seq ?_
 refine vc_region hm ?_
 refine gF trivial rfl rfl rfl rfl rfl ?_
 refine gL trivial rfl rfl rfl rfl rfl rfl rfl rfl ?_
 refine gR (u':=5) trivial rfl rfl rfl rfl rfl rfl rfl rfl rfl rfl rfl rfl rfl rfl ?_
 refine gF trivial rfl rfl rfl rfl rfl ?_
 refine gL trivial rfl rfl rfl rfl rfl rfl rfl rfl ?_
 refine gAp (u':=6) trivial rfl rfl rfl rfl rfl rfl rfl rfl rfl rfl rfl rfl rfl (cp_len o.h) (cp_leaf o.h) (show (0 + o.h.length) * (16 + 1)≤140737488355328 by omega) (cp_eq o.h) (Nat.zero_add _) ?_
 refine gR (u':=7) trivial rfl rfl rfl rfl rfl rfl rfl rfl rfl rfl rfl rfl rfl rfl ?_
 refine gF trivial rfl rfl rfl rfl rfl ?_
 refine gL trivial rfl rfl rfl rfl rfl rfl rfl rfl ?_
 refine gAp (u':=8) trivial rfl rfl rfl rfl rfl rfl rfl rfl rfl rfl rfl rfl rfl (cp_len o.d) (cp_leaf o.d) (show (0 + o.d.length) * (16 + 1)≤140737488355328 by omega) (cp_eq o.d) (Nat.zero_add _) ?_
 refine gU trivial rfl rfl rfl rfl rfl rfl rfl rfl ?_
 refine gT trivial rfl rfl rfl rfl rfl rfl rfl rfl rfl rfl (Nat.le_of_ble_eq_true rfl) rfl ?_
 refine rg_nil (fun _=>by kernel_rfl) ?_
 refine vc_ret ?_
 exact ⟨_,endsG [(2,5,⟨rSp o.h,38,2⟩),(3,7,⟨rSp o.d,38,2⟩)] (.inr rfl) (.cell rfl rfl rfl rfl rfl .nil) rfl rfl trivial ⟨⟨rfl,rSp_flat _⟩,⟨rfl,rSp_flat _⟩,trivial⟩ rfl⟩
theorem spec_l6Put_c {o x:Ow} (ht:o.t.size≤1048576) (hh:o.h.length≤1048576) (hd:o.d.length≤1048576) (hx1:x.t.size≤1048576) (hx2:x.h.length≤1048576) (hx3:x.d.length≤1048576):FDoes Try.prog 62 [.agg #[.string o.t,.slice (some ⟨0,0,none⟩) o.h.length 0,.slice (some ⟨1,0,none⟩) o.d.length 0],.agg #[.string x.t,.slice (some ⟨2,0,none⟩) x.h.length 0,.slice (some ⟨3,0,none⟩) x.d.length 0]] (hp [(0,false,one ⟨rSp o.h,38,0⟩),(1,false,one ⟨rSp o.d,38,0⟩),(2,false,one ⟨rSp x.h,38,0⟩),(3,false,one ⟨rSp x.d,38,0⟩)]) (mkE (.tuple #[.agg #[.string (putO o x).t,.slice (some ⟨4,0,none⟩) (putO o x).h.length 0,.slice (some ⟨5,0,none⟩) (putO o x).d.length 0],.bool (ownOk x)]) [0,1,2,3] [] [(4,⟨rSp (putO o x).h,38,2⟩),(5,⟨rSp (putO o x).d,38,2⟩)]):=by
 have hm:Try.prog.follows .mixedOrders=true:=by kernel_rfl
 have hd_:∀ x_ ∈ ([(0,false,one ⟨rSp o.h,38,0⟩),(1,false,one ⟨rSp o.d,38,0⟩),(2,false,one ⟨rSp x.h,38,0⟩),(3,false,one ⟨rSp x.d,38,0⟩)]:List (Nat × Bool × Fam)),∀ k_ y_,x_.2.2 k_=some y_→DetB (lt 4) y_:=by
  intro x_ hx k_ y_ e
  simp only [List.mem_cons,List.not_mem_nil,or_false] at hx
  rcases hx with rfl|rfl|rfl|rfl
  ·exact det_row (rSp_flat o.h) e
  ·exact det_row (rSp_flat o.d) e
  ·exact det_row (rSp_flat x.h) e
  ·exact det_row (rSp_flat x.d) e
 refine fn_exact (u0:=4) Try.func62 rfl rfl (gets rfl rfl rfl hd_ rfl) ?_
 clear hd_
 refine vc_seq ?_
 refine vc_region hm ?_
 refine gB (u':=5) trivial rfl rfl rfl rfl rfl rfl rfl rfl ?_
 refine gB (u':=6) trivial rfl rfl rfl rfl rfl rfl rfl rfl ?_
 refine gZ (u':=7) trivial rfl rfl rfl rfl rfl rfl rfl rfl ?_
 refine gM trivial (.inr rfl) rfl rfl rfl ?_
 refine rg_nil nofun ?_
 refine vc_seq ?_
 refine vc_seq ?_
 refine vc_region hm ?_
 refine gL trivial rfl rfl rfl rfl rfl rfl rfl rfl ?_
 refine gC0 [2,3] (spec_OwnOk_c (o:=x) hx1 hx2 hx3) trivial rfl rfl rfl rfl ⟨rFlat (rSp_flat x.h) rfl (.inl rfl) rfl,rFlat (rSp_flat x.d) rfl (.inl rfl) rfl,trivial⟩ rfl rfl rfl rfl rfl ?_
 refine gN trivial rfl rfl rfl rfl ?_
 refine rg_nil nofun ?_
 refine cI rfl (fun c8=>?_) (fun c8=>?_)
 ·skip
  have n8:=unT c8
  refine vc_seq ?_
  refine vc_region hm ?_
  refine gL trivial rfl rfl rfl rfl rfl rfl rfl rfl ?_
  refine gCn 9 [0,1,7,8] (spec_l6Copy_c (o:=o) ht hh hd) trivial rfl rfl rfl rfl ⟨rFlat (rSp_flat o.h) rfl (.inl rfl) rfl,rFlat (rSp_flat o.d) rfl (.inl rfl) rfl,trivial⟩ ⟨rSp_flat _,rSp_flat _,trivial⟩ rfl rfl rfl rfl ?_
  refine gT trivial rfl rfl rfl rfl rfl rfl rfl rfl rfl rfl (Nat.le_of_ble_eq_true rfl) rfl ?_
  refine gM trivial (.inr rfl) rfl rfl rfl ?_
  refine rg_nil nofun ?_
  refine vc_ret ?_
  rw [putO_F n8,n8]
  exact ⟨_,endsG [(4,7,⟨rSp o.h,38,2⟩),(5,8,⟨rSp o.d,38,2⟩)] (.inr rfl) (.cell rfl rfl rfl rfl rfl (.tmp rfl rfl .nil)) rfl rfl trivial ⟨⟨rfl,rSp_flat _⟩,⟨rfl,rSp_flat _⟩,trivial⟩ rfl⟩
 ·skip
  have n8:=unF c8
  refine vc_skip ?_
  refine vc_seq ?_
  refine vc_region hm ?_
  refine gL trivial rfl rfl rfl rfl rfl rfl rfl rfl ?_
  refine gCn 9 [2,3,7,8] (spec_l6Copy_c (o:=x) hx1 hx2 hx3) trivial rfl rfl rfl rfl ⟨rFlat (rSp_flat x.h) rfl (.inl rfl) rfl,rFlat (rSp_flat x.d) rfl (.inl rfl) rfl,trivial⟩ ⟨rSp_flat _,rSp_flat _,trivial⟩ rfl rfl rfl rfl ?_
  refine gT trivial rfl rfl rfl rfl rfl rfl rfl rfl rfl rfl (Nat.le_of_ble_eq_true rfl) rfl ?_
  refine gM trivial (.inr rfl) rfl rfl rfl ?_
  refine rg_nil nofun ?_
  refine vc_ret ?_
  rw [putO_T n8,n8]
  exact ⟨_,endsG [(4,7,⟨rSp x.h,38,2⟩),(5,8,⟨rSp x.d,38,2⟩)] (.inr rfl) (.cell rfl rfl rfl rfl rfl (.tmp rfl rfl .nil)) rfl rfl trivial ⟨⟨rfl,rSp_flat _⟩,⟨rfl,rSp_flat _⟩,trivial⟩ rfl⟩
theorem spec_l1Max_c (a b:Int):FDoes Try.prog 100 [.int .i64 a,.int .i64 b] (hp []) { v:=.int .i64 (if a > b then a else b) }:=by
 have hm:Try.prog.follows .mixedOrders=true:=by kernel_rfl
 have hd_:∀ x ∈ ([]:List (Nat × Bool × Fam)),∀ k y,x.2.2 k=some y→DetB (lt 0) y:=fun x_ hx=>(by cases hx)
 refine fn_exact (u0:=0) Try.func100 rfl rfl (gets rfl rfl rfl hd_ rfl) ?_
 clear hd_
 refine vc_seq ?_
 refine vc_region hm ?_
 refine gM trivial (.inr rfl) rfl rfl rfl ?_
 refine rg_nil nofun ?_
 refine vc_seq ?_
 refine vc_seq ?_
 refine vc_region hm ?_
 refine gM trivial (.inl rfl) rfl rfl rfl ?_
 refine gM trivial (.inl rfl) rfl rfl rfl ?_
 refine gI trivial rfl rfl rfl rfl rfl rfl ?_
 refine rg_nil nofun ?_
 refine cI rfl (fun c7=>?_) (fun c7=>?_)
 ·skip
  have p7:=of_decide_eq_true c7
  refine vc_seq ?_
  refine vc_region hm ?_
  refine gM trivial (.inl rfl) rfl rfl rfl ?_
  refine gM trivial (.inr rfl) rfl rfl rfl ?_
  refine rg_nil nofun ?_
  refine vc_ret ?_
  exact ⟨idm,ends0 (.inr rfl) rfl (eqI (by first|rw [if_pos p7]|rw [if_neg p7])) rfl rfl rfl⟩
 ·skip
  have p7:=of_decide_eq_false c7
  refine vc_skip ?_
  refine vc_seq ?_
  refine vc_region hm ?_
  refine gM trivial (.inl rfl) rfl rfl rfl ?_
  refine gM trivial (.inr rfl) rfl rfl rfl ?_
  refine rg_nil nofun ?_
  refine vc_ret ?_
  exact ⟨idm,ends0 (.inr rfl) rfl (eqI (by first|rw [if_pos p7]|rw [if_neg p7])) rfl rfl rfl⟩
theorem spec_l1Min_c (a b:Int):FDoes Try.prog 94 [.int .i64 a,.int .i64 b] (hp []) { v:=.int .i64 (if a<b then a else b) }:=by
 have hm:Try.prog.follows .mixedOrders=true:=by kernel_rfl
 have hd_:∀ x ∈ ([]:List (Nat × Bool × Fam)),∀ k y,x.2.2 k=some y→DetB (lt 0) y:=fun x_ hx=>(by cases hx)
 refine fn_exact (u0:=0) Try.func94 rfl rfl (gets rfl rfl rfl hd_ rfl) ?_
 clear hd_
 refine vc_seq ?_
 refine vc_region hm ?_
 refine gM trivial (.inr rfl) rfl rfl rfl ?_
 refine rg_nil nofun ?_
 refine vc_seq ?_
 refine vc_seq ?_
 refine vc_region hm ?_
 refine gM trivial (.inl rfl) rfl rfl rfl ?_
 refine gM trivial (.inl rfl) rfl rfl rfl ?_
 refine gI trivial rfl rfl rfl rfl rfl rfl ?_
 refine rg_nil nofun ?_
 refine cI rfl (fun c7=>?_) (fun c7=>?_)
 ·skip
  have p7:=of_decide_eq_true c7
  refine vc_seq ?_
  refine vc_region hm ?_
  refine gM trivial (.inl rfl) rfl rfl rfl ?_
  refine gM trivial (.inr rfl) rfl rfl rfl ?_
  refine rg_nil nofun ?_
  refine vc_ret ?_
  exact ⟨idm,ends0 (.inr rfl) rfl (eqI (by first|rw [if_pos p7]|rw [if_neg p7])) rfl rfl rfl⟩
 ·skip
  have p7:=of_decide_eq_false c7
  refine vc_skip ?_
  refine vc_seq ?_
  refine vc_region hm ?_
  refine gM trivial (.inl rfl) rfl rfl rfl ?_
  refine gM trivial (.inr rfl) rfl rfl rfl ?_
  refine rg_nil nofun ?_
  refine vc_ret ?_
  exact ⟨idm,ends0 (.inr rfl) rfl (eqI (by first|rw [if_pos p7]|rw [if_neg p7])) rfl rfl rfl⟩
theorem spec_l1Meet_c (a b:Sp):FDoes Try.prog 84 [vSp a,vSp b] (hp []) { v:=tMeet a b }:=by
 have hm:Try.prog.follows .mixedOrders=true:=by kernel_rfl
 have hd_:∀ x ∈ ([]:List (Nat × Bool × Fam)),∀ k y,x.2.2 k=some y→DetB (lt 0) y:=fun x_ hx=>(by cases hx)
 refine fn_exact (u0:=0) Try.func84 rfl rfl (gets rfl rfl rfl hd_ rfl) ?_
 clear hd_
 refine vc_seq ?_
 refine vc_region hm ?_
 refine gB (u':=1) trivial rfl rfl rfl rfl rfl rfl rfl rfl ?_
 refine gB (u':=2) trivial rfl rfl rfl rfl rfl rfl rfl rfl ?_
 refine gZ (u':=3) trivial rfl rfl rfl rfl rfl rfl rfl rfl ?_
 refine gM trivial (.inr rfl) rfl rfl rfl ?_
 refine rg_nil nofun ?_
 refine vc_seq ?_
 refine vc_region hm ?_
 refine gF trivial rfl rfl rfl rfl rfl ?_
 refine gL trivial rfl rfl rfl rfl rfl rfl rfl rfl ?_
 refine gF trivial rfl rfl rfl rfl rfl ?_
 refine gL trivial rfl rfl rfl rfl rfl rfl rfl rfl ?_
 refine gC0 [] (spec_l1Max_c a.lo b.lo) trivial rfl rfl rfl rfl (by trivial) rfl rfl rfl rfl rfl ?_
 refine gF trivial rfl rfl rfl rfl rfl ?_
 refine gL trivial rfl rfl rfl rfl rfl rfl rfl rfl ?_
 refine gF trivial rfl rfl rfl rfl rfl ?_
 refine gL trivial rfl rfl rfl rfl rfl rfl rfl rfl ?_
 refine gC0 [] (spec_l1Min_c a.hi b.hi) trivial rfl rfl rfl rfl (by trivial) rfl rfl rfl rfl rfl ?_
 refine gU trivial rfl rfl rfl rfl rfl rfl rfl rfl ?_
 refine gZ (u':=4) trivial rfl rfl rfl rfl rfl rfl rfl rfl ?_
 refine gT trivial rfl rfl rfl rfl rfl rfl rfl rfl rfl rfl (Nat.le_of_ble_eq_true rfl) rfl ?_
 refine rg_nil (fun _=>by kernel_rfl) ?_
 refine vc_seq ?_
 refine vc_seq ?_
 refine vc_region hm ?_
 refine gF trivial rfl rfl rfl rfl rfl ?_
 refine gL trivial rfl rfl rfl rfl rfl rfl rfl rfl ?_
 refine gF trivial rfl rfl rfl rfl rfl ?_
 refine gL trivial rfl rfl rfl rfl rfl rfl rfl rfl ?_
 refine gI trivial rfl rfl rfl rfl rfl rfl ?_
 refine rg_nil nofun ?_
 refine cI rfl (fun c22=>?_) (fun c22=>?_)
 ·skip
  have p22:=of_decide_eq_true c22
  refine vc_seq ?_
  refine vc_region hm ?_
  refine gU trivial rfl rfl rfl rfl rfl rfl rfl rfl ?_
  refine gT trivial rfl rfl rfl rfl rfl rfl rfl rfl rfl rfl (Nat.le_of_ble_eq_true rfl) rfl ?_
  refine gM trivial (.inr rfl) rfl rfl rfl ?_
  refine rg_nil nofun ?_
  refine vc_ret ?_
  exact ⟨idm,endsF (.inr rfl) (.cell rfl rfl rfl rfl rfl (.tmp rfl rfl .nil)) (by first|exact mt_F p22|exact mt_T p22) rfl rfl⟩
 ·skip
  have p22:=of_decide_eq_false c22
  refine vc_skip ?_
  refine vc_seq ?_
  refine vc_region hm ?_
  refine gL trivial rfl rfl rfl rfl rfl rfl rfl rfl ?_
  refine gT trivial rfl rfl rfl rfl rfl rfl rfl rfl rfl rfl (Nat.le_of_ble_eq_true rfl) rfl ?_
  refine gM trivial (.inr rfl) rfl rfl rfl ?_
  refine rg_nil nofun ?_
  refine vc_ret ?_
  exact ⟨idm,endsF (.inr rfl) (.cell rfl rfl rfl rfl rfl (.tmp rfl rfl .nil)) (by first|exact mt_F p22|exact mt_T p22) rfl rfl⟩
theorem dl_spec {o:Ow} (h:ownOk o=true):o.d.length≤12:=spansOk_len (ownOk_dirty h)
def mnI (a b:Int):Int:=if a<b then a else b
theorem rCode {m:Nat→Nat} {hc:List (Nat × Bool × Fam)} {b k t:Nat} {o':Bool} {l:List Int} (hl:hc.lookup (m b)=some (o',one ⟨hls k (rY l),t,0⟩)) (hb:Nat.blt (m b) 1000=true):m b<1000∧∃ o' F',hc.lookup (m b)=some (o',F')∧FamLe (rnF m (one ⟨hls k (rY l),t,0⟩)) F':=rFlat (hls_flat (rY_flat l)) hl (.inl rfl) (by rw [hb,Bool.true_and,Bool.or_eq_true];exact .inr rfl)
theorem ho1 {h:Nat→Option (Bool × Fam)} {m:Nat→Nat} {b:Nat} {F:Fam} (ho:Owned h (m b)):∀ x ∈ [(b,F)],Owned h (m x.1):=fun x hx=>by
 obtain rfl:=List.mem_singleton.1 hx
 exact ho
theorem hu1 {hl:List (Nat × Bool × Fam)} {b:Nat} {x y:Blk} (h:hl.lookup b=some (true,one y)):∀ z ∈ [(b,one x)],∃ F,hl.lookup z.1=some (true,F)∧∀ k,z.2 k ≠ none→F k ≠ none:=fun z hz=>by
 obtain rfl:=List.mem_singleton.1 hz
 refine ⟨_,h,fun k hk=>?_⟩
 by_cases e:k=0 <;> simp_all [one]
theorem num_c {l:List Int} {k n t0:Nat} {p:Int} (hl:ByL l) (hn:n≤l.length) (hp0:0≤p) (hp1:p≤999000) {L:List Int} {a b:Int} (hL:1≤L.length∧L.length≤1000) (hb:∀ x ∈ L,a≤x∧x≤b):∃ E,FDoes Try.prog 91 [.pointer (some ⟨1,0,none⟩),.slice (some ⟨2,0,none⟩) L.length 0] (hp [(0,false,one ⟨hls k (rY l),t0,0⟩),(1,true,one ⟨[.slice (some ⟨0,k,none⟩) n 0,.int .i64 (p)],101,2⟩),(2,false,one ⟨rI L,3,0⟩)]) E∧∃ x:Int,a≤x∧x≤b∧E=mkF (.int .i64 x) [0,2] [(1,one ⟨[.slice (some ⟨0,k,none⟩) n 0,.int .i64 (p + 1)],101,2⟩)] []:=by
 have hm:Try.prog.follows .mixedOrders=true:=by kernel_rfl
 have hd_:∀ x_ ∈ ([(0,false,one ⟨hls k (rY l),t0,0⟩),(1,true,one ⟨[.slice (some ⟨0,k,none⟩) n 0,.int .i64 (p)],101,2⟩),(2,false,one ⟨rI L,3,0⟩)]:List (Nat × Bool × Fam)),∀ k_ y_,x_.2.2 k_=some y_→DetB (lt 3) y_:=by
  intro x_ hx k_ y_ e
  simp only [List.mem_cons,List.not_mem_nil,or_false] at hx
  rcases hx with rfl|rfl|rfl
  ·exact det_code e
  ·exact det_ok rfl e
  ·exact det_row (rI_flat L) e
 refine fn_some (u0:=3) Try.func91 rfl rfl (gets rfl rfl rfl hd_ rfl) ?_
 clear hd_
 refine vc_seq ?_
 refine vc_region hm ?_
 refine gM trivial (.inr rfl) rfl rfl rfl ?_
 refine rg_nil nofun ?_
 refine vc_seq ?_
 refine vc_region hm ?_
 refine gM trivial (.inl rfl) rfl rfl rfl ?_
 refine gM trivial (.inl rfl) rfl rfl rfl ?_
 refine gM trivial (.inl rfl) rfl rfl rfl ?_
 refine gK trivial rfl rfl rfl rfl rfl rfl rI_nil ?_
 obtain ⟨E1,hE1,x1,x1a,x1b,rfl⟩:=pick_c (k:=k) (t0:=t0) (p:=p) hl hn (by omega) (by omega) (m:=L.length) (by omega) (by omega)
 refine gCF (ups':=[(1,one ⟨[.slice (some ⟨0,k,none⟩) n 0,.int .i64 (p + 1)],101,2⟩)]) (as':=[]) (v':=.int .i64 x1) 3 [0,1] hE1 trivial rfl rfl rfl rfl ⟨rCode rfl rfl,rCells rfl ⟨rfl,rfl,.inr rfl⟩ rfl,trivial⟩ ⟨frOne rfl rfl,trivial⟩ trivial rfl rfl (ho1 ⟨_,rfl⟩) (hu1 rfl) rfl rfl ?_
 refine gX trivial rfl rfl rfl rfl rfl rfl rfl rfl (by omega) (by omega) rI_ne ?_
 refine gL trivial rfl rfl rfl rfl rfl rfl rfl (lI (by omega) (by omega)) ?_
 refine gM trivial (.inr rfl) rfl rfl rfl ?_
 refine rg_nil nofun ?_
 refine vc_ret ?_
 exact ⟨mkF (.int .i64 (at_ L x1)) [0,2] [(1,one ⟨[.slice (some ⟨0,k,none⟩) n 0,.int .i64 (p + 1)],101,2⟩)] [],_,endsT [] (.inr rfl) (.tmp rfl rfl .nil) rfl rfl ⟨upOne rfl rfl rfl,trivial⟩ trivial rfl,_,(hb _ (at_mem (by omega) (by omega))).1,(hb _ (at_mem (by omega) (by omega))).2,rfl⟩
theorem span_c {l:List Int} {k n t0:Nat} {p:Int} (hl:ByL l) (hn:n≤l.length) (hp0:0≤p) (hp1:p≤998000):∃ E,FDoes Try.prog 76 [.pointer (some ⟨1,0,none⟩)] (hp [(0,false,one ⟨hls k (rY l),t0,0⟩),(1,true,one ⟨[.slice (some ⟨0,k,none⟩) n 0,.int .i64 (p)],101,2⟩)]) E∧∃ (s:Sp) (p2:Int),0≤s.lo∧s.lo<s.hi∧s.hi≤48∧p≤p2∧p2≤p + 2∧E=mkF (vSp s) [0] [(1,one ⟨[.slice (some ⟨0,k,none⟩) n 0,.int .i64 (p2)],101,2⟩)] []:=by
 have hm:Try.prog.follows .mixedOrders=true:=by kernel_rfl
 have hd_:∀ x_ ∈ ([(0,false,one ⟨hls k (rY l),t0,0⟩),(1,true,one ⟨[.slice (some ⟨0,k,none⟩) n 0,.int .i64 (p)],101,2⟩)]:List (Nat × Bool × Fam)),∀ k_ y_,x_.2.2 k_=some y_→DetB (lt 2) y_:=by
  intro x_ hx k_ y_ e
  simp only [List.mem_cons,List.not_mem_nil,or_false] at hx
  rcases hx with rfl|rfl
  ·exact det_code e
  ·exact det_ok rfl e
 refine fn_some (u0:=2) Try.func76 rfl rfl (gets rfl rfl rfl hd_ rfl) ?_
 clear hd_
 refine vc_seq ?_
 refine vc_region hm ?_
 refine gZ (u':=3) trivial rfl rfl rfl rfl rfl rfl rfl rfl ?_
 refine rg_nil nofun ?_
 refine vc_seq ?_
 refine vc_region hm ?_
 refine gM trivial (.inl rfl) rfl rfl rfl ?_
 obtain ⟨E1,hE1,x1,x1a,x1b,rfl⟩:=pick_c (k:=k) (t0:=t0) (p:=p) hl hn (by omega) (by omega) (m:=47) (by omega) (by omega)
 refine gCF (ups':=[(1,one ⟨[.slice (some ⟨0,k,none⟩) n 0,.int .i64 (p + 1)],101,2⟩)]) (as':=[]) (v':=.int .i64 x1) 3 [0,1] hE1 trivial rfl rfl rfl rfl ⟨rCode rfl rfl,rCells rfl ⟨rfl,rfl,.inr rfl⟩ rfl,trivial⟩ ⟨frOne rfl rfl,trivial⟩ trivial rfl rfl (ho1 ⟨_,rfl⟩) (hu1 rfl) rfl rfl ?_
 refine gM trivial (.inr rfl) rfl rfl rfl ?_
 refine rg_nil nofun ?_
 refine vc_seq ?_
 refine vc_region hm ?_
 refine gM trivial (.inl rfl) rfl rfl rfl ?_
 refine gM trivial (.inl rfl) rfl rfl rfl ?_
 refine gA trivial rfl rfl rfl rfl rfl rfl (by omega) ?_
 refine gM trivial (.inl rfl) rfl rfl rfl ?_
 refine gR (u':=4) (out:=rI [0,1,3,5,9,20,47]) trivial rfl rfl rfl rfl rfl rfl rfl rfl rfl rfl rfl rfl rfl rfl ?_
 obtain ⟨E2,hE2,x2,x2a,x2b,rfl⟩:=num_c (k:=k) (t0:=t0) (p:=p + 1) hl hn (by omega) (by omega) (L:=[0,1,3,5,9,20,47]) (a:=0) (b:=47) (by decide) (by decide)
 refine gCF (ups':=[(1,one ⟨[.slice (some ⟨0,k,none⟩) n 0,.int .i64 (p + 1 + 1)],101,2⟩)]) (as':=[]) (v':=.int .i64 x2) 4 [0,1,3] hE2 trivial rfl rfl rfl rfl ⟨rCode rfl rfl,rCells rfl ⟨rfl,rfl,.inr rfl⟩ rfl,rFlat (rI_flat _) rfl (.inl rfl) rfl,trivial⟩ ⟨frOne rfl rfl,trivial⟩ trivial rfl rfl (ho1 ⟨_,rfl⟩) (hu1 rfl) rfl rfl ?_
 refine gA trivial rfl rfl rfl rfl rfl rfl (by omega) ?_
 refine gC0 [] (spec_l1Min_c 48 (x1 + 1 + x2)) trivial rfl rfl rfl rfl (by trivial) rfl rfl rfl rfl rfl ?_
 refine gU trivial rfl rfl rfl rfl rfl rfl rfl rfl ?_
 refine gT trivial rfl rfl rfl rfl rfl rfl rfl rfl rfl rfl (Nat.le_of_ble_eq_true rfl) rfl ?_
 refine rg_nil nofun ?_
 refine vc_ret ?_
 exact ⟨mkF (vSp ⟨x1,mnI 48 (x1 + 1 + x2)⟩) [0] [(1,one ⟨[.slice (some ⟨0,k,none⟩) n 0,.int .i64 (p + 1 + 1)],101,2⟩)] [],_,endsT [] (.inr rfl) (.cell rfl rfl rfl rfl rfl .nil) rfl rfl ⟨upOne rfl rfl rfl,trivial⟩ trivial rfl,⟨x1,mnI 48 (x1 + 1 + x2)⟩,_,by omega,(by show x1<mnI 48 _;unfold mnI;split <;> omega),(by show mnI 48 _≤48;unfold mnI;split <;> omega),(by omega),(by omega),rfl⟩
theorem some_c {l:List Int} {k n t0:Nat} {p:Int} (hl:ByL l) (hn:n≤l.length) (hp0:0≤p) (hp1:p≤997000):∃ E,FDoes Try.prog 104 [.pointer (some ⟨1,0,none⟩)] (hp [(0,false,one ⟨hls k (rY l),t0,0⟩),(1,true,one ⟨[.slice (some ⟨0,k,none⟩) n 0,.int .i64 (p)],101,2⟩)]) E∧∃ (s:Sp) (p2:Int),p≤p2∧p2≤p + 3∧E=mkF (vSp s) [0] [(1,one ⟨[.slice (some ⟨0,k,none⟩) n 0,.int .i64 (p2)],101,2⟩)] []:=by
 have hm:Try.prog.follows .mixedOrders=true:=by kernel_rfl
 have hd_:∀ x_ ∈ ([(0,false,one ⟨hls k (rY l),t0,0⟩),(1,true,one ⟨[.slice (some ⟨0,k,none⟩) n 0,.int .i64 (p)],101,2⟩)]:List (Nat × Bool × Fam)),∀ k_ y_,x_.2.2 k_=some y_→DetB (lt 2) y_:=by
  intro x_ hx k_ y_ e
  simp only [List.mem_cons,List.not_mem_nil,or_false] at hx
  rcases hx with rfl|rfl
  ·exact det_code e
  ·exact det_ok rfl e
 refine fn_some (u0:=2) Try.func104 rfl rfl (gets rfl rfl rfl hd_ rfl) ?_
 clear hd_
 refine vc_seq ?_
 refine vc_region hm ?_
 refine gZ (u':=3) trivial rfl rfl rfl rfl rfl rfl rfl rfl ?_
 refine rg_nil nofun ?_
 refine vc_seq ?_
 refine vc_region hm ?_
 refine gM trivial (.inl rfl) rfl rfl rfl ?_
 obtain ⟨E1,hE1,s1,p1,s1a,s1b,s1c,q1a,q1b,rfl⟩:=span_c (k:=k) (t0:=t0) (p:=p) hl hn (by omega) (by omega) 
 refine gCF (ups':=[(1,one ⟨[.slice (some ⟨0,k,none⟩) n 0,.int .i64 (p1)],101,2⟩)]) (as':=[]) (v':=vSp s1) 3 [0,1] hE1 trivial rfl rfl rfl rfl ⟨rCode rfl rfl,rCells rfl ⟨rfl,rfl,.inr rfl⟩ rfl,trivial⟩ ⟨frOne rfl rfl,trivial⟩ trivial rfl rfl (ho1 ⟨_,rfl⟩) (hu1 rfl) rfl rfl ?_
 refine gZ (u':=4) trivial rfl rfl rfl rfl rfl rfl rfl rfl ?_
 refine gT trivial rfl rfl rfl rfl rfl rfl rfl rfl rfl rfl (Nat.le_of_ble_eq_true rfl) rfl ?_
 refine rg_nil nofun ?_
 refine vc_seq ?_
 refine vc_seq ?_
 refine vc_region hm ?_
 refine gM trivial (.inl rfl) rfl rfl rfl ?_
 obtain ⟨E2,hE2,x2,x2a,x2b,rfl⟩:=pick_c (k:=k) (t0:=t0) (p:=p1) hl hn (by omega) (by omega) (m:=48) (by omega) (by omega)
 refine gCF (ups':=[(1,one ⟨[.slice (some ⟨0,k,none⟩) n 0,.int .i64 (p1 + 1)],101,2⟩)]) (as':=[]) (v':=.int .i64 x2) 4 [0,1] hE2 trivial rfl rfl rfl rfl ⟨rCode rfl rfl,rCells rfl ⟨rfl,rfl,.inr rfl⟩ rfl,trivial⟩ ⟨frOne rfl rfl,trivial⟩ trivial rfl rfl (ho1 ⟨_,rfl⟩) (hu1 rfl) rfl rfl ?_
 refine rg_nil nofun ?_
 refine vc_block ?_
 refine vc_seq ?_
 refine vc_region hm ?_
 refine gI trivial rfl rfl rfl rfl rfl rfl ?_
 refine gM trivial (.inr rfl) rfl rfl rfl ?_
 refine rg_nil nofun ?_
 refine cI rfl (fun c8=>?_) (fun c8=>?_)
 ·skip
  have p8:=eq_of_beq c8
  refine vc_region hm ?_
  refine gF trivial rfl rfl rfl rfl rfl ?_
  refine gL trivial rfl rfl rfl rfl rfl rfl rfl rfl ?_
  refine gF trivial rfl rfl rfl rfl rfl ?_
  refine gT trivial rfl rfl rfl rfl rfl rfl rfl rfl rfl rfl (Nat.le_of_ble_eq_true rfl) rfl ?_
  refine rg_nil nofun ?_
  refine vc_seq ?_
  refine vc_region hm ?_
  refine gL trivial rfl rfl rfl rfl rfl rfl rfl rfl ?_
  refine gT trivial rfl rfl rfl rfl rfl rfl rfl rfl rfl rfl (Nat.le_of_ble_eq_true rfl) rfl ?_
  refine rg_nil nofun ?_
  refine vc_ret ?_
  exact ⟨mkF (vSp ⟨s1.lo,s1.lo⟩) [0] [(1,one ⟨[.slice (some ⟨0,k,none⟩) n 0,.int .i64 (p1 + 1)],101,2⟩)] [],_,endsT [] (.inr rfl) (.cell rfl rfl rfl rfl rfl .nil) rfl rfl ⟨upOne rfl rfl rfl,trivial⟩ trivial rfl,⟨s1.lo,s1.lo⟩,_,(by omega),(by omega),rfl⟩
 ·skip
  have p8:=ne_of_beq_false c8
  refine vc_seq ?_
  refine vc_region hm ?_
  refine gI trivial rfl rfl rfl rfl rfl rfl ?_
  refine gM trivial (.inr rfl) rfl rfl rfl ?_
  refine rg_nil nofun ?_
  refine cI rfl (fun c13=>?_) (fun c13=>?_)
  ·skip
   have p13:=eq_of_beq c13
   refine vc_region hm ?_
   refine gF trivial rfl rfl rfl rfl rfl ?_
   refine gT trivial rfl rfl rfl rfl rfl rfl rfl rfl rfl rfl (Nat.le_of_ble_eq_true rfl) rfl ?_
   refine rg_nil nofun ?_
   refine vc_seq ?_
   refine vc_region hm ?_
   refine gL trivial rfl rfl rfl rfl rfl rfl rfl rfl ?_
   refine gT trivial rfl rfl rfl rfl rfl rfl rfl rfl rfl rfl (Nat.le_of_ble_eq_true rfl) rfl ?_
   refine rg_nil nofun ?_
   refine vc_ret ?_
   exact ⟨mkF (vSp ⟨-1,s1.hi⟩) [0] [(1,one ⟨[.slice (some ⟨0,k,none⟩) n 0,.int .i64 (p1 + 1)],101,2⟩)] [],_,endsT [] (.inr rfl) (.cell rfl rfl rfl rfl rfl .nil) rfl rfl ⟨upOne rfl rfl rfl,trivial⟩ trivial rfl,⟨-1,s1.hi⟩,_,(by omega),(by omega),rfl⟩
  ·skip
   have p13:=ne_of_beq_false c13
   refine vc_seq ?_
   refine vc_region hm ?_
   refine gI trivial rfl rfl rfl rfl rfl rfl ?_
   refine gM trivial (.inr rfl) rfl rfl rfl ?_
   refine rg_nil nofun ?_
   refine cI rfl (fun c16=>?_) (fun c16=>?_)
   ·skip
    have p16:=eq_of_beq c16
    refine vc_region hm ?_
    refine gF trivial rfl rfl rfl rfl rfl ?_
    refine gT trivial rfl rfl rfl rfl rfl rfl rfl rfl rfl rfl (Nat.le_of_ble_eq_true rfl) rfl ?_
    refine rg_nil nofun ?_
    refine vc_seq ?_
    refine vc_region hm ?_
    refine gL trivial rfl rfl rfl rfl rfl rfl rfl rfl ?_
    refine gT trivial rfl rfl rfl rfl rfl rfl rfl rfl rfl rfl (Nat.le_of_ble_eq_true rfl) rfl ?_
    refine rg_nil nofun ?_
    refine vc_ret ?_
    exact ⟨mkF (vSp ⟨s1.lo,49⟩) [0] [(1,one ⟨[.slice (some ⟨0,k,none⟩) n 0,.int .i64 (p1 + 1)],101,2⟩)] [],_,endsT [] (.inr rfl) (.cell rfl rfl rfl rfl rfl .nil) rfl rfl ⟨upOne rfl rfl rfl,trivial⟩ trivial rfl,⟨s1.lo,49⟩,_,(by omega),(by omega),rfl⟩
   ·skip
    have p16:=ne_of_beq_false c16
    refine vc_seq ?_
    refine vc_region hm ?_
    refine gI trivial rfl rfl rfl rfl rfl rfl ?_
    refine gM trivial (.inr rfl) rfl rfl rfl ?_
    refine rg_nil nofun ?_
    refine cI rfl (fun c19=>?_) (fun c19=>?_)
    ·skip
     have p19:=eq_of_beq c19
     refine vc_seq ?_
     refine vc_region hm ?_
     refine gU trivial rfl rfl rfl rfl rfl rfl rfl rfl ?_
     refine gT trivial rfl rfl rfl rfl rfl rfl rfl rfl rfl rfl (Nat.le_of_ble_eq_true rfl) rfl ?_
     refine rg_nil nofun ?_
     refine vc_ret ?_
     exact ⟨mkF (vSp ⟨9223372036854775807,-9223372036854775808⟩) [0] [(1,one ⟨[.slice (some ⟨0,k,none⟩) n 0,.int .i64 (p1 + 1)],101,2⟩)] [],_,endsT [] (.inr rfl) (.cell rfl rfl rfl rfl rfl .nil) rfl rfl ⟨upOne rfl rfl rfl,trivial⟩ trivial rfl,⟨9223372036854775807,-9223372036854775808⟩,_,(by omega),(by omega),rfl⟩
    ·skip
     have p19:=ne_of_beq_false c19
     refine vc_skip ?_
     refine vc_seq ?_
     refine vc_region hm ?_
     refine gL trivial rfl rfl rfl rfl rfl rfl rfl rfl ?_
     refine gT trivial rfl rfl rfl rfl rfl rfl rfl rfl rfl rfl (Nat.le_of_ble_eq_true rfl) rfl ?_
     refine rg_nil nofun ?_
     refine vc_ret ?_
     exact ⟨mkF (vSp s1) [0] [(1,one ⟨[.slice (some ⟨0,k,none⟩) n 0,.int .i64 (p1 + 1)],101,2⟩)] [],_,endsT [] (.inr rfl) (.cell rfl rfl rfl rfl rfl .nil) rfl rfl ⟨upOne rfl rfl rfl,trivial⟩ trivial rfl,s1,_,(by omega),(by omega),rfl⟩
theorem l48 {f:Nat→Bool}:(l1ofP f).length≤1048576:=Nat.le_trans ofL48_len (by decide)
theorem ktCode {ms:List Nat} {C u2 b t k:Nat} {g:Nat→Option Nat} {h1:List (Nat × Bool × Fam)} {o':Bool} {l:List Int} (hl:h1.lookup (mp ms b)=some (o',one ⟨hls k (rY l),t,0⟩)) (hb:(Nat.blt b u2 && Nat.blt b 1000 && Nat.blt (mp ms b) 1000 && !(b == C))=true):KeepBT (tmG ms C g) u2 h1 b false (one ⟨hls k (rY l),t,0⟩):=ktFlat (hls_flat (rY_flat l)) hl (.inl rfl) (fun h=>nomatch h) (by rw [hb];cases Nat.ble t capT <;> rfl)
theorem spansOk_lim {l:List Sp} (h:spansOk l=true):l.length≤12∧∀ s ∈ l,0≤s.hi∧s.hi≤48:=⟨spansOk_len h,fun s hs=>by have:=spanOk_in (spansOk_at h s hs);omega⟩
theorem lst_snoc {Y:List Sp} {x:Sp} (h:∀ s ∈ Y,0≤s.hi∧s.hi≤48) (hx:0≤x.hi∧x.hi≤48):∀ s ∈ Y ++ [x],0≤s.hi∧s.hi≤48:=fun s hs=>by
 rcases List.mem_append.1 hs with h1|h1
 ·exact h s h1
 ·obtain rfl:=List.mem_singleton.1 h1
  exact hx
theorem list_c {l:List Int} {k n t0:Nat} {p:Int} (hl:ByL l) (hn:n≤l.length) (hp0:0≤p) (hp1:p≤996000):∃ E,FDoes Try.prog 103 [.pointer (some ⟨1,0,none⟩)] (hp [(0,false,one ⟨hls k (rY l),t0,0⟩),(1,true,one ⟨[.slice (some ⟨0,k,none⟩) n 0,.int .i64 (p)],101,2⟩)]) E∧∃ (L:List Sp) (p2:Int),L.length≤12∧(∀ s ∈ L,0≤s.hi∧s.hi≤48)∧p≤p2∧p2≤p + 70∧E=mkF (.slice (some ⟨2,0,none⟩) L.length 0) [0] [(1,one ⟨[.slice (some ⟨0,k,none⟩) n 0,.int .i64 (p2)],101,2⟩)] [(2,one ⟨rSp L,38,2⟩)]:=by
 have hm:Try.prog.follows .mixedOrders=true:=by kernel_rfl
 have hd_:∀ x_ ∈ ([(0,false,one ⟨hls k (rY l),t0,0⟩),(1,true,one ⟨[.slice (some ⟨0,k,none⟩) n 0,.int .i64 (p)],101,2⟩)]:List (Nat × Bool × Fam)),∀ k_ y_,x_.2.2 k_=some y_→DetB (lt 2) y_:=by
  intro x_ hx k_ y_ e
  simp only [List.mem_cons,List.not_mem_nil,or_false] at hx
  rcases hx with rfl|rfl
  ·exact det_code e
  ·exact det_ok rfl e
 refine fn_some (u0:=2) Try.func103 rfl rfl (gets rfl rfl rfl hd_ rfl) ?_
 clear hd_
 refine vc_seq ?_
 refine vc_region hm ?_
 refine gM trivial (.inr rfl) rfl rfl rfl ?_
 refine rg_nil nofun ?_
 refine vc_seq ?_
 refine vc_region hm ?_
 refine gR (u':=3) (out:=rSp []) trivial rfl rfl rfl rfl rfl rfl rfl rfl rfl rfl rfl rfl rfl rfl ?_
 refine gM trivial (.inr rfl) rfl rfl rfl ?_
 refine rg_nil nofun ?_
 refine vc_seq ?_
 refine vc_seq ?_
 refine vc_region hm ?_
 refine gM trivial (.inl rfl) rfl rfl rfl ?_
 refine gR (u':=4) (out:=rI [1,2,3,5,0,9]) trivial rfl rfl rfl rfl rfl rfl rfl rfl rfl rfl rfl rfl rfl rfl ?_
 obtain ⟨E1,hE1,x1,x1a,x1b,rfl⟩:=num_c (k:=k) (t0:=t0) (p:=p) hl hn (by omega) (by omega) (L:=[1,2,3,5,0,9]) (a:=0) (b:=9) (by decide) (by decide)
 refine gCF (ups':=[(1,one ⟨[.slice (some ⟨0,k,none⟩) n 0,.int .i64 (p + 1)],101,2⟩)]) (as':=[]) (v':=.int .i64 x1) 4 [0,1,3] hE1 trivial rfl rfl rfl rfl ⟨rCode rfl rfl,rCells rfl ⟨rfl,rfl,.inr rfl⟩ rfl,rFlat (rI_flat _) rfl (.inl rfl) rfl,trivial⟩ ⟨frOne rfl rfl,trivial⟩ trivial rfl rfl (ho1 ⟨_,rfl⟩) (hu1 rfl) rfl rfl ?_
 refine gM trivial (.inr rfl) rfl rfl rfl ?_
 refine rg_nil nofun ?_
 refine vc_block ?_
 refine vc_loopT (fun n_ S_=>∃ (X:List Sp) (i q:Int),X.length≤12∧(∀ s ∈ X,0≤s.hi∧s.hi≤48)∧0≤i∧i≤9∧p≤q∧q≤p + 1 + 5 * (9 - i)∧n_=i.toNat∧S_=⟨3,[(0,.pointer (some ⟨1,0,none⟩)),(3,.slice (some ⟨2,0,none⟩) X.length 0),(4,.int .i64 i)],[(0,false,one ⟨hls k (rY l),t0,0⟩),(1,true,one ⟨[.slice (some ⟨0,k,none⟩) n 0,.int .i64 (q)],101,2⟩),(2,true,one ⟨rSp X,38,2⟩)]⟩) ⟨[],x1,p + 1,(Nat.zero_le _),(fun _ h=>nomatch h),(by omega),(by omega),(by omega),(by omega),rfl,rfl⟩ (re_nil (ms:=[0,1,2]) (C:=999) rfl ⟨⟨⟨rfl,rfl⟩,rfl⟩,⟨⟨rfl,rfl⟩,rfl⟩,⟨⟨rfl,rfl⟩,rfl⟩,trivial⟩ ⟨ktCode rfl rfl,ktRow rfl rfl rfl (BlkW.refl _) id rfl,ktFlat (rSp_flat _) rfl (.inr (.inl rfl)) id rfl,trivial⟩ rfl rfl (rig_of rfl) rfl) ?_
 rintro n_ S_ ⟨X,i,q,hX,hY,hi0,hi,hq,hr,rfl,rfl⟩
 refine vc_seq ?_
 refine vc_seq ?_
 refine vc_region hm ?_
 refine gM trivial (.inl rfl) rfl rfl rfl ?_
 refine gI trivial rfl rfl rfl rfl rfl rfl ?_
 refine rg_nil nofun ?_
 refine cI rfl (fun c12=>?_) (fun c12=>?_)
 ·skip
  have p12:=of_decide_eq_true c12
  refine vc_skip ?_
  refine vc_seq ?_
  refine vc_block ?_
  refine vc_seq ?_
  refine vc_region hm ?_
  refine gM trivial (.inl rfl) rfl rfl rfl ?_
  refine gM trivial (.inl rfl) rfl rfl rfl ?_
  obtain ⟨E3,hE3,s3,p3,s3a,s3b,s3c,q3a,q3b,rfl⟩:=span_c (k:=k) (t0:=t0) (p:=q) hl hn (by omega) (by omega) 
  refine gCF (ups':=[(1,one ⟨[.slice (some ⟨0,k,none⟩) n 0,.int .i64 (p3)],101,2⟩)]) (as':=[]) (v':=vSp s3) 3 [0,1] hE3 trivial rfl rfl rfl rfl ⟨rCode rfl rfl,rCells rfl ⟨rfl,rfl,.inr rfl⟩ rfl,trivial⟩ ⟨frOne rfl rfl,trivial⟩ trivial rfl rfl (ho1 ⟨_,rfl⟩) (hu1 rfl) rfl rfl ?_
  refine gCn 4 [2,3] (spec_l1Add_c (l:=X) (s:=s3) (by omega) ⟨s3a,s3b,s3c⟩) trivial rfl rfl rfl rfl ⟨rFlat (rSp_flat X) rfl (.inl rfl) rfl,trivial⟩ ⟨rSp_flat _,trivial⟩ rfl rfl rfl rfl ?_
  refine gM trivial (.inr rfl) rfl rfl rfl ?_
  refine rg_nil nofun ?_
  refine vc_joinT (fun S_=>∃ (N:List Sp) (q2:Int),N.length≤1048576∧q≤q2∧q2≤q + 5∧S_=⟨4,[(0,.pointer (some ⟨1,0,none⟩)),(3,.slice (some ⟨2,0,none⟩) X.length 0),(4,.int .i64 i),(5,.slice (some ⟨3,0,none⟩) N.length 0)],[(0,false,one ⟨hls k (rY l),t0,0⟩),(1,true,one ⟨[.slice (some ⟨0,k,none⟩) n 0,.int .i64 (q2)],101,2⟩),(2,true,one ⟨rSp X,38,2⟩),(3,true,one ⟨rSp N,38,2⟩)]⟩) ?_ ?_
  ·skip
   refine vc_seq ?_
   refine vc_region hm ?_
   refine gM trivial (.inl rfl) rfl rfl rfl ?_
   obtain ⟨E4,hE4,x4,x4a,x4b,rfl⟩:=pick_c (k:=k) (t0:=t0) (p:=p3) hl hn (by omega) (by omega) (m:=3) (by omega) (by omega)
   refine gCF (ups':=[(1,one ⟨[.slice (some ⟨0,k,none⟩) n 0,.int .i64 (p3 + 1)],101,2⟩)]) (as':=[]) (v':=.int .i64 x4) 4 [0,1] hE4 trivial rfl rfl rfl rfl ⟨rCode rfl rfl,rCells rfl ⟨rfl,rfl,.inr rfl⟩ rfl,trivial⟩ ⟨frOne rfl rfl,trivial⟩ trivial rfl rfl (ho1 ⟨_,rfl⟩) (hu1 rfl) rfl rfl ?_
   refine gI trivial rfl rfl rfl rfl rfl rfl ?_
   refine rg_nil nofun ?_
   refine cI rfl (fun c21=>?_) (fun c21=>?_)
   ·skip
    have p21:=eq_of_beq c21
    refine vc_region hm ?_
    refine gM trivial (.inl rfl) rfl rfl rfl ?_
    refine gM trivial (.inl rfl) rfl rfl rfl ?_
    obtain ⟨E6,hE6,s6,p6,s6a,s6b,s6c,q6a,q6b,rfl⟩:=span_c (k:=k) (t0:=t0) (p:=p3 + 1) hl hn (by omega) (by omega) 
    refine gCF (ups':=[(1,one ⟨[.slice (some ⟨0,k,none⟩) n 0,.int .i64 (p6)],101,2⟩)]) (as':=[]) (v':=vSp s6) 4 [0,1] hE6 trivial rfl rfl rfl rfl ⟨rCode rfl rfl,rCells rfl ⟨rfl,rfl,.inr rfl⟩ rfl,trivial⟩ ⟨frOne rfl rfl,trivial⟩ trivial rfl rfl (ho1 ⟨_,rfl⟩) (hu1 rfl) rfl rfl ?_
    refine gCn 5 [3,4] (spec_l1Cut_c (l:=(l1ofP (putP (ofP X) (ofP [s3]) true))) (s:=s6) l48 ⟨s6a,s6b,s6c⟩) trivial rfl rfl rfl rfl ⟨rFlat (rSp_flat _) rfl (.inl rfl) rfl,trivial⟩ ⟨rSp_flat _,trivial⟩ rfl rfl rfl rfl ?_
    refine gM trivial (.inr rfl) rfl rfl rfl ?_
    refine rg_nil nofun ?_
    exact jn_hereT ⟨(l1ofP (putP (ofP (l1ofP (putP (ofP X) (ofP [s3]) true))) (ofP [s6]) false)),p6,l48,(by omega),(by omega),rfl⟩ (re_nil (ms:=[0,1,2,4]) (C:=999) rfl ⟨⟨⟨rfl,rfl⟩,rfl⟩,⟨⟨rfl,rfl⟩,rfl⟩,⟨⟨rfl,rfl⟩,rfl⟩,⟨⟨rfl,rfl⟩,rfl⟩,trivial⟩ ⟨ktCode rfl rfl,ktRow rfl rfl rfl (BlkW.refl _) id rfl,ktFlat (rSp_flat _) rfl (.inr (.inl rfl)) id rfl,ktFlat (rSp_flat _) rfl (.inr (.inl rfl)) id rfl,trivial⟩ rfl rfl (rig_of rfl) rfl)
   ·skip
    have p21:=ne_of_beq_false c21
    refine vc_skip ?_
    exact jn_hereT ⟨(l1ofP (putP (ofP X) (ofP [s3]) true)),p3 + 1,l48,(by omega),(by omega),rfl⟩ (re_nil (ms:=[0,1,2,3]) (C:=999) rfl ⟨⟨⟨rfl,rfl⟩,rfl⟩,⟨⟨rfl,rfl⟩,rfl⟩,⟨⟨rfl,rfl⟩,rfl⟩,⟨⟨rfl,rfl⟩,rfl⟩,trivial⟩ ⟨ktCode rfl rfl,ktRow rfl rfl rfl (BlkW.refl _) id rfl,ktFlat (rSp_flat _) rfl (.inr (.inl rfl)) id rfl,ktFlat (rSp_flat _) rfl (.inr (.inl rfl)) id rfl,trivial⟩ rfl rfl (rig_of rfl) rfl)
  ·rintro S_ ⟨N,q2,hN,r1,r2,rfl⟩
   refine vc_seq ?_
   refine vc_region hm ?_
   refine gM trivial (.inl rfl) rfl rfl rfl ?_
   refine gC0 [3] (spec_SpansOk_c (l:=N) hN) trivial rfl rfl rfl rfl ⟨rFlat (rSp_flat N) rfl (.inl rfl) rfl,trivial⟩ rfl rfl rfl rfl rfl ?_
   refine rg_nil nofun ?_
   refine cI rfl (fun c27=>?_) (fun c27=>?_)
   ·skip
    refine vc_region hm ?_
    refine gM trivial (.inl rfl) rfl rfl rfl ?_
    refine gM trivial (.inr rfl) rfl rfl rfl ?_
    refine rg_nil nofun ?_
    refine vc_region hm ?_
    refine gM trivial (.inl rfl) rfl rfl rfl ?_
    refine gA trivial rfl rfl rfl rfl rfl rfl (by omega) ?_
    refine gM trivial (.inr rfl) rfl rfl rfl ?_
    refine rg_nil nofun ?_
    exact lp_nextT ⟨N,i - 1,q2,(spansOk_lim c27).1,(spansOk_lim c27).2,(by omega),(by omega),(by omega),(by omega),rfl,rfl⟩ (by omega) (re_nil (ms:=[0,1,3]) (C:=999) rfl ⟨⟨⟨rfl,rfl⟩,rfl⟩,⟨⟨rfl,rfl⟩,rfl⟩,⟨⟨rfl,rfl⟩,rfl⟩,trivial⟩ ⟨ktCode rfl rfl,ktRow rfl rfl rfl (BlkW.refl _) id rfl,ktFlat (rSp_flat _) rfl (.inr (.inl rfl)) id rfl,trivial⟩ rfl rfl (rig_of rfl) rfl)
   ·skip
    refine vc_skip ?_
    refine vc_region hm ?_
    refine gM trivial (.inl rfl) rfl rfl rfl ?_
    refine gA trivial rfl rfl rfl rfl rfl rfl (by omega) ?_
    refine gM trivial (.inr rfl) rfl rfl rfl ?_
    refine rg_nil nofun ?_
    exact lp_nextT ⟨X,i - 1,q2,hX,hY,(by omega),(by omega),(by omega),(by omega),rfl,rfl⟩ (by omega) (re_nil (ms:=[0,1,2]) (C:=999) rfl ⟨⟨⟨rfl,rfl⟩,rfl⟩,⟨⟨rfl,rfl⟩,rfl⟩,⟨⟨rfl,rfl⟩,rfl⟩,trivial⟩ ⟨ktCode rfl rfl,ktRow rfl rfl rfl (BlkW.refl _) id rfl,ktFlat (rSp_flat _) rfl (.inr (.inl rfl)) id rfl,trivial⟩ rfl rfl (rig_of rfl) rfl)
 ·skip
  have p12:=of_decide_eq_false c12
  refine vc_exit ?_
  refine vc_seq ?_
  refine vc_seq ?_
  refine vc_region hm ?_
  refine gM trivial (.inl rfl) rfl rfl rfl ?_
  obtain ⟨E8,hE8,x8,x8a,x8b,rfl⟩:=pick_c (k:=k) (t0:=t0) (p:=q) hl hn (by omega) (by omega) (m:=10) (by omega) (by omega)
  refine gCF (ups':=[(1,one ⟨[.slice (some ⟨0,k,none⟩) n 0,.int .i64 (q + 1)],101,2⟩)]) (as':=[]) (v':=.int .i64 x8) 3 [0,1] hE8 trivial rfl rfl rfl rfl ⟨rCode rfl rfl,rCells rfl ⟨rfl,rfl,.inr rfl⟩ rfl,trivial⟩ ⟨frOne rfl rfl,trivial⟩ trivial rfl rfl (ho1 ⟨_,rfl⟩) (hu1 rfl) rfl rfl ?_
  refine gI trivial rfl rfl rfl rfl rfl rfl ?_
  refine rg_nil nofun ?_
  refine cI rfl (fun c31=>?_) (fun c31=>?_)
  ·skip
   have p31:=eq_of_beq c31
   refine vc_seq ?_
   refine vc_region hm ?_
   refine gR (u':=4) (out:=rSp []) trivial rfl rfl rfl rfl rfl rfl rfl rfl rfl rfl rfl rfl rfl rfl ?_
   refine gM trivial (.inr rfl) rfl rfl rfl ?_
   refine rg_nil nofun ?_
   refine vc_seq ?_
   refine vc_region hm ?_
   refine gM trivial (.inr rfl) rfl rfl rfl ?_
   refine rg_nil nofun ?_
   refine vc_block ?_
   refine vc_loopT (fun n_ S_=>∃ (Y:List Sp) (j q3:Int),(Y.length:Int)=j∧0≤j∧j≤12∧(∀ s ∈ Y,0≤s.hi∧s.hi≤48)∧q≤q3∧q3≤q + 2 + j∧n_=(13 - j).toNat∧S_=⟨3,[(0,.pointer (some ⟨1,0,none⟩)),(3,.slice (some ⟨2,0,none⟩) Y.length 0),(6,.int .i64 j)],[(0,false,one ⟨hls k (rY l),t0,0⟩),(1,true,one ⟨[.slice (some ⟨0,k,none⟩) n 0,.int .i64 (q3)],101,2⟩),(2,true,one ⟨rSp Y,38,2⟩)]⟩) ⟨[],0,q + 1,rfl,(Int.le_refl _),(by omega),(fun _ h=>nomatch h),(by omega),(by omega),rfl,rfl⟩ (re_nil (ms:=[0,1,3]) (C:=999) rfl ⟨⟨⟨rfl,rfl⟩,rfl⟩,⟨⟨rfl,rfl⟩,rfl⟩,⟨⟨rfl,rfl⟩,rfl⟩,trivial⟩ ⟨ktCode rfl rfl,ktRow rfl rfl rfl (BlkW.refl _) id rfl,ktFlat (rSp_flat _) rfl (.inr (.inl rfl)) id rfl,trivial⟩ rfl rfl (rig_of rfl) rfl) ?_
   rintro n_ S_ ⟨Y,j,q3,hj,h0,h1,hZ,hq3,hr3,rfl,rfl⟩
   refine vc_seq ?_
   refine vc_seq ?_
   refine vc_region hm ?_
   refine gM trivial (.inl rfl) rfl rfl rfl ?_
   refine gM trivial (.inl rfl) rfl rfl rfl ?_
   obtain ⟨E10,hE10,x10,x10a,x10b,rfl⟩:=pick_c (k:=k) (t0:=t0) (p:=q3) hl hn (by omega) (by omega) (m:=2) (by omega) (by omega)
   refine gCF (ups':=[(1,one ⟨[.slice (some ⟨0,k,none⟩) n 0,.int .i64 (q3 + 1)],101,2⟩)]) (as':=[]) (v':=.int .i64 x10) 3 [0,1] hE10 trivial rfl rfl rfl rfl ⟨rCode rfl rfl,rCells rfl ⟨rfl,rfl,.inr rfl⟩ rfl,trivial⟩ ⟨frOne rfl rfl,trivial⟩ trivial rfl rfl (ho1 ⟨_,rfl⟩) (hu1 rfl) rfl rfl ?_
   refine gA trivial rfl rfl rfl rfl rfl rfl (by omega) ?_
   refine gI trivial rfl rfl rfl rfl rfl rfl ?_
   refine rg_nil nofun ?_
   refine cI rfl (fun c37=>?_) (fun c37=>?_)
   ·skip
    have p37:=of_decide_eq_true c37
    refine vc_skip ?_
    refine vc_seq ?_
    refine vc_block ?_
    refine vc_region hm ?_
    refine gM trivial (.inl rfl) rfl rfl rfl ?_
    refine gM trivial (.inl rfl) rfl rfl rfl ?_
    refine gA trivial rfl rfl rfl rfl rfl rfl (by omega) ?_
    refine gM trivial (.inl rfl) rfl rfl rfl ?_
    refine gA trivial rfl rfl rfl rfl rfl rfl (by omega) ?_
    refine gA trivial rfl rfl rfl rfl rfl rfl (by omega) ?_
    refine gU trivial rfl rfl rfl rfl rfl rfl rfl rfl ?_
    refine gR (u':=4) (out:=rSp [⟨3 * j,3 * j + 1⟩]) trivial rfl rfl rfl rfl rfl rfl rfl rfl rfl rfl rfl rfl rfl rfl ?_
    refine gAp (u':=5) trivial rfl rfl rfl rfl rfl rfl rfl rfl rfl rfl rfl rfl (by rw [rowL_len (n:=2) (fun _=>rfl)]) (Nat.le_refl _) rfl (show (Y.length + 1) * (16 + 1)≤140737488355328 by omega) (row_snoc (enc:=eSp) (x:=⟨3 * j,3 * j + 1⟩)) rfl ?_
    refine gM trivial (.inr rfl) rfl rfl rfl ?_
    refine rg_nil nofun ?_
    refine vc_region hm ?_
    refine gM trivial (.inl rfl) rfl rfl rfl ?_
    refine gA trivial rfl rfl rfl rfl rfl rfl (by omega) ?_
    refine gM trivial (.inr rfl) rfl rfl rfl ?_
    refine rg_nil nofun ?_
    exact lp_nextT ⟨Y ++ [⟨3 * j,3 * j + 1⟩],j + 1,q3 + 1,(by rw [List.length_append];show ((Y.length + 1:Nat):Int)=j + 1;omega),(by omega),(by omega),(lst_snoc hZ (by show 0≤3 * j + 1∧3 * j + 1≤48;omega)),(by omega),(by omega),rfl,rfl⟩ (by omega) (re_nil (ms:=[0,1,4]) (C:=999) rfl ⟨⟨⟨rfl,rfl⟩,rfl⟩,⟨⟨rfl,by rw [List.length_append];rfl⟩,rfl⟩,⟨⟨rfl,rfl⟩,rfl⟩,trivial⟩ ⟨ktCode rfl rfl,ktRow rfl rfl rfl (BlkW.refl _) id rfl,ktFlat (rSp_flat _) rfl (.inr (.inl rfl)) id rfl,trivial⟩ rfl rfl (rig_of rfl) rfl)
   ·skip
    have p37:=of_decide_eq_false c37
    refine vc_exit ?_
    refine vc_seq ?_
    refine vc_region hm ?_
    refine gM trivial (.inl rfl) rfl rfl rfl ?_
    refine gM trivial (.inr rfl) rfl rfl rfl ?_
    refine rg_nil nofun ?_
    refine vc_ret ?_
    exact ⟨mkF (.slice (some ⟨2,0,none⟩) Y.length 0) [0] [(1,one ⟨[.slice (some ⟨0,k,none⟩) n 0,.int .i64 (q3 + 1)],101,2⟩)] [(2,one ⟨rSp Y,38,2⟩)],_,endsT [(2,2,one ⟨rSp Y,38,2⟩)] (.inr rfl) (.tmp rfl rfl .nil) rfl rfl ⟨upOne rfl rfl rfl,trivial⟩ ⟨asFlat rfl (rSp_flat _),trivial⟩ rfl,Y,_,(by omega),hZ,(by omega),(by omega),rfl⟩
  ·skip
   have p31:=ne_of_beq_false c31
   refine vc_skip ?_
   refine vc_seq ?_
   refine vc_region hm ?_
   refine gM trivial (.inl rfl) rfl rfl rfl ?_
   refine gM trivial (.inr rfl) rfl rfl rfl ?_
   refine rg_nil nofun ?_
   refine vc_ret ?_
   exact ⟨mkF (.slice (some ⟨2,0,none⟩) X.length 0) [0] [(1,one ⟨[.slice (some ⟨0,k,none⟩) n 0,.int .i64 (q + 1)],101,2⟩)] [(2,one ⟨rSp X,38,2⟩)],_,endsT [(2,2,one ⟨rSp X,38,2⟩)] (.inr rfl) (.tmp rfl rfl .nil) rfl rfl ⟨upOne rfl rfl rfl,trivial⟩ ⟨asFlat rfl (rSp_flat _),trivial⟩ rfl,X,_,hX,hY,(by omega),(by omega),rfl⟩
theorem ofS_c {l:List Int} {k n t0:Nat} {p:Int} (hl:ByL l) (hn:n≤l.length) (hp0:0≤p) (hp1:p≤998000) {L:List ByteArray} {lo hi:Nat} (hL:1≤L.length∧L.length≤1000) (hb:∀ x ∈ L,lo≤x.size∧x.size≤hi):∃ E,FDoes Try.prog 97 [.pointer (some ⟨1,0,none⟩),.slice (some ⟨2,0,none⟩) L.length 0] (hp [(0,false,one ⟨hls k (rY l),t0,0⟩),(1,true,one ⟨[.slice (some ⟨0,k,none⟩) n 0,.int .i64 (p)],101,2⟩),(2,false,one ⟨rS L,9,0⟩)]) E∧∃ x:ByteArray,lo≤x.size∧x.size≤hi∧E=mkF (.string x) [0,2] [(1,one ⟨[.slice (some ⟨0,k,none⟩) n 0,.int .i64 (p + 1)],101,2⟩)] []:=by
 have hm:Try.prog.follows .mixedOrders=true:=by kernel_rfl
 have hd_:∀ x_ ∈ ([(0,false,one ⟨hls k (rY l),t0,0⟩),(1,true,one ⟨[.slice (some ⟨0,k,none⟩) n 0,.int .i64 (p)],101,2⟩),(2,false,one ⟨rS L,9,0⟩)]:List (Nat × Bool × Fam)),∀ k_ y_,x_.2.2 k_=some y_→DetB (lt 3) y_:=by
  intro x_ hx k_ y_ e
  simp only [List.mem_cons,List.not_mem_nil,or_false] at hx
  rcases hx with rfl|rfl|rfl
  ·exact det_code e
  ·exact det_ok rfl e
  ·exact det_row (rS_flat L) e
 refine fn_some (u0:=3) Try.func97 rfl rfl (gets rfl rfl rfl hd_ rfl) ?_
 clear hd_
 refine vc_seq ?_
 refine vc_region hm ?_
 refine gM trivial (.inr rfl) rfl rfl rfl ?_
 refine rg_nil nofun ?_
 refine vc_seq ?_
 refine vc_region hm ?_
 refine gM trivial (.inl rfl) rfl rfl rfl ?_
 refine gM trivial (.inl rfl) rfl rfl rfl ?_
 refine gM trivial (.inl rfl) rfl rfl rfl ?_
 refine gK trivial rfl rfl rfl rfl rfl rfl rS_nil ?_
 obtain ⟨E1,hE1,x1,x1a,x1b,rfl⟩:=pick_c (k:=k) (t0:=t0) (p:=p) hl hn (by omega) (by omega) (m:=L.length) (by omega) (by omega)
 refine gCF (ups':=[(1,one ⟨[.slice (some ⟨0,k,none⟩) n 0,.int .i64 (p + 1)],101,2⟩)]) (as':=[]) (v':=.int .i64 x1) 3 [0,1] hE1 trivial rfl rfl rfl rfl ⟨rCode rfl rfl,rCells rfl ⟨rfl,rfl,.inr rfl⟩ rfl,trivial⟩ ⟨frOne rfl rfl,trivial⟩ trivial rfl rfl (ho1 ⟨_,rfl⟩) (hu1 rfl) rfl rfl ?_
 refine gX trivial rfl rfl rfl rfl rfl rfl rfl rfl (by omega) (by omega) rS_ne ?_
 refine gL trivial rfl rfl rfl rfl rfl rfl rfl (lS (by omega) (by omega)) ?_
 refine gM trivial (.inr rfl) rfl rfl rfl ?_
 refine rg_nil nofun ?_
 refine vc_ret ?_
 exact ⟨mkF (.string (at_ L x1)) [0,2] [(1,one ⟨[.slice (some ⟨0,k,none⟩) n 0,.int .i64 (p + 1)],101,2⟩)] [],_,endsT [] (.inr rfl) (.tmp rfl rfl .nil) rfl rfl ⟨upOne rfl rfl rfl,trivial⟩ trivial rfl,_,(hb _ (at_mem (by omega) (by omega))).1,(hb _ (at_mem (by omega) (by omega))).2,rfl⟩
theorem text_c {l:List Int} {k n t0:Nat} {p:Int} (hl:ByL l) (hn:n≤l.length) (hp0:0≤p) (hp1:p≤997000) {most:Int} (hm0:0≤most) (hm1:most≤100):∃ E,FDoes Try.prog 102 [.pointer (some ⟨1,0,none⟩),.int .i64 most] (hp [(0,false,one ⟨hls k (rY l),t0,0⟩),(1,true,one ⟨[.slice (some ⟨0,k,none⟩) n 0,.int .i64 (p)],101,2⟩)]) E∧∃ (t:ByteArray) (p2:Int),t.size≤100∧p≤p2∧p2≤p + 110∧E=mkF (.string t) [0] [(1,one ⟨[.slice (some ⟨0,k,none⟩) n 0,.int .i64 (p2)],101,2⟩)] []:=by
 have hm:Try.prog.follows .mixedOrders=true:=by kernel_rfl
 have hd_:∀ x_ ∈ ([(0,false,one ⟨hls k (rY l),t0,0⟩),(1,true,one ⟨[.slice (some ⟨0,k,none⟩) n 0,.int .i64 (p)],101,2⟩)]:List (Nat × Bool × Fam)),∀ k_ y_,x_.2.2 k_=some y_→DetB (lt 2) y_:=by
  intro x_ hx k_ y_ e
  simp only [List.mem_cons,List.not_mem_nil,or_false] at hx
  rcases hx with rfl|rfl
  ·exact det_code e
  ·exact det_ok rfl e
 refine fn_some (u0:=2) Try.func102 rfl rfl (gets rfl rfl rfl hd_ rfl) ?_
 clear hd_
 refine vc_seq ?_
 refine vc_region hm ?_
 refine gM trivial (.inr rfl) rfl rfl rfl ?_
 refine rg_nil nofun ?_
 refine vc_seq ?_
 refine vc_region hm ?_
 refine gM trivial (.inr rfl) rfl rfl rfl ?_
 refine rg_nil nofun ?_
 refine vc_seq ?_
 refine vc_seq ?_
 refine vc_region hm ?_
 refine gM trivial (.inl rfl) rfl rfl rfl ?_
 refine gM trivial (.inl rfl) rfl rfl rfl ?_
 refine gA trivial rfl rfl rfl rfl rfl rfl (by omega) ?_
 obtain ⟨E1,hE1,x1,x1a,x1b,rfl⟩:=pick_c (k:=k) (t0:=t0) (p:=p) hl hn (by omega) (by omega) (m:=(most + 1)) (by omega) (by omega)
 refine gCF (ups':=[(1,one ⟨[.slice (some ⟨0,k,none⟩) n 0,.int .i64 (p + 1)],101,2⟩)]) (as':=[]) (v':=.int .i64 x1) 2 [0,1] hE1 trivial rfl rfl rfl rfl ⟨rCode rfl rfl,rCells rfl ⟨rfl,rfl,.inr rfl⟩ rfl,trivial⟩ ⟨frOne rfl rfl,trivial⟩ trivial rfl rfl (ho1 ⟨_,rfl⟩) (hu1 rfl) rfl rfl ?_
 refine gM trivial (.inr rfl) rfl rfl rfl ?_
 refine rg_nil nofun ?_
 refine vc_block ?_
 refine vc_loopT (fun n_ S_=>∃ (t:ByteArray) (i q:Int),(t.size:Int)≤most - i∧0≤i∧i≤most∧p≤q∧q≤p + 1 + (most - i)∧n_=i.toNat∧S_=⟨2,[(0,.pointer (some ⟨1,0,none⟩)),(5,.string t),(6,.int .i64 i)],[(0,false,one ⟨hls k (rY l),t0,0⟩),(1,true,one ⟨[.slice (some ⟨0,k,none⟩) n 0,.int .i64 (q)],101,2⟩)]⟩) ⟨⟨#[]⟩,x1,p + 1,(show (0:Int)≤_ by omega),(by omega),(by omega),(by omega),(by omega),rfl,rfl⟩ (re_nil (ms:=[0,1]) (C:=999) rfl ⟨⟨⟨rfl,rfl⟩,rfl⟩,⟨⟨rfl,rfl⟩,rfl⟩,⟨⟨rfl,rfl⟩,rfl⟩,trivial⟩ ⟨ktCode rfl rfl,ktRow rfl rfl rfl (BlkW.refl _) id rfl,trivial⟩ rfl rfl (rig_of rfl) rfl) ?_
 rintro n_ S_ ⟨t,i,q,ht,hi0,hi,hq,hr,rfl,rfl⟩
 refine vc_seq ?_
 refine vc_seq ?_
 refine vc_region hm ?_
 refine gM trivial (.inl rfl) rfl rfl rfl ?_
 refine gI trivial rfl rfl rfl rfl rfl rfl ?_
 refine rg_nil nofun ?_
 refine cI rfl (fun c12=>?_) (fun c12=>?_)
 ·skip
  have p12:=of_decide_eq_true c12
  refine vc_skip ?_
  refine vc_seq ?_
  refine vc_block ?_
  refine vc_region hm ?_
  refine gM trivial (.inl rfl) rfl rfl rfl ?_
  refine gM trivial (.inl rfl) rfl rfl rfl ?_
  refine gR (u':=3) (out:=rS [⟨#[97]⟩,⟨#[98]⟩,⟨#[99]⟩,⟨#[55]⟩,⟨#[46]⟩,⟨#[122]⟩]) trivial rfl rfl rfl rfl rfl rfl rfl rfl rfl rfl rfl rfl rfl rfl ?_
  obtain ⟨E3,hE3,t3,t3a,t3b,rfl⟩:=ofS_c (k:=k) (t0:=t0) (p:=q) hl hn (by omega) (by omega) (L:=[⟨#[97]⟩,⟨#[98]⟩,⟨#[99]⟩,⟨#[55]⟩,⟨#[46]⟩,⟨#[122]⟩]) (lo:=1) (hi:=1) (by decide) (by decide)
  refine gCF (ups':=[(1,one ⟨[.slice (some ⟨0,k,none⟩) n 0,.int .i64 (q + 1)],101,2⟩)]) (as':=[]) (v':=.string t3) 3 [0,1,2] hE3 trivial rfl rfl rfl rfl ⟨rCode rfl rfl,rCells rfl ⟨rfl,rfl,.inr rfl⟩ rfl,rFlat (rS_flat _) rfl (.inl rfl) rfl,trivial⟩ ⟨frOne rfl rfl,trivial⟩ trivial rfl rfl (ho1 ⟨_,rfl⟩) (hu1 rfl) rfl rfl ?_
  refine gCat trivial rfl rfl rfl rfl rfl (by omega) ?_
  refine gM trivial (.inr rfl) rfl rfl rfl ?_
  refine rg_nil nofun ?_
  refine vc_region hm ?_
  refine gM trivial (.inl rfl) rfl rfl rfl ?_
  refine gA trivial rfl rfl rfl rfl rfl rfl (by omega) ?_
  refine gM trivial (.inr rfl) rfl rfl rfl ?_
  refine rg_nil nofun ?_
  exact lp_nextT ⟨(t ++ t3),i - 1,q + 1,(by rw [ByteArray.size_append];omega),(by omega),(by omega),(by omega),(by omega),rfl,rfl⟩ (by omega) (re_nil (ms:=[0,1]) (C:=999) rfl ⟨⟨⟨rfl,rfl⟩,rfl⟩,⟨⟨rfl,rfl⟩,rfl⟩,⟨⟨rfl,rfl⟩,rfl⟩,trivial⟩ ⟨ktCode rfl rfl,ktRow rfl rfl rfl (BlkW.refl _) id rfl,trivial⟩ rfl rfl (rig_of rfl) rfl)
 ·skip
  have p12:=of_decide_eq_false c12
  refine vc_exit ?_
  refine vc_seq ?_
  refine vc_region hm ?_
  refine gM trivial (.inl rfl) rfl rfl rfl ?_
  refine gM trivial (.inr rfl) rfl rfl rfl ?_
  refine rg_nil nofun ?_
  refine vc_ret ?_
  exact ⟨mkF (.string t) [0] [(1,one ⟨[.slice (some ⟨0,k,none⟩) n 0,.int .i64 (q)],101,2⟩)] [],_,endsT [] (.inr rfl) (.tmp rfl rfl .nil) rfl rfl ⟨upOne rfl rfl rfl,trivial⟩ trivial rfl,t,_,(by omega),(by omega),(by omega),rfl⟩
theorem long_c {s0:ByteArray} {n:Int} (hs:s0.size≤100) (h0:0≤n) (h1:n≤100):∃ E,FDoes Try.prog 89 [.string s0,.int .i64 n] (hp []) E∧∃ t:ByteArray,t.size≤100∧E=mkF (.string t) [] [] []:=by
 have hm:Try.prog.follows .mixedOrders=true:=by kernel_rfl
 have hd_:∀ x ∈ ([]:List (Nat × Bool × Fam)),∀ k y,x.2.2 k=some y→DetB (lt 0) y:=fun x_ hx=>(by cases hx)
 refine fn_some (u0:=0) Try.func89 rfl rfl (gets rfl rfl rfl hd_ rfl) ?_
 clear hd_
 refine vc_seq ?_
 refine vc_region hm ?_
 refine gM trivial (.inr rfl) rfl rfl rfl ?_
 refine rg_nil nofun ?_
 refine vc_seq ?_
 refine vc_block ?_
 refine vc_loop' (fun n_ S_=>∃ (t:ByteArray),t.size≤100∧n_=(n - t.size).toNat∧S_=⟨0,[(0,.string t),(1,.int .i64 n)],[]⟩) (m0:=idm) ⟨s0,hs,rfl,rfl⟩ (le_mk rfl ⟨⟨rfl,rfl⟩,⟨rfl,rfl⟩,trivial⟩ trivial rfl (fun _ _=>rfl)) ?_
 rintro n_ S_ ⟨t,ht,rfl,rfl⟩
 refine vc_seq ?_
 refine vc_seq ?_
 refine vc_region hm ?_
 refine gM trivial (.inl rfl) rfl rfl rfl ?_
 refine gKT trivial rfl rfl rfl rfl rfl ?_
 refine gM trivial (.inl rfl) rfl rfl rfl ?_
 refine gI trivial rfl rfl rfl rfl rfl rfl ?_
 refine rg_nil nofun ?_
 refine cI rfl (fun c8=>?_) (fun c8=>?_)
 ·skip
  have p8:=of_decide_eq_true c8
  refine vc_skip ?_
  refine vc_block ?_
  refine vc_region hm ?_
  refine gM trivial (.inl rfl) rfl rfl rfl ?_
  refine gCat trivial rfl rfl rfl rfl rfl (show t.size + 1≤_ by omega) ?_
  refine gM trivial (.inr rfl) rfl rfl rfl ?_
  refine rg_nil nofun ?_
  exact lp_next (m:=idm) ⟨(t ++ ⟨#[46]⟩),(by rw [ByteArray.size_append];show t.size + 1≤100;omega),rfl,rfl⟩ (by rw [ByteArray.size_append];show (n - ((t.size + 1:Nat):Int)).toNat<_;omega) (le_mk rfl ⟨⟨rfl,rfl⟩,⟨rfl,rfl⟩,trivial⟩ trivial rfl (fun _ _=>rfl))
 ·skip
  have p8:=of_decide_eq_false c8
  refine vc_exit ?_
  refine vc_seq ?_
  refine vc_region hm ?_
  refine gM trivial (.inl rfl) rfl rfl rfl ?_
  refine gM trivial (.inr rfl) rfl rfl rfl ?_
  refine rg_nil nofun ?_
  refine vc_ret ?_
  exact ⟨mkF (.string t) [] [] [],_,endsT (ups:=[]) (rd:=[]) [] (.inr rfl) (.tmp rfl rfl .nil) rfl rfl trivial trivial rfl,t,ht,rfl⟩
theorem someT_c {l:List Int} {k n t0:Nat} {p:Int} (hl:ByL l) (hn:n≤l.length) (hp0:0≤p) (hp1:p≤996000):∃ E,FDoes Try.prog 95 [.pointer (some ⟨1,0,none⟩)] (hp [(0,false,one ⟨hls k (rY l),t0,0⟩),(1,true,one ⟨[.slice (some ⟨0,k,none⟩) n 0,.int .i64 (p)],101,2⟩)]) E∧∃ (t:ByteArray) (p2:Int),t.size≤200∧p≤p2∧p2≤p + 130∧E=mkF (.string t) [0] [(1,one ⟨[.slice (some ⟨0,k,none⟩) n 0,.int .i64 (p2)],101,2⟩)] []:=by
 have hm:Try.prog.follows .mixedOrders=true:=by kernel_rfl
 have hd_:∀ x_ ∈ ([(0,false,one ⟨hls k (rY l),t0,0⟩),(1,true,one ⟨[.slice (some ⟨0,k,none⟩) n 0,.int .i64 (p)],101,2⟩)]:List (Nat × Bool × Fam)),∀ k_ y_,x_.2.2 k_=some y_→DetB (lt 2) y_:=by
  intro x_ hx k_ y_ e
  simp only [List.mem_cons,List.not_mem_nil,or_false] at hx
  rcases hx with rfl|rfl
  ·exact det_code e
  ·exact det_ok rfl e
 refine fn_some (u0:=2) Try.func95 rfl rfl (gets rfl rfl rfl hd_ rfl) ?_
 clear hd_
 refine vc_seq ?_
 refine vc_region hm ?_
 refine gM trivial (.inr rfl) rfl rfl rfl ?_
 refine rg_nil nofun ?_
 refine vc_seq ?_
 refine vc_region hm ?_
 refine gM trivial (.inl rfl) rfl rfl rfl ?_
 refine gM trivial (.inl rfl) rfl rfl rfl ?_
 refine gR (u':=3) (out:=rI [6,12,20,30,48]) trivial rfl rfl rfl rfl rfl rfl rfl rfl rfl rfl rfl rfl rfl rfl ?_
 obtain ⟨E1,hE1,x1,x1a,x1b,rfl⟩:=num_c (k:=k) (t0:=t0) (p:=p) hl hn (by omega) (by omega) (L:=[6,12,20,30,48]) (a:=0) (b:=48) (by decide) (by decide)
 refine gCF (ups':=[(1,one ⟨[.slice (some ⟨0,k,none⟩) n 0,.int .i64 (p + 1)],101,2⟩)]) (as':=[]) (v':=.int .i64 x1) 3 [0,1,2] hE1 trivial rfl rfl rfl rfl ⟨rCode rfl rfl,rCells rfl ⟨rfl,rfl,.inr rfl⟩ rfl,rFlat (rI_flat _) rfl (.inl rfl) rfl,trivial⟩ ⟨frOne rfl rfl,trivial⟩ trivial rfl rfl (ho1 ⟨_,rfl⟩) (hu1 rfl) rfl rfl ?_
 obtain ⟨E2,hE2,t2,p2,t2a,q2a,q2b,rfl⟩:=text_c (k:=k) (t0:=t0) (p:=p + 1) hl hn (by omega) (by omega) (most:=x1) (by omega) (by omega)
 refine gCF (ups':=[(1,one ⟨[.slice (some ⟨0,k,none⟩) n 0,.int .i64 (p2)],101,2⟩)]) (as':=[]) (v':=.string t2) 3 [0,1] hE2 trivial rfl rfl rfl rfl ⟨rCode rfl rfl,rCells rfl ⟨rfl,rfl,.inr rfl⟩ rfl,trivial⟩ ⟨frOne rfl rfl,trivial⟩ trivial rfl rfl (ho1 ⟨_,rfl⟩) (hu1 rfl) rfl rfl ?_
 refine gM trivial (.inr rfl) rfl rfl rfl ?_
 refine rg_nil nofun ?_
 refine vc_seq ?_
 refine vc_seq ?_
 refine vc_region hm ?_
 refine gM trivial (.inl rfl) rfl rfl rfl ?_
 obtain ⟨E3,hE3,x3,x3a,x3b,rfl⟩:=pick_c (k:=k) (t0:=t0) (p:=p2) hl hn (by omega) (by omega) (m:=60) (by omega) (by omega)
 refine gCF (ups':=[(1,one ⟨[.slice (some ⟨0,k,none⟩) n 0,.int .i64 (p2 + 1)],101,2⟩)]) (as':=[]) (v':=.int .i64 x3) 3 [0,1] hE3 trivial rfl rfl rfl rfl ⟨rCode rfl rfl,rCells rfl ⟨rfl,rfl,.inr rfl⟩ rfl,trivial⟩ ⟨frOne rfl rfl,trivial⟩ trivial rfl rfl (ho1 ⟨_,rfl⟩) (hu1 rfl) rfl rfl ?_
 refine rg_nil nofun ?_
 refine vc_block ?_
 refine vc_seq ?_
 refine vc_region hm ?_
 refine gI trivial rfl rfl rfl rfl rfl rfl ?_
 refine gM trivial (.inr rfl) rfl rfl rfl ?_
 refine rg_nil nofun ?_
 refine cI rfl (fun c11=>?_) (fun c11=>?_)
 ·skip
  have p11:=eq_of_beq c11
  refine vc_seq ?_
  refine vc_region hm ?_
  refine gM trivial (.inl rfl) rfl rfl rfl ?_
  refine gCat trivial rfl rfl rfl rfl rfl (by show _ + 1≤_;omega) ?_
  refine gM trivial (.inr rfl) rfl rfl rfl ?_
  refine rg_nil nofun ?_
  refine vc_ret ?_
  exact ⟨mkF (.string (t2 ++ ⟨#[65]⟩)) [0] [(1,one ⟨[.slice (some ⟨0,k,none⟩) n 0,.int .i64 (p2 + 1)],101,2⟩)] [],_,endsT [] (.inr rfl) (.tmp rfl rfl .nil) rfl rfl ⟨upOne rfl rfl rfl,trivial⟩ trivial rfl,(t2 ++ ⟨#[65]⟩),_,(by rw [ByteArray.size_append];show t2.size + 1≤200;omega),(by omega),(by omega),rfl⟩
 ·skip
  have p11:=ne_of_beq_false c11
  refine vc_seq ?_
  refine vc_region hm ?_
  refine gI trivial rfl rfl rfl rfl rfl rfl ?_
  refine gM trivial (.inr rfl) rfl rfl rfl ?_
  refine rg_nil nofun ?_
  refine cI rfl (fun c15=>?_) (fun c15=>?_)
  ·skip
   have p15:=eq_of_beq c15
   refine vc_seq ?_
   refine vc_region hm ?_
   refine gM trivial (.inl rfl) rfl rfl rfl ?_
   refine gCat trivial rfl rfl rfl rfl rfl (by show _ + 1≤_;omega) ?_
   refine gM trivial (.inr rfl) rfl rfl rfl ?_
   refine rg_nil nofun ?_
   refine vc_ret ?_
   exact ⟨mkF (.string (t2 ++ ⟨#[32]⟩)) [0] [(1,one ⟨[.slice (some ⟨0,k,none⟩) n 0,.int .i64 (p2 + 1)],101,2⟩)] [],_,endsT [] (.inr rfl) (.tmp rfl rfl .nil) rfl rfl ⟨upOne rfl rfl rfl,trivial⟩ trivial rfl,(t2 ++ ⟨#[32]⟩),_,(by rw [ByteArray.size_append];show t2.size + 1≤200;omega),(by omega),(by omega),rfl⟩
  ·skip
   have p15:=ne_of_beq_false c15
   refine vc_seq ?_
   refine vc_region hm ?_
   refine gI trivial rfl rfl rfl rfl rfl rfl ?_
   refine gM trivial (.inr rfl) rfl rfl rfl ?_
   refine rg_nil nofun ?_
   refine cI rfl (fun c19=>?_) (fun c19=>?_)
   ·skip
    have p19:=eq_of_beq c19
    refine vc_seq ?_
    refine vc_region hm ?_
    refine gM trivial (.inl rfl) rfl rfl rfl ?_
    obtain ⟨En7,hEn7,tn7,tn7a,rfl⟩:=long_c (s0:=t2) (n:=49) (by first|omega|decide) (by omega) (by omega)
    refine gCF (ups':=[]) (as':=[]) (v':=.string tn7) 3 [] hEn7 trivial rfl rfl rfl rfl trivial trivial trivial rfl rfl (fun x hx=>nomatch hx) (fun x hx=>nomatch hx) rfl rfl ?_
    refine gM trivial (.inr rfl) rfl rfl rfl ?_
    refine rg_nil nofun ?_
    refine vc_ret ?_
    exact ⟨mkF (.string tn7) [0] [(1,one ⟨[.slice (some ⟨0,k,none⟩) n 0,.int .i64 (p2 + 1)],101,2⟩)] [],_,endsT [] (.inr rfl) (.tmp rfl rfl .nil) rfl rfl ⟨upOne rfl rfl rfl,trivial⟩ trivial rfl,tn7,_,(by omega),(by omega),(by omega),rfl⟩
   ·skip
    have p19:=ne_of_beq_false c19
    refine vc_skip ?_
    refine vc_seq ?_
    refine vc_region hm ?_
    refine gM trivial (.inl rfl) rfl rfl rfl ?_
    refine gM trivial (.inr rfl) rfl rfl rfl ?_
    refine rg_nil nofun ?_
    refine vc_ret ?_
    exact ⟨mkF (.string t2) [0] [(1,one ⟨[.slice (some ⟨0,k,none⟩) n 0,.int .i64 (p2 + 1)],101,2⟩)] [],_,endsT [] (.inr rfl) (.tmp rfl rfl .nil) rfl rfl ⟨upOne rfl rfl rfl,trivial⟩ trivial rfl,t2,_,(by omega),(by omega),(by omega),rfl⟩
theorem four_le {t:ByteArray} (h:t.size≤100):∀ x ∈ ([⟨#[]⟩,⟨#[65]⟩,⟨#[97,32,98]⟩,t]:List ByteArray),0≤x.size∧x.size≤100:=fun x hx=>by
 simp only [List.mem_cons,List.not_mem_nil,or_false] at hx
 rcases hx with rfl|rfl|rfl|rfl
 ·exact ⟨Nat.zero_le _,Nat.le_of_ble_eq_true rfl⟩
 ·exact ⟨Nat.zero_le _,Nat.le_of_ble_eq_true rfl⟩
 ·exact ⟨Nat.zero_le _,Nat.le_of_ble_eq_true rfl⟩
 ·exact ⟨Nat.zero_le _,h⟩
theorem data_c {l:List Int} {k n t0:Nat} {p:Int} (hl:ByL l) (hn:n≤l.length) (hp0:0≤p) (hp1:p≤996000):∃ E,FDoes Try.prog 93 [.pointer (some ⟨1,0,none⟩)] (hp [(0,false,one ⟨hls k (rY l),t0,0⟩),(1,true,one ⟨[.slice (some ⟨0,k,none⟩) n 0,.int .i64 (p)],101,2⟩)]) E∧∃ (t:ByteArray) (p2:Int),t.size≤200∧p≤p2∧p2≤p + 130∧E=mkF (.string t) [0] [(1,one ⟨[.slice (some ⟨0,k,none⟩) n 0,.int .i64 (p2)],101,2⟩)] []:=by
 have hm:Try.prog.follows .mixedOrders=true:=by kernel_rfl
 have hd_:∀ x_ ∈ ([(0,false,one ⟨hls k (rY l),t0,0⟩),(1,true,one ⟨[.slice (some ⟨0,k,none⟩) n 0,.int .i64 (p)],101,2⟩)]:List (Nat × Bool × Fam)),∀ k_ y_,x_.2.2 k_=some y_→DetB (lt 2) y_:=by
  intro x_ hx k_ y_ e
  simp only [List.mem_cons,List.not_mem_nil,or_false] at hx
  rcases hx with rfl|rfl
  ·exact det_code e
  ·exact det_ok rfl e
 refine fn_some (u0:=2) Try.func93 rfl rfl (gets rfl rfl rfl hd_ rfl) ?_
 clear hd_
 refine vc_seq ?_
 refine vc_region hm ?_
 refine gM trivial (.inr rfl) rfl rfl rfl ?_
 refine rg_nil nofun ?_
 refine vc_seq ?_
 refine vc_seq ?_
 refine vc_region hm ?_
 refine gM trivial (.inl rfl) rfl rfl rfl ?_
 obtain ⟨E1,hE1,x1,x1a,x1b,rfl⟩:=pick_c (k:=k) (t0:=t0) (p:=p) hl hn (by omega) (by omega) (m:=24) (by omega) (by omega)
 refine gCF (ups':=[(1,one ⟨[.slice (some ⟨0,k,none⟩) n 0,.int .i64 (p + 1)],101,2⟩)]) (as':=[]) (v':=.int .i64 x1) 2 [0,1] hE1 trivial rfl rfl rfl rfl ⟨rCode rfl rfl,rCells rfl ⟨rfl,rfl,.inr rfl⟩ rfl,trivial⟩ ⟨frOne rfl rfl,trivial⟩ trivial rfl rfl (ho1 ⟨_,rfl⟩) (hu1 rfl) rfl rfl ?_
 refine gI trivial rfl rfl rfl rfl rfl rfl ?_
 refine rg_nil nofun ?_
 refine cI rfl (fun c5=>?_) (fun c5=>?_)
 ·skip
  have p5:=eq_of_beq c5
  refine vc_seq ?_
  refine vc_region hm ?_
  refine gM trivial (.inl rfl) rfl rfl rfl ?_
  obtain ⟨En3,hEn3,tn3,tn3a,rfl⟩:=long_c (s0:=⟨#[97]⟩) (n:=49) (by first|omega|decide) (by omega) (by omega)
  refine gCF (ups':=[]) (as':=[]) (v':=.string tn3) 2 [] hEn3 trivial rfl rfl rfl rfl trivial trivial trivial rfl rfl (fun x hx=>nomatch hx) (fun x hx=>nomatch hx) rfl rfl ?_
  refine gR (u':=3) (out:=rS [⟨#[]⟩,⟨#[65]⟩,⟨#[97,32,98]⟩,tn3]) trivial rfl rfl rfl rfl rfl rfl rfl rfl rfl rfl rfl rfl rfl rfl ?_
  obtain ⟨E4,hE4,t4,t4a,t4b,rfl⟩:=ofS_c (k:=k) (t0:=t0) (p:=p + 1) hl hn (by omega) (by omega) (L:=[⟨#[]⟩,⟨#[65]⟩,⟨#[97,32,98]⟩,tn3]) (lo:=0) (hi:=100) ⟨Nat.le_of_ble_eq_true rfl,Nat.le_of_ble_eq_true rfl⟩ (four_le (by omega))
  refine gCF (ups':=[(1,one ⟨[.slice (some ⟨0,k,none⟩) n 0,.int .i64 (p + 1 + 1)],101,2⟩)]) (as':=[]) (v':=.string t4) 3 [0,1,2] hE4 trivial rfl rfl rfl rfl ⟨rCode rfl rfl,rCells rfl ⟨rfl,rfl,.inr rfl⟩ rfl,rFlat (rS_flat _) rfl (.inl rfl) rfl,trivial⟩ ⟨frOne rfl rfl,trivial⟩ trivial rfl rfl (ho1 ⟨_,rfl⟩) (hu1 rfl) rfl rfl ?_
  refine gM trivial (.inr rfl) rfl rfl rfl ?_
  refine rg_nil nofun ?_
  refine vc_ret ?_
  exact ⟨mkF (.string t4) [0] [(1,one ⟨[.slice (some ⟨0,k,none⟩) n 0,.int .i64 (p + 1 + 1)],101,2⟩)] [],_,endsT [] (.inr rfl) (.tmp rfl rfl .nil) rfl rfl ⟨upOne rfl rfl rfl,trivial⟩ trivial rfl,t4,_,(by omega),(by omega),(by omega),rfl⟩
 ·skip
  have p5:=ne_of_beq_false c5
  refine vc_skip ?_
  refine vc_seq ?_
  refine vc_region hm ?_
  refine gM trivial (.inl rfl) rfl rfl rfl ?_
  refine gR (u':=3) (out:=rS [⟨#[120]⟩,⟨#[120,121]⟩,⟨#[113,57,46]⟩,⟨#[48,49,50,51,52,53,54]⟩,⟨#[109]⟩]) trivial rfl rfl rfl rfl rfl rfl rfl rfl rfl rfl rfl rfl rfl rfl ?_
  obtain ⟨E5,hE5,t5,t5a,t5b,rfl⟩:=ofS_c (k:=k) (t0:=t0) (p:=p + 1) hl hn (by omega) (by omega) (L:=[⟨#[120]⟩,⟨#[120,121]⟩,⟨#[113,57,46]⟩,⟨#[48,49,50,51,52,53,54]⟩,⟨#[109]⟩]) (lo:=1) (hi:=7) (by decide) (by decide)
  refine gCF (ups':=[(1,one ⟨[.slice (some ⟨0,k,none⟩) n 0,.int .i64 (p + 1 + 1)],101,2⟩)]) (as':=[]) (v':=.string t5) 3 [0,1,2] hE5 trivial rfl rfl rfl rfl ⟨rCode rfl rfl,rCells rfl ⟨rfl,rfl,.inr rfl⟩ rfl,rFlat (rS_flat _) rfl (.inl rfl) rfl,trivial⟩ ⟨frOne rfl rfl,trivial⟩ trivial rfl rfl (ho1 ⟨_,rfl⟩) (hu1 rfl) rfl rfl ?_
  refine gM trivial (.inl rfl) rfl rfl rfl ?_
  obtain ⟨E6,hE6,t6,p6,t6a,q6a,q6b,rfl⟩:=text_c (k:=k) (t0:=t0) (p:=p + 1 + 1) hl hn (by omega) (by omega) (most:=6) (by omega) (by omega)
  refine gCF (ups':=[(1,one ⟨[.slice (some ⟨0,k,none⟩) n 0,.int .i64 (p6)],101,2⟩)]) (as':=[]) (v':=.string t6) 3 [0,1] hE6 trivial rfl rfl rfl rfl ⟨rCode rfl rfl,rCells rfl ⟨rfl,rfl,.inr rfl⟩ rfl,trivial⟩ ⟨frOne rfl rfl,trivial⟩ trivial rfl rfl (ho1 ⟨_,rfl⟩) (hu1 rfl) rfl rfl ?_
  refine gCat trivial rfl rfl rfl rfl rfl (by omega) ?_
  refine gM trivial (.inr rfl) rfl rfl rfl ?_
  refine rg_nil nofun ?_
  refine vc_ret ?_
  exact ⟨mkF (.string (t5 ++ t6)) [0] [(1,one ⟨[.slice (some ⟨0,k,none⟩) n 0,.int .i64 (p6)],101,2⟩)] [],_,endsT [] (.inr rfl) (.tmp rfl rfl .nil) rfl rfl ⟨upOne rfl rfl rfl,trivial⟩ trivial rfl,(t5 ++ t6),_,(by rw [ByteArray.size_append];omega),(by omega),(by omega),rfl⟩
theorem fit_c {l:List Int} {k n t0:Nat} {p:Int} (hl:ByL l) (hn:n≤l.length) (hp0:0≤p) (hp1:p≤996000) {s:Sp} (hs:0≤s.lo∧s.lo<s.hi∧s.hi≤48):∃ E,FDoes Try.prog 92 [.pointer (some ⟨1,0,none⟩),vSp s] (hp [(0,false,one ⟨hls k (rY l),t0,0⟩),(1,true,one ⟨[.slice (some ⟨0,k,none⟩) n 0,.int .i64 (p)],101,2⟩)]) E∧∃ (t:ByteArray) (p2:Int),t.size≤200∧p≤p2∧p2≤p + 60∧E=mkF (.string t) [0] [(1,one ⟨[.slice (some ⟨0,k,none⟩) n 0,.int .i64 (p2)],101,2⟩)] []:=by
 have hm:Try.prog.follows .mixedOrders=true:=by kernel_rfl
 have hd_:∀ x_ ∈ ([(0,false,one ⟨hls k (rY l),t0,0⟩),(1,true,one ⟨[.slice (some ⟨0,k,none⟩) n 0,.int .i64 (p)],101,2⟩)]:List (Nat × Bool × Fam)),∀ k_ y_,x_.2.2 k_=some y_→DetB (lt 2) y_:=by
  intro x_ hx k_ y_ e
  simp only [List.mem_cons,List.not_mem_nil,or_false] at hx
  rcases hx with rfl|rfl
  ·exact det_code e
  ·exact det_ok rfl e
 refine fn_some (u0:=2) Try.func92 rfl rfl (gets rfl rfl rfl hd_ rfl) ?_
 clear hd_
 refine vc_seq ?_
 refine vc_region hm ?_
 refine gB (u':=3) trivial rfl rfl rfl rfl rfl rfl rfl rfl ?_
 refine gM trivial (.inr rfl) rfl rfl rfl ?_
 refine rg_nil nofun ?_
 refine vc_seq ?_
 refine vc_region hm ?_
 refine gM trivial (.inr rfl) rfl rfl rfl ?_
 refine rg_nil nofun ?_
 refine vc_seq ?_
 refine vc_block ?_
 refine vc_loopT (fun n_ S_=>∃ (t:ByteArray) (q:Int),(t.size:Int)≤s.hi - s.lo∧p≤q∧q≤p + t.size∧n_=(s.hi - s.lo - t.size).toNat∧S_=⟨3,[(0,.pointer (some ⟨1,0,none⟩)),(3,.pointer (some ⟨2,0,none⟩)),(5,.string t)],[(0,false,one ⟨hls k (rY l),t0,0⟩),(1,true,one ⟨[.slice (some ⟨0,k,none⟩) n 0,.int .i64 (q)],101,2⟩),(2,true,one ⟨[.int .i64 s.lo,.int .i64 s.hi],38,2⟩)]⟩) ⟨⟨#[]⟩,p,(show (0:Int)≤_ by omega),(Int.le_refl _),(show p≤p + (0:Int) by omega),rfl,rfl⟩ (re_nil (ms:=[0,1,2]) (C:=999) rfl ⟨⟨⟨rfl,rfl⟩,rfl⟩,⟨⟨rfl,rfl⟩,rfl⟩,⟨⟨rfl,rfl⟩,rfl⟩,trivial⟩ ⟨ktCode rfl rfl,ktRow rfl rfl rfl (BlkW.refl _) id rfl,ktFlat rfl rfl (.inr (.inl rfl)) id rfl,trivial⟩ rfl rfl (rig_of rfl) rfl) ?_
 rintro n_ S_ ⟨t,q,ht,hq,hr,rfl,rfl⟩
 refine vc_seq ?_
 refine vc_seq ?_
 refine vc_region hm ?_
 refine gM trivial (.inl rfl) rfl rfl rfl ?_
 refine gKT trivial rfl rfl rfl rfl rfl ?_
 refine gF trivial rfl rfl rfl rfl rfl ?_
 refine gL trivial rfl rfl rfl rfl rfl rfl rfl rfl ?_
 refine gF trivial rfl rfl rfl rfl rfl ?_
 refine gL trivial rfl rfl rfl rfl rfl rfl rfl rfl ?_
 refine gA trivial rfl rfl rfl rfl rfl rfl (by omega) ?_
 refine gI trivial rfl rfl rfl rfl rfl rfl ?_
 refine rg_nil nofun ?_
 refine cI rfl (fun c13=>?_) (fun c13=>?_)
 ·skip
  have p13:=of_decide_eq_true c13
  refine vc_skip ?_
  refine vc_block ?_
  refine vc_region hm ?_
  refine gM trivial (.inl rfl) rfl rfl rfl ?_
  refine gM trivial (.inl rfl) rfl rfl rfl ?_
  refine gR (u':=4) (out:=rS [⟨#[97]⟩,⟨#[98]⟩,⟨#[99]⟩,⟨#[55]⟩,⟨#[46]⟩]) trivial rfl rfl rfl rfl rfl rfl rfl rfl rfl rfl rfl rfl rfl rfl ?_
  obtain ⟨E2,hE2,t2,t2a,t2b,rfl⟩:=ofS_c (k:=k) (t0:=t0) (p:=q) hl hn (by omega) (by omega) (L:=[⟨#[97]⟩,⟨#[98]⟩,⟨#[99]⟩,⟨#[55]⟩,⟨#[46]⟩]) (lo:=1) (hi:=1) (by decide) (by decide)
  refine gCF (ups':=[(1,one ⟨[.slice (some ⟨0,k,none⟩) n 0,.int .i64 (q + 1)],101,2⟩)]) (as':=[]) (v':=.string t2) 4 [0,1,3] hE2 trivial rfl rfl rfl rfl ⟨rCode rfl rfl,rCells rfl ⟨rfl,rfl,.inr rfl⟩ rfl,rFlat (rS_flat _) rfl (.inl rfl) rfl,trivial⟩ ⟨frOne rfl rfl,trivial⟩ trivial rfl rfl (ho1 ⟨_,rfl⟩) (hu1 rfl) rfl rfl ?_
  refine gCat trivial rfl rfl rfl rfl rfl (by omega) ?_
  refine gM trivial (.inr rfl) rfl rfl rfl ?_
  refine rg_nil nofun ?_
  exact lp_nextT ⟨(t ++ t2),q + 1,(by rw [ByteArray.size_append];omega),(by omega),(by rw [ByteArray.size_append];omega),rfl,rfl⟩ (by rw [ByteArray.size_append];omega) (re_nil (ms:=[0,1,2]) (C:=999) rfl ⟨⟨⟨rfl,rfl⟩,rfl⟩,⟨⟨rfl,rfl⟩,rfl⟩,⟨⟨rfl,rfl⟩,rfl⟩,trivial⟩ ⟨ktCode rfl rfl,ktRow rfl rfl rfl (BlkW.refl _) id rfl,ktFlat rfl rfl (.inr (.inl rfl)) id rfl,trivial⟩ rfl rfl (rig_of rfl) rfl)
 ·skip
  have p13:=of_decide_eq_false c13
  refine vc_exit ?_
  refine vc_seq ?_
  refine vc_region hm ?_
  refine gM trivial (.inl rfl) rfl rfl rfl ?_
  refine gM trivial (.inr rfl) rfl rfl rfl ?_
  refine rg_nil nofun ?_
  refine vc_ret ?_
  exact ⟨mkF (.string t) [0] [(1,one ⟨[.slice (some ⟨0,k,none⟩) n 0,.int .i64 (q)],101,2⟩)] [],_,endsT [] (.inr rfl) (.tmp rfl rfl .nil) rfl rfl ⟨upOne rfl rfl rfl,trivial⟩ trivial rfl,t,_,(by omega),(by omega),(by omega),rfl⟩

theorem spec_l6Over_c {t d:ByteArray} {s:Sp} (h0:0≤s.lo) (h1:s.lo≤s.hi) (h2:s.hi≤t.size) (ht:t.size≤1048576) (hd:d.size≤1048576):FDoes Try.prog 68 [.string t,vSp s,.string d] (hp []) { v:=.string (overT t s.lo s.hi d) }:=by
 have hm:Try.prog.follows .mixedOrders=true:=by kernel_rfl
 have hd_:∀ x ∈ ([]:List (Nat × Bool × Fam)),∀ k y,x.2.2 k=some y→DetB (lt 0) y:=fun x_ hx=>(by cases hx)
 refine fn_exact (u0:=0) Try.func68 rfl rfl (gets rfl rfl rfl hd_ rfl) ?_
 clear hd_
 refine vc_seq ?_
 refine vc_region hm ?_
 refine gB (u':=1) trivial rfl rfl rfl rfl rfl rfl rfl rfl ?_
 refine gM trivial (.inr rfl) rfl rfl rfl ?_
 refine rg_nil nofun ?_
 refine vc_seq ?_
 refine vc_region hm ?_
 refine gM trivial (.inl rfl) rfl rfl rfl ?_
 refine gF trivial rfl rfl rfl rfl rfl ?_
 refine gL trivial rfl rfl rfl rfl rfl rfl rfl rfl ?_
 refine gSx trivial rfl rfl rfl rfl rfl rfl rfl (by omega) (by omega) (by omega) ?_
 refine gM trivial (.inl rfl) rfl rfl rfl ?_
 refine gCat trivial rfl rfl rfl rfl rfl (by first|(rw [ByteArray.size_extract];omega)|(rw [ByteArray.size_append,ByteArray.size_extract,ByteArray.size_extract];omega)) ?_
 refine gM trivial (.inl rfl) rfl rfl rfl ?_
 refine gF trivial rfl rfl rfl rfl rfl ?_
 refine gL trivial rfl rfl rfl rfl rfl rfl rfl rfl ?_
 refine gSx trivial rfl rfl rfl rfl rfl rfl rfl (by omega) (by omega) (by omega) ?_
 refine gCat trivial rfl rfl rfl rfl rfl (by first|(rw [ByteArray.size_extract];omega)|(rw [ByteArray.size_append,ByteArray.size_extract,ByteArray.size_extract];omega)) ?_
 refine gM trivial (.inr rfl) rfl rfl rfl ?_
 refine rg_nil (fun _=>by kernel_rfl) ?_
 refine vc_ret ?_
 exact ⟨idm,ends0 (.inr rfl) rfl (eqT rfl) rfl rfl rfl⟩



theorem spec_l2Long_c {n:Int} (h0:0≤n) (h1:n≤48):FDoes Try.prog 89 [.string ⟨#[]⟩,.int .i64 n] (hp []) { v:=.string (blankT n.toNat) }:=by
 have hm:Try.prog.follows .mixedOrders=true:=by kernel_rfl
 have hd_:∀ x ∈ ([]:List (Nat × Bool × Fam)),∀ k y,x.2.2 k=some y→DetB (lt 0) y:=fun x_ hx=>(by cases hx)
 refine fn_exact (u0:=0) Try.func89 rfl rfl (gets rfl rfl rfl hd_ rfl) ?_
 clear hd_
 refine vc_seq ?_
 refine vc_region hm ?_
 refine gM trivial (.inr rfl) rfl rfl rfl ?_
 refine rg_nil nofun ?_
 refine vc_seq ?_
 refine vc_block ?_
 refine vc_loop' (fun n_ S_=>∃ (j:Nat),(j:Int)≤n∧n_=n.toNat - j∧S_=⟨0,[(0,.string (blankT j)),(1,.int .i64 n)],[]⟩) (m0:=idm) ⟨0,(by omega),rfl,rfl⟩ (le_mk rfl ⟨⟨eqT (b:=blankT 0) rfl,rfl⟩,⟨rfl,rfl⟩,trivial⟩ trivial rfl (fun _ _=>rfl)) ?_
 rintro n_ S_ ⟨j,hj,rfl,rfl⟩
 have hbs:=blankT_size (n:=j)
 refine vc_seq ?_
 refine vc_seq ?_
 refine vc_region hm ?_
 refine gM trivial (.inl rfl) rfl rfl rfl ?_
 refine gKT trivial rfl rfl rfl rfl rfl ?_
 refine gM trivial (.inl rfl) rfl rfl rfl ?_
 refine gI trivial rfl rfl rfl rfl rfl rfl ?_
 refine rg_nil nofun ?_
 refine cI rfl (fun c8=>?_) (fun c8=>?_)
 ·skip
  have p8:=of_decide_eq_true c8
  refine vc_skip ?_
  refine vc_block ?_
  refine vc_region hm ?_
  refine gM trivial (.inl rfl) rfl rfl rfl ?_
  refine gCat trivial rfl rfl rfl rfl rfl (by rw [blankT_size];show j + 1≤_;omega) ?_
  refine gM trivial (.inr rfl) rfl rfl rfl ?_
  refine rg_nil nofun ?_
  exact lp_next (m:=idm) ⟨j + 1,(by omega),rfl,rfl⟩ (by omega) (le_mk rfl ⟨⟨eqT blankT_1.symm,rfl⟩,⟨rfl,rfl⟩,trivial⟩ trivial rfl (fun _ _=>rfl))
 ·skip
  have p8:=of_decide_eq_false c8
  refine vc_exit ?_
  refine vc_seq ?_
  refine vc_region hm ?_
  refine gM trivial (.inl rfl) rfl rfl rfl ?_
  refine gM trivial (.inr rfl) rfl rfl rfl ?_
  refine rg_nil nofun ?_
  refine vc_ret ?_
  exact ⟨idm,ends0 (.inr rfl) rfl (eqT (by rw [show n.toNat=j by omega])) rfl rfl rfl⟩
theorem spec_l6Blank_c {n:Int} (h0:0≤n) (h1:n≤48):FDoes Try.prog 71 [.int .i64 n] (hp []) { v:=.string (blankT n.toNat) }:=by
 have hm:Try.prog.follows .mixedOrders=true:=by kernel_rfl
 have hd_:∀ x ∈ ([]:List (Nat × Bool × Fam)),∀ k y,x.2.2 k=some y→DetB (lt 0) y:=fun x_ hx=>(by cases hx)
 refine fn_exact (u0:=0) Try.func71 rfl rfl (gets rfl rfl rfl hd_ rfl) ?_
 clear hd_
 refine vc_seq ?_
 refine vc_region hm ?_
 refine gM trivial (.inr rfl) rfl rfl rfl ?_
 refine rg_nil nofun ?_
 refine vc_seq ?_
 refine vc_region hm ?_
 refine gM trivial (.inl rfl) rfl rfl rfl ?_
 refine gC0 [] (spec_l2Long_c (n:=n) h0 h1) trivial rfl rfl rfl rfl (by trivial) rfl rfl rfl rfl rfl ?_
 refine gM trivial (.inr rfl) rfl rfl rfl ?_
 refine rg_nil nofun ?_
 refine vc_ret ?_
 exact ⟨idm,ends0 (.inr rfl) rfl rfl rfl rfl rfl⟩
theorem spec_OwnClean_w {o:Ow} {s:Sp} (h:ownOk o=true):FDoes Try.prog 29 [.agg #[.string o.t,.slice (some ⟨0,0,none⟩) o.h.length 0,.slice (some ⟨1,0,none⟩) o.d.length 0],vSp s] (hp [(0,false,one ⟨rSp o.h,38,0⟩),(1,false,one ⟨rSp o.d,38,0⟩)]) (mkE (.tuple #[.agg #[.string (chO (spanOk s) o (cleanX o s)).t,.slice (some ⟨2,0,none⟩) (chO (spanOk s) o (cleanX o s)).h.length 0,.slice (some ⟨3,0,none⟩) (chO (spanOk s) o (cleanX o s)).d.length 0],.bool (chB (spanOk s) (cleanX o s))]) [0,1] [] [(2,⟨rSp (chO (spanOk s) o (cleanX o s)).h,38,2⟩),(3,⟨rSp (chO (spanOk s) o (cleanX o s)).d,38,2⟩)]):=by
 have hm:Try.prog.follows .mixedOrders=true:=by kernel_rfl
 have hd_:∀ x_ ∈ ([(0,false,one ⟨rSp o.h,38,0⟩),(1,false,one ⟨rSp o.d,38,0⟩)]:List (Nat × Bool × Fam)),∀ k_ y_,x_.2.2 k_=some y_→DetB (lt 2) y_:=by
  intro x_ hx k_ y_ e
  simp only [List.mem_cons,List.not_mem_nil,or_false] at hx
  rcases hx with rfl|rfl
  ·exact det_row (rSp_flat o.h) e
  ·exact det_row (rSp_flat o.d) e
 refine fn_exact (u0:=2) Try.func29 rfl rfl (gets rfl rfl rfl hd_ rfl) ?_
 clear hd_
 refine vc_seq ?_
 refine vc_region hm ?_
 refine gB (u':=3) trivial rfl rfl rfl rfl rfl rfl rfl rfl ?_
 refine gB (u':=4) trivial rfl rfl rfl rfl rfl rfl rfl rfl ?_
 refine gZ (u':=5) trivial rfl rfl rfl rfl rfl rfl rfl rfl ?_
 refine gM trivial (.inr rfl) rfl rfl rfl ?_
 refine rg_nil nofun ?_
 refine vc_seq ?_
 refine vc_seq ?_
 refine vc_region hm ?_
 refine gL trivial rfl rfl rfl rfl rfl rfl rfl rfl ?_
 refine gC0 [0,1] (spec_OwnOk_c (o:=o) (ok_len h).1 (ok_len h).2.1 (ok_len h).2.2) trivial rfl rfl rfl rfl ⟨rFlat (rSp_flat o.h) rfl (.inl rfl) rfl,rFlat (rSp_flat o.d) rfl (.inl rfl) rfl,trivial⟩ rfl rfl rfl rfl rfl ?_
 refine gN trivial rfl rfl rfl rfl ?_
 refine rg_nil nofun ?_
 refine cF rfl (notT h) ?_
 refine vc_skip ?_
 refine vc_seq ?_
 refine vc_seq ?_
 refine vc_region hm ?_
 refine gL trivial rfl rfl rfl rfl rfl rfl rfl rfl ?_
 refine gC0 [] (spec_SpanOk_c s) trivial rfl rfl rfl rfl (by trivial) rfl rfl rfl rfl rfl ?_
 refine gN trivial rfl rfl rfl rfl ?_
 refine rg_nil nofun ?_
 refine cI rfl (fun c12=>?_) (fun c12=>?_)
 ·skip
  have n12:=unT c12
  refine vc_seq ?_
  refine vc_region hm ?_
  refine gL trivial rfl rfl rfl rfl rfl rfl rfl rfl ?_
  refine gCn 7 [0,1,5,6] (spec_l6Copy_c (o:=o) (ok_len h).1 (ok_len h).2.1 (ok_len h).2.2) trivial rfl rfl rfl rfl ⟨rFlat (rSp_flat o.h) rfl (.inl rfl) rfl,rFlat (rSp_flat o.d) rfl (.inl rfl) rfl,trivial⟩ ⟨rSp_flat _,rSp_flat _,trivial⟩ rfl rfl rfl rfl ?_
  refine gT trivial rfl rfl rfl rfl rfl rfl rfl rfl rfl rfl (Nat.le_of_ble_eq_true rfl) rfl ?_
  refine gM trivial (.inr rfl) rfl rfl rfl ?_
  refine rg_nil nofun ?_
  refine vc_ret ?_
  have e_:=chO_F (o:=o) (x:=(cleanX o s)) n12
  rw [e_.1,e_.2]
  exact ⟨_,endsG [(2,5,⟨rSp o.h,38,2⟩),(3,6,⟨rSp o.d,38,2⟩)] (.inr rfl) (.cell rfl rfl rfl rfl rfl (.tmp rfl rfl .nil)) rfl rfl trivial ⟨⟨rfl,rSp_flat _⟩,⟨rfl,rSp_flat _⟩,trivial⟩ rfl⟩
 ·skip
  have n12:=unF c12
  refine vc_skip ?_
  refine vc_seq ?_
  refine vc_region hm ?_
  refine gL trivial rfl rfl rfl rfl rfl rfl rfl rfl ?_
  refine gF trivial rfl rfl rfl rfl rfl ?_
  refine gL trivial rfl rfl rfl rfl rfl rfl rfl rfl ?_
  refine gF trivial rfl rfl rfl rfl rfl ?_
  refine gL trivial rfl rfl rfl rfl rfl rfl rfl rfl ?_
  refine gF trivial rfl rfl rfl rfl rfl ?_
  refine gL trivial rfl rfl rfl rfl rfl rfl rfl rfl ?_
  refine gL trivial rfl rfl rfl rfl rfl rfl rfl rfl ?_
  refine gCn 6 [1,5] (spec_l1Cut_c (l:=o.d) (s:=s) (ok_len h).2.2 (spanOk_in n12)) trivial rfl rfl rfl rfl ⟨rFlat (rSp_flat o.d) rfl (.inl rfl) rfl,trivial⟩ ⟨rSp_flat _,trivial⟩ rfl rfl rfl rfl ?_
  refine gU trivial rfl rfl rfl rfl rfl rfl rfl rfl ?_
  refine gCn 8 [0,1,0,5,6,7] (spec_l6Put_c (o:=o) (x:=cleanX o s) (ok_len h).1 (ok_len h).2.1 (ok_len h).2.2 (ok_len h).1 (ok_len h).2.1 (Nat.le_trans ofL48_len (by decide))) trivial rfl rfl rfl rfl ⟨rFlat (rSp_flat o.h) rfl (.inl rfl) rfl,rFlat (rSp_flat o.d) rfl (.inl rfl) rfl,rFlat (rSp_flat o.h) rfl (.inl rfl) rfl,rFlat (rSp_flat _) rfl (.inl rfl) rfl,trivial⟩ ⟨rSp_flat _,rSp_flat _,trivial⟩ rfl rfl rfl rfl ?_
  refine gE trivial rfl rfl rfl rfl rfl rfl ?_
  refine gE trivial rfl rfl rfl rfl rfl rfl ?_
  refine gT trivial rfl rfl rfl rfl rfl rfl rfl rfl rfl rfl (Nat.le_of_ble_eq_true rfl) rfl ?_
  refine gM trivial (.inr rfl) rfl rfl rfl ?_
  refine rg_nil (fun _=>by kernel_rfl) ?_
  refine vc_ret ?_
  have e_:=chO_P (o:=o) (x:=(cleanX o s)) n12
  rw [e_.1,e_.2]
  exact ⟨_,endsG [(2,6,⟨rSp (putO o (cleanX o s)).h,38,2⟩),(3,7,⟨rSp (putO o (cleanX o s)).d,38,2⟩)] (.inr rfl) (.cell rfl rfl rfl rfl rfl (.tmp rfl rfl .nil)) rfl rfl trivial ⟨⟨rfl,rSp_flat _⟩,⟨rfl,rSp_flat _⟩,trivial⟩ rfl⟩
theorem spec_l6Patches_w {o:Ow} {p:Sp} (h:ownOk o=true) (hpk:spanOk p=true):FDoes Try.prog 55 [.agg #[.string o.t,.slice (some ⟨0,0,none⟩) o.h.length 0,.slice (some ⟨1,0,none⟩) o.d.length 0],vSp p] (hp [(0,false,one ⟨rSp o.h,38,0⟩),(1,false,one ⟨rSp o.d,38,0⟩)]) (mkE (.slice (some ⟨2,0,none⟩) (patA o p).length 0) [0,1] [] [(2,⟨rPa (patA o p),73,2⟩)]):=by
 have hm:Try.prog.follows .mixedOrders=true:=by kernel_rfl
 have hd_:∀ x_ ∈ ([(0,false,one ⟨rSp o.h,38,0⟩),(1,false,one ⟨rSp o.d,38,0⟩)]:List (Nat × Bool × Fam)),∀ k_ y_,x_.2.2 k_=some y_→DetB (lt 2) y_:=by
  intro x_ hx k_ y_ e
  simp only [List.mem_cons,List.not_mem_nil,or_false] at hx
  rcases hx with rfl|rfl
  ·exact det_row (rSp_flat o.h) e
  ·exact det_row (rSp_flat o.d) e
 have hdl:=dl_spec h
 refine fn_exact (u0:=2) Try.func55 rfl rfl (gets rfl rfl rfl hd_ rfl) ?_
 clear hd_
 refine vc_seq ?_
 refine vc_region hm ?_
 refine gB (u':=3) trivial rfl rfl rfl rfl rfl rfl rfl rfl ?_
 refine gB (u':=4) trivial rfl rfl rfl rfl rfl rfl rfl rfl ?_
 refine gM trivial (.inr rfl) rfl rfl rfl ?_
 refine rg_nil nofun ?_
 refine vc_seq ?_
 refine vc_region hm ?_
 refine gR (u':=5) trivial rfl rfl rfl rfl rfl rfl rfl rfl rfl rfl rfl rfl rfl rfl ?_
 refine gM trivial (.inr rfl) rfl rfl rfl ?_
 refine rg_nil nofun ?_
 refine vc_seq ?_
 refine vc_seq ?_
 refine vc_region hm ?_
 refine gM trivial (.inr rfl) rfl rfl rfl ?_
 refine rg_nil nofun ?_
 refine vc_block ?_
 refine vc_loop' (fun n_ S_=>∃ (j:Nat),j≤o.d.length∧(patO o p j).length≤j∧n_=o.d.length - j∧S_=⟨5,[(2,.pointer (some ⟨2,0,none⟩)),(3,.pointer (some ⟨3,0,none⟩)),(5,.slice (some ⟨4,0,none⟩) (patO o p j).length 0),(6,.int .i64 j)],[(0,false,one ⟨rSp o.h,38,0⟩),(1,false,one ⟨rSp o.d,38,0⟩),(2,true,one ⟨[.string o.t,.slice (some ⟨0,0,none⟩) o.h.length 0,.slice (some ⟨1,0,none⟩) o.d.length 0],29,3⟩),(3,true,one ⟨[.int .i64 p.lo,.int .i64 p.hi],38,2⟩),(4,true,one ⟨rPa (patO o p j),73,2⟩)]⟩) (m0:=idm) ⟨0,Nat.zero_le _,Nat.le_refl _,rfl,rfl⟩ (le_mk rfl ⟨⟨rfl,rfl⟩,⟨rfl,rfl⟩,⟨rfl,rfl⟩,⟨rfl,rfl⟩,trivial⟩ ⟨kFlat (rSp_flat o.h) rfl id rfl,kFlat (rSp_flat o.d) rfl id rfl,kCells rfl rfl id rfl,kCells rfl rfl id rfl,kFlat (rPa_flat _) rfl id rfl,trivial⟩ rfl (rig_of rfl)) ?_
 rintro n_ S_ ⟨j,hj,hq,rfl,rfl⟩
 refine vc_seq ?_
 refine vc_seq ?_
 refine vc_region hm ?_
 refine gM trivial (.inl rfl) rfl rfl rfl ?_
 refine gF trivial rfl rfl rfl rfl rfl ?_
 refine gL trivial rfl rfl rfl rfl rfl rfl rfl rfl ?_
 refine gK trivial rfl rfl rfl rfl rfl rfl rSp_nil ?_
 refine gI trivial rfl rfl rfl rfl rfl rfl ?_
 refine rg_nil nofun ?_
 refine cI rfl (fun c14=>?_) (fun c14=>?_)
 ·skip
  have p14:=of_decide_eq_true c14
  refine vc_skip ?_
  refine vc_seq ?_
  refine vc_block ?_
  refine vc_seq ?_
  refine vc_region hm ?_
  refine gF trivial rfl rfl rfl rfl rfl ?_
  refine gL trivial rfl rfl rfl rfl rfl rfl rfl rfl ?_
  refine gM trivial (.inl rfl) rfl rfl rfl ?_
  refine gX trivial rfl rfl rfl rfl rfl rfl rfl rfl (by omega) (by omega) rSp_ne ?_
  refine gL trivial rfl rfl rfl rfl rfl rfl rfl (aSp (by omega) (by omega)) ?_
  refine gL trivial rfl rfl rfl rfl rfl rfl rfl rfl ?_
  refine gC0 [] (spec_l1Meet_c (at_ o.d (j:Int)) p) trivial rfl rfl rfl rfl (by trivial) rfl rfl rfl rfl rfl ?_
  refine gM trivial (.inl rfl) rfl rfl rfl ?_
  refine gE trivial rfl rfl rfl rfl rfl rfl ?_
  refine gE trivial rfl rfl rfl rfl rfl rfl ?_
  refine gZ (u':=6) trivial rfl rfl rfl rfl rfl rfl rfl rfl ?_
  refine gT trivial rfl rfl rfl rfl rfl rfl rfl rfl rfl rfl (Nat.le_of_ble_eq_true rfl) rfl ?_
  refine gM trivial (.inr rfl) rfl rfl rfl ?_
  refine rg_nil (fun _=>by kernel_rfl) ?_
  refine vc_seq ?_
  refine vc_region hm ?_
  refine gM trivial (.inl rfl) rfl rfl rfl ?_
  refine rg_nil nofun ?_
  refine cI rfl (fun c27=>?_) (fun c27=>?_)
  ·skip
   refine vc_region hm ?_
   refine gM trivial (.inl rfl) rfl rfl rfl ?_
   refine gF trivial rfl rfl rfl rfl rfl ?_
   refine gL trivial rfl rfl rfl rfl rfl rfl rfl rfl ?_
   refine gF trivial rfl rfl rfl rfl rfl ?_
   refine gL trivial rfl rfl rfl rfl rfl rfl rfl rfl ?_
   refine gF trivial rfl rfl rfl rfl rfl ?_
   refine gL trivial rfl rfl rfl rfl rfl rfl rfl rfl ?_
   refine gF trivial rfl rfl rfl rfl rfl ?_
   refine gL trivial rfl rfl rfl rfl rfl rfl rfl rfl ?_
   refine gSx trivial rfl rfl rfl rfl rfl rfl rfl (pat_bd h hpk p14 c27).1 (pat_bd h hpk p14 c27).2.1 (pat_bd h hpk p14 c27).2.2 ?_
   refine gU trivial rfl rfl rfl rfl rfl rfl rfl rfl ?_
   refine gR (u':=7) trivial rfl rfl rfl rfl rfl rfl rfl rfl rfl rfl rfl rfl rfl rfl ?_
   refine gAp (u':=8) trivial rfl rfl rfl rfl rfl rfl rfl rfl rfl rfl rfl rfl (by rw [rowL_len (n:=2) (fun _=>rfl)]) (Nat.le_refl _) rfl (show ((patO o p j).length + 1) * (24 + 1)≤140737488355328 by omega) (row_snoc (enc:=ePa) (x:=(patE o p (at_ o.d (j:Int))))) rfl ?_
   refine gM trivial (.inr rfl) rfl rfl rfl ?_
   refine rg_nil (fun _=>by kernel_rfl) ?_
   refine vc_region hm ?_
   refine gM trivial (.inl rfl) rfl rfl rfl ?_
   refine gA trivial rfl rfl rfl rfl rfl rfl (by omega) ?_
   refine gM trivial (.inr rfl) rfl rfl rfl ?_
   refine rg_nil nofun ?_
   exact lp_next (m:=(mp [0,1,2,3,7])) ⟨j + 1,(by omega),(pat_len _),rfl,rfl⟩ (by omega) (le_mk rfl ⟨⟨rfl,rfl⟩,⟨rfl,rfl⟩,⟨eqSl (by rw [(pat_T (o:=o) (p:=p) p14 c27)];simp),rfl⟩,⟨rfl,rfl⟩,trivial⟩ ⟨kFlat (rSp_flat o.h) rfl id rfl,kFlat (rSp_flat o.d) rfl id rfl,kCells rfl rfl id rfl,kCells rfl rfl id rfl,kFlat (rPa_flat _) (eqH (congrArg _ (pat_T (o:=o) (p:=p) p14 c27).symm)) id rfl,trivial⟩ rfl (rig_of rfl))
  ·skip
   refine vc_skip ?_
   refine vc_region hm ?_
   refine gM trivial (.inl rfl) rfl rfl rfl ?_
   refine gA trivial rfl rfl rfl rfl rfl rfl (by omega) ?_
   refine gM trivial (.inr rfl) rfl rfl rfl ?_
   refine rg_nil nofun ?_
   exact lp_next (m:=idm) ⟨j + 1,(by omega),(pat_len _),rfl,rfl⟩ (by omega) (le_mk rfl ⟨⟨rfl,rfl⟩,⟨rfl,rfl⟩,⟨eqSl (by rw [(pat_F (o:=o) (p:=p) p14 c27)];skip),rfl⟩,⟨rfl,rfl⟩,trivial⟩ ⟨kFlat (rSp_flat o.h) rfl id rfl,kFlat (rSp_flat o.d) rfl id rfl,kCells rfl rfl id rfl,kCells rfl rfl id rfl,kFlat (rPa_flat _) (eqH (congrArg _ (pat_F (o:=o) (p:=p) p14 c27).symm)) id rfl,trivial⟩ rfl (rig_of rfl))
 ·skip
  have p14:=of_decide_eq_false c14
  refine vc_exit ?_
  refine vc_seq ?_
  refine vc_region hm ?_
  refine gM trivial (.inl rfl) rfl rfl rfl ?_
  refine gM trivial (.inr rfl) rfl rfl rfl ?_
  refine rg_nil nofun ?_
  refine vc_ret ?_
  obtain rfl:j=o.d.length:=by omega
  exact ⟨_,endsG [(2,4,⟨rPa (patA o p),73,2⟩)] (.inr rfl) (.tmp rfl rfl .nil) rfl rfl trivial ⟨⟨rfl,rPa_flat _⟩,trivial⟩ rfl⟩
theorem spec_OwnFill_w {o:Ow} {s:Sp} {d:ByteArray} (h:ownOk o=true) (hd4:d.size≤1048576):FDoes Try.prog 32 [.agg #[.string o.t,.slice (some ⟨0,0,none⟩) o.h.length 0,.slice (some ⟨1,0,none⟩) o.d.length 0],vSp s,.string d] (hp [(0,false,one ⟨rSp o.h,38,0⟩),(1,false,one ⟨rSp o.d,38,0⟩)]) (mkE (.tuple #[.agg #[.string (chO (mayF s d) o (fillX o s d)).t,.slice (some ⟨2,0,none⟩) (chO (mayF s d) o (fillX o s d)).h.length 0,.slice (some ⟨3,0,none⟩) (chO (mayF s d) o (fillX o s d)).d.length 0],.bool (chB (mayF s d) (fillX o s d))]) [0,1] [] [(2,⟨rSp (chO (mayF s d) o (fillX o s d)).h,38,2⟩),(3,⟨rSp (chO (mayF s d) o (fillX o s d)).d,38,2⟩)]):=by
 have hm:Try.prog.follows .mixedOrders=true:=by kernel_rfl
 have hd_:∀ x_ ∈ ([(0,false,one ⟨rSp o.h,38,0⟩),(1,false,one ⟨rSp o.d,38,0⟩)]:List (Nat × Bool × Fam)),∀ k_ y_,x_.2.2 k_=some y_→DetB (lt 2) y_:=by
  intro x_ hx k_ y_ e
  simp only [List.mem_cons,List.not_mem_nil,or_false] at hx
  rcases hx with rfl|rfl
  ·exact det_row (rSp_flat o.h) e
  ·exact det_row (rSp_flat o.d) e
 obtain ⟨T,hT⟩:∃ T:Int→ByteArray,T=fun i=>bytesS (fL (fillF o.t d o.d s.lo i)):=⟨_,rfl⟩
 have hTs:∀ i,(T i).size=48:=fun i=>by rw [hT];exact bytesS_size.trans fL_len
 have hT0:T s.lo=o.t:=by rw [hT];show bytesS (fL (fillF o.t d o.d s.lo s.lo))=o.t;rw [← fillF_0 (ownOk_size h),bytesS_L]
 have hT1:∀ i,0≤i→l1In o.d i=true→T i=T (i + 1):=fun i h0 hl=>by rw [hT];exact congrArg bytesS (fillF_1 h0 hl)
 have hT2:∀ i,0≤i→s.lo≤i→i<48→i - s.lo<d.size→l1In o.d i=false→overT (T i) i (i + 1) (d.extract (i - s.lo).toNat (i - s.lo + 1).toNat)=T (i + 1):=fun i h0 h1 h2 h3 hl=>by rw [hT];exact fillF_3 h0 h1 h2 h3 hl
 have hTX:fillX o s d=⟨T s.hi,l1ofP (putP (ofP o.h) (ofP [s]) true),o.d⟩:=by rw [hT];rfl
 clear hT
 refine fn_exact (u0:=2) Try.func32 rfl rfl (gets rfl rfl rfl hd_ rfl) ?_
 clear hd_
 refine vc_seq ?_
 refine vc_region hm ?_
 refine gB (u':=3) trivial rfl rfl rfl rfl rfl rfl rfl rfl ?_
 refine gB (u':=4) trivial rfl rfl rfl rfl rfl rfl rfl rfl ?_
 refine gZ (u':=5) trivial rfl rfl rfl rfl rfl rfl rfl rfl ?_
 refine gM trivial (.inr rfl) rfl rfl rfl ?_
 refine rg_nil nofun ?_
 refine vc_seq ?_
 refine vc_seq ?_
 refine vc_region hm ?_
 refine gL trivial rfl rfl rfl rfl rfl rfl rfl rfl ?_
 refine gC0 [0,1] (spec_OwnOk_c (o:=o) (ok_len h).1 (ok_len h).2.1 (ok_len h).2.2) trivial rfl rfl rfl rfl ⟨rFlat (rSp_flat o.h) rfl (.inl rfl) rfl,rFlat (rSp_flat o.d) rfl (.inl rfl) rfl,trivial⟩ rfl rfl rfl rfl rfl ?_
 refine gN trivial rfl rfl rfl rfl ?_
 refine rg_nil nofun ?_
 refine cF rfl (notT h) ?_
 refine vc_skip ?_
 refine vc_seq ?_
 refine vc_seq ?_
 refine vc_region hm ?_
 refine gL trivial rfl rfl rfl rfl rfl rfl rfl rfl ?_
 refine gC0 [] (spec_SpanOk_c s) trivial rfl rfl rfl rfl (by trivial) rfl rfl rfl rfl rfl ?_
 refine gN trivial rfl rfl rfl rfl ?_
 refine gM trivial (.inl rfl) rfl rfl rfl ?_
 refine gI2 (d:=17) rfl (fun c17=>?_) (fun c17=>?_)
 ·skip
  have n17:=unT c17
  refine gO ⟨_,_,rfl,rfl,c17⟩ rfl rfl ?_
  refine gO ⟨_,_,rfl,rfl,c17⟩ rfl rfl ?_
  refine gO ⟨_,_,rfl,rfl,c17⟩ rfl rfl ?_
  refine gPT trivial rfl rfl c17 rfl rfl rfl ?_
  refine gM trivial (.inl rfl) rfl rfl rfl ?_
  refine gO ⟨_,_,rfl,rfl,rfl⟩ rfl rfl ?_
  refine gO ⟨_,_,rfl,rfl,rfl⟩ rfl rfl ?_
  refine gO ⟨_,_,rfl,rfl,rfl⟩ rfl rfl ?_
  refine gO ⟨_,_,rfl,rfl,rfl⟩ rfl rfl ?_
  refine gO ⟨_,_,rfl,rfl,rfl⟩ rfl rfl ?_
  refine gO ⟨_,_,rfl,rfl,rfl⟩ rfl rfl ?_
  refine gO ⟨_,_,rfl,rfl,rfl⟩ rfl rfl ?_
  refine gO ⟨_,_,rfl,rfl,rfl⟩ rfl rfl ?_
  refine gPT trivial rfl rfl rfl rfl rfl rfl ?_
  refine rg_nil nofun ?_
  refine cT rfl rfl ?_
  refine vc_seq ?_
  refine vc_region hm ?_
  refine gL trivial rfl rfl rfl rfl rfl rfl rfl rfl ?_
  refine gCn 7 [0,1,5,6] (spec_l6Copy_c (o:=o) (ok_len h).1 (ok_len h).2.1 (ok_len h).2.2) trivial rfl rfl rfl rfl ⟨rFlat (rSp_flat o.h) rfl (.inl rfl) rfl,rFlat (rSp_flat o.d) rfl (.inl rfl) rfl,trivial⟩ ⟨rSp_flat _,rSp_flat _,trivial⟩ rfl rfl rfl rfl ?_
  refine gT trivial rfl rfl rfl rfl rfl rfl rfl rfl rfl rfl (Nat.le_of_ble_eq_true rfl) rfl ?_
  refine gM trivial (.inr rfl) rfl rfl rfl ?_
  refine rg_nil nofun ?_
  refine vc_ret ?_
  have e_:=chO_F (o:=o) (x:=(fillX o s d)) (may:=mayF s d) (by first|exact mayF_1 n17|exact mayF_2 n22|exact mayF_4 p31)
  rw [e_.1,e_.2]
  exact ⟨_,endsG [(2,5,⟨rSp o.h,38,2⟩),(3,6,⟨rSp o.d,38,2⟩)] (.inr rfl) (.cell rfl rfl rfl rfl rfl (.tmp rfl rfl .nil)) rfl rfl trivial ⟨⟨rfl,rSp_flat _⟩,⟨rfl,rSp_flat _⟩,trivial⟩ rfl⟩
 ·skip
  have n17:=unF c17
  refine gM ⟨_,_,rfl,rfl,c17⟩ (.inl rfl) rfl rfl rfl ?_
  refine gC0 [] (spec_TextOk_c (s:=d) (by omega)) ⟨_,_,rfl,rfl,c17⟩ rfl rfl rfl rfl (by trivial) rfl rfl rfl rfl rfl ?_
  refine gN ⟨_,_,rfl,rfl,c17⟩ rfl rfl rfl rfl ?_
  refine gPF trivial rfl rfl c17 rfl rfl rfl ?_
  refine gM trivial (.inl rfl) rfl rfl rfl ?_
  refine gI2 (d:=22) rfl (fun c22=>?_) (fun c22=>?_)
  ·skip
   have n22:=unT c22
   refine gO ⟨_,_,rfl,rfl,c22⟩ rfl rfl ?_
   refine gO ⟨_,_,rfl,rfl,c22⟩ rfl rfl ?_
   refine gO ⟨_,_,rfl,rfl,c22⟩ rfl rfl ?_
   refine gO ⟨_,_,rfl,rfl,c22⟩ rfl rfl ?_
   refine gO ⟨_,_,rfl,rfl,c22⟩ rfl rfl ?_
   refine gO ⟨_,_,rfl,rfl,c22⟩ rfl rfl ?_
   refine gO ⟨_,_,rfl,rfl,c22⟩ rfl rfl ?_
   refine gO ⟨_,_,rfl,rfl,c22⟩ rfl rfl ?_
   refine gPT trivial rfl rfl c22 rfl rfl rfl ?_
   refine rg_nil nofun ?_
   refine cT rfl rfl ?_
   refine vc_seq ?_
   refine vc_region hm ?_
   refine gL trivial rfl rfl rfl rfl rfl rfl rfl rfl ?_
   refine gCn 7 [0,1,5,6] (spec_l6Copy_c (o:=o) (ok_len h).1 (ok_len h).2.1 (ok_len h).2.2) trivial rfl rfl rfl rfl ⟨rFlat (rSp_flat o.h) rfl (.inl rfl) rfl,rFlat (rSp_flat o.d) rfl (.inl rfl) rfl,trivial⟩ ⟨rSp_flat _,rSp_flat _,trivial⟩ rfl rfl rfl rfl ?_
   refine gT trivial rfl rfl rfl rfl rfl rfl rfl rfl rfl rfl (Nat.le_of_ble_eq_true rfl) rfl ?_
   refine gM trivial (.inr rfl) rfl rfl rfl ?_
   refine rg_nil nofun ?_
   refine vc_ret ?_
   have e_:=chO_F (o:=o) (x:=(fillX o s d)) (may:=mayF s d) (by first|exact mayF_1 n17|exact mayF_2 n22|exact mayF_4 p31)
   rw [e_.1,e_.2]
   exact ⟨_,endsG [(2,5,⟨rSp o.h,38,2⟩),(3,6,⟨rSp o.d,38,2⟩)] (.inr rfl) (.cell rfl rfl rfl rfl rfl (.tmp rfl rfl .nil)) rfl rfl trivial ⟨⟨rfl,rSp_flat _⟩,⟨rfl,rSp_flat _⟩,trivial⟩ rfl⟩
  ·skip
   have n22:=unF c22
   refine gM ⟨_,_,rfl,rfl,c22⟩ (.inl rfl) rfl rfl rfl ?_
   refine gKT ⟨_,_,rfl,rfl,c22⟩ rfl rfl rfl rfl rfl ?_
   refine gF ⟨_,_,rfl,rfl,c22⟩ rfl rfl rfl rfl rfl ?_
   refine gL ⟨_,_,rfl,rfl,c22⟩ rfl rfl rfl rfl rfl rfl rfl rfl ?_
   refine gF ⟨_,_,rfl,rfl,c22⟩ rfl rfl rfl rfl rfl ?_
   refine gL ⟨_,_,rfl,rfl,c22⟩ rfl rfl rfl rfl rfl rfl rfl rfl ?_
   refine gA ⟨_,_,rfl,rfl,c22⟩ rfl rfl rfl rfl rfl rfl (by have:=spanOk_in n17;omega) ?_
   refine gI ⟨_,_,rfl,rfl,c22⟩ rfl rfl rfl rfl rfl rfl ?_
   refine gPF trivial rfl rfl c22 rfl rfl rfl ?_
   refine rg_nil nofun ?_
   refine cI rfl (fun c31=>?_) (fun c31=>?_)
   ·skip
    have p31:=bne_iff_ne.1 c31
    refine vc_seq ?_
    refine vc_region hm ?_
    refine gL trivial rfl rfl rfl rfl rfl rfl rfl rfl ?_
    refine gCn 7 [0,1,5,6] (spec_l6Copy_c (o:=o) (ok_len h).1 (ok_len h).2.1 (ok_len h).2.2) trivial rfl rfl rfl rfl ⟨rFlat (rSp_flat o.h) rfl (.inl rfl) rfl,rFlat (rSp_flat o.d) rfl (.inl rfl) rfl,trivial⟩ ⟨rSp_flat _,rSp_flat _,trivial⟩ rfl rfl rfl rfl ?_
    refine gT trivial rfl rfl rfl rfl rfl rfl rfl rfl rfl rfl (Nat.le_of_ble_eq_true rfl) rfl ?_
    refine gM trivial (.inr rfl) rfl rfl rfl ?_
    refine rg_nil nofun ?_
    refine vc_ret ?_
    have e_:=chO_F (o:=o) (x:=(fillX o s d)) (may:=mayF s d) (by first|exact mayF_1 n17|exact mayF_2 n22|exact mayF_4 p31)
    rw [e_.1,e_.2]
    exact ⟨_,endsG [(2,5,⟨rSp o.h,38,2⟩),(3,6,⟨rSp o.d,38,2⟩)] (.inr rfl) (.cell rfl rfl rfl rfl rfl (.tmp rfl rfl .nil)) rfl rfl trivial ⟨⟨rfl,rSp_flat _⟩,⟨rfl,rSp_flat _⟩,trivial⟩ rfl⟩
   ·skip
    have p31:=bne_eq_false_iff_eq.1 c31
    refine vc_skip ?_
    refine vc_seq ?_
    refine vc_region hm ?_
    refine gF trivial rfl rfl rfl rfl rfl ?_
    refine gL trivial rfl rfl rfl rfl rfl rfl rfl rfl ?_
    refine gM trivial (.inr rfl) rfl rfl rfl ?_
    refine rg_nil nofun ?_
    refine vc_seq ?_
    refine vc_seq ?_
    refine vc_region hm ?_
    refine gF trivial rfl rfl rfl rfl rfl ?_
    refine gL trivial rfl rfl rfl rfl rfl rfl rfl rfl ?_
    refine gM trivial (.inr rfl) rfl rfl rfl ?_
    refine rg_nil nofun ?_
    refine vc_block ?_
    have hsp:=spanOk_in n17
    have hsz:=ownOk_size h
    refine vc_loop' (fun n_ S_=>∃ (i:Int),s.lo≤i∧i≤s.hi∧n_=(s.hi - i).toNat∧S_=⟨5,[(2,.string d),(3,.pointer (some ⟨2,0,none⟩)),(4,.pointer (some ⟨3,0,none⟩)),(6,.pointer (some ⟨4,0,none⟩)),(8,.string (T i)),(9,.int .i64 i)],[(0,false,one ⟨rSp o.h,38,0⟩),(1,false,one ⟨rSp o.d,38,0⟩),(2,true,one ⟨[.string o.t,.slice (some ⟨0,0,none⟩) o.h.length 0,.slice (some ⟨1,0,none⟩) o.d.length 0],29,3⟩),(3,true,one ⟨[.int .i64 s.lo,.int .i64 s.hi],38,2⟩),(4,true,one ⟨[.string ⟨#[]⟩,.slice none 0 0,.slice none 0 0],29,3⟩)]⟩) (m0:=idm) ⟨s.lo,Int.le_refl _,(by omega),rfl,rfl⟩ (le_mk rfl ⟨⟨rfl,rfl⟩,⟨rfl,rfl⟩,⟨rfl,rfl⟩,⟨rfl,rfl⟩,⟨eqT hT0,rfl⟩,⟨rfl,rfl⟩,trivial⟩ ⟨kFlat (rSp_flat o.h) rfl id rfl,kFlat (rSp_flat o.d) rfl id rfl,kCells rfl rfl id rfl,kCells rfl rfl id rfl,kCells rfl rfl id rfl,trivial⟩ rfl (fun _ _=>rfl)) ?_
    rintro n_ S_ ⟨i,hi,hj,rfl,rfl⟩
    refine vc_seq ?_
    refine vc_seq ?_
    refine vc_region hm ?_
    refine gM trivial (.inl rfl) rfl rfl rfl ?_
    refine gF trivial rfl rfl rfl rfl rfl ?_
    refine gL trivial rfl rfl rfl rfl rfl rfl rfl rfl ?_
    refine gI trivial rfl rfl rfl rfl rfl rfl ?_
    refine rg_nil nofun ?_
    refine cI rfl (fun c41=>?_) (fun c41=>?_)
    ·skip
     have p41:=of_decide_eq_true c41
     refine vc_skip ?_
     refine vc_seq ?_
     refine vc_block ?_
     refine vc_seq ?_
     refine vc_region hm ?_
     refine gF trivial rfl rfl rfl rfl rfl ?_
     refine gL trivial rfl rfl rfl rfl rfl rfl rfl rfl ?_
     refine gM trivial (.inl rfl) rfl rfl rfl ?_
     refine gC0 [1] (spec_l1In_c (l:=o.d) (a:=i) (ok_len h).2.2) trivial rfl rfl rfl rfl ⟨rFlat (rSp_flat o.d) rfl (.inl rfl) rfl,trivial⟩ rfl rfl rfl rfl rfl ?_
     refine gN trivial rfl rfl rfl rfl ?_
     refine rg_nil nofun ?_
     refine cI rfl (fun c48=>?_) (fun c48=>?_)
     ·skip
      have n48:=unT c48
      refine vc_region hm ?_
      refine gM trivial (.inl rfl) rfl rfl rfl ?_
      refine gM trivial (.inl rfl) rfl rfl rfl ?_
      refine gM trivial (.inl rfl) rfl rfl rfl ?_
      refine gA trivial rfl rfl rfl rfl rfl rfl (by omega) ?_
      refine gU trivial rfl rfl rfl rfl rfl rfl rfl rfl ?_
      refine gM trivial (.inl rfl) rfl rfl rfl ?_
      refine gM trivial (.inl rfl) rfl rfl rfl ?_
      refine gF trivial rfl rfl rfl rfl rfl ?_
      refine gL trivial rfl rfl rfl rfl rfl rfl rfl rfl ?_
      refine gA trivial rfl rfl rfl rfl rfl rfl (by omega) ?_
      refine gM trivial (.inl rfl) rfl rfl rfl ?_
      refine gF trivial rfl rfl rfl rfl rfl ?_
      refine gL trivial rfl rfl rfl rfl rfl rfl rfl rfl ?_
      refine gA trivial rfl rfl rfl rfl rfl rfl (by omega) ?_
      refine gA trivial rfl rfl rfl rfl rfl rfl (by omega) ?_
      refine gSx trivial rfl rfl rfl rfl rfl rfl rfl (by omega) (by omega) (by omega) ?_
      refine gC0 [] (spec_l6Over_c (t:=(T i)) (d:=d.extract (i - s.lo).toNat (i - s.lo + 1).toNat) (s:=⟨i,i + 1⟩) (by show 0≤i;omega) (by show i≤i + 1;omega) (by show i + 1≤((T i).size:Int);rw [hTs];omega) (by rw [hTs];decide) (by rw [ByteArray.size_extract];omega)) trivial rfl rfl rfl rfl (by trivial) rfl rfl rfl rfl rfl ?_
      refine gM trivial (.inr rfl) rfl rfl rfl ?_
      refine rg_nil nofun ?_
      refine vc_region hm ?_
      refine gM trivial (.inl rfl) rfl rfl rfl ?_
      refine gA trivial rfl rfl rfl rfl rfl rfl (by omega) ?_
      refine gM trivial (.inr rfl) rfl rfl rfl ?_
      refine rg_nil nofun ?_
      exact lp_next (m:=idm) ⟨i + 1,(by omega),(by omega),rfl,rfl⟩ (by omega) (le_mk rfl ⟨⟨rfl,rfl⟩,⟨rfl,rfl⟩,⟨rfl,rfl⟩,⟨rfl,rfl⟩,⟨eqT (hT2 i (by omega) hi (by omega) (by omega) n48).symm,rfl⟩,⟨rfl,rfl⟩,trivial⟩ ⟨kFlat (rSp_flat o.h) rfl id rfl,kFlat (rSp_flat o.d) rfl id rfl,kCells rfl rfl id rfl,kCells rfl rfl id rfl,kCells rfl rfl id rfl,trivial⟩ rfl (fun _ _=>rfl))
     ·skip
      have n48:=unF c48
      refine vc_skip ?_
      refine vc_region hm ?_
      refine gM trivial (.inl rfl) rfl rfl rfl ?_
      refine gA trivial rfl rfl rfl rfl rfl rfl (by omega) ?_
      refine gM trivial (.inr rfl) rfl rfl rfl ?_
      refine rg_nil nofun ?_
      exact lp_next (m:=idm) ⟨i + 1,(by omega),(by omega),rfl,rfl⟩ (by omega) (le_mk rfl ⟨⟨rfl,rfl⟩,⟨rfl,rfl⟩,⟨rfl,rfl⟩,⟨rfl,rfl⟩,⟨eqT (hT1 i (by omega) n48).symm,rfl⟩,⟨rfl,rfl⟩,trivial⟩ ⟨kFlat (rSp_flat o.h) rfl id rfl,kFlat (rSp_flat o.d) rfl id rfl,kCells rfl rfl id rfl,kCells rfl rfl id rfl,kCells rfl rfl id rfl,trivial⟩ rfl (fun _ _=>rfl))
    ·skip
     have p41:=of_decide_eq_false c41
     refine vc_exit ?_
     refine vc_seq ?_
     refine vc_region hm ?_
     refine gL trivial rfl rfl rfl rfl rfl rfl rfl rfl ?_
     refine gM trivial (.inl rfl) rfl rfl rfl ?_
     refine gF trivial rfl rfl rfl rfl rfl ?_
     refine gL trivial rfl rfl rfl rfl rfl rfl rfl rfl ?_
     refine gL trivial rfl rfl rfl rfl rfl rfl rfl rfl ?_
     refine gCn 6 [0,5] (spec_l1Add_c (l:=o.h) (s:=s) (ok_len h).2.1 (spanOk_in n17)) trivial rfl rfl rfl rfl ⟨rFlat (rSp_flat o.h) rfl (.inl rfl) rfl,trivial⟩ ⟨rSp_flat _,trivial⟩ rfl rfl rfl rfl ?_
     refine gF trivial rfl rfl rfl rfl rfl ?_
     refine gL trivial rfl rfl rfl rfl rfl rfl rfl rfl ?_
     refine gU trivial rfl rfl rfl rfl rfl rfl rfl rfl ?_
     obtain rfl:i=s.hi:=by omega
     refine gCn 8 [0,1,5,1,6,7] (spec_l6Put_c (o:=o) (x:=⟨T s.hi,l1ofP (putP (ofP o.h) (ofP [s]) true),o.d⟩) (ok_len h).1 (ok_len h).2.1 (ok_len h).2.2 (by show (T s.hi).size≤_;rw [hTs];decide) (Nat.le_trans ofL48_len (by decide)) (ok_len h).2.2) trivial rfl rfl rfl rfl ⟨rFlat (rSp_flat o.h) rfl (.inl rfl) rfl,rFlat (rSp_flat o.d) rfl (.inl rfl) rfl,rFlat (rSp_flat _) rfl (.inl rfl) rfl,rFlat (rSp_flat o.d) rfl (.inl rfl) rfl,trivial⟩ ⟨rSp_flat _,rSp_flat _,trivial⟩ rfl rfl rfl rfl ?_
     refine gE trivial rfl rfl rfl rfl rfl rfl ?_
     refine gE trivial rfl rfl rfl rfl rfl rfl ?_
     refine gT trivial rfl rfl rfl rfl rfl rfl rfl rfl rfl rfl (Nat.le_of_ble_eq_true rfl) rfl ?_
     refine gM trivial (.inr rfl) rfl rfl rfl ?_
     refine rg_nil (fun _=>by kernel_rfl) ?_
     refine vc_ret ?_
     have e_:=chO_P (o:=o) (x:=(fillX o s d)) (mayF_5 n17 n22 p31)
     rw [e_.1,e_.2,hTX]
     exact ⟨_,endsG [(2,6,⟨rSp (putO o ⟨T s.hi,l1ofP (putP (ofP o.h) (ofP [s]) true),o.d⟩).h,38,2⟩),(3,7,⟨rSp (putO o ⟨T s.hi,l1ofP (putP (ofP o.h) (ofP [s]) true),o.d⟩).d,38,2⟩)] (.inr rfl) (.cell rfl rfl rfl rfl rfl (.tmp rfl rfl .nil)) rfl rfl trivial ⟨⟨rfl,rSp_flat _⟩,⟨rfl,rSp_flat _⟩,trivial⟩ rfl⟩
theorem spec_OwnDrop_w {o:Ow} {s:Sp} (h:ownOk o=true):FDoes Try.prog 34 [.agg #[.string o.t,.slice (some ⟨0,0,none⟩) o.h.length 0,.slice (some ⟨1,0,none⟩) o.d.length 0],vSp s] (hp [(0,false,one ⟨rSp o.h,38,0⟩),(1,false,one ⟨rSp o.d,38,0⟩)]) (mkE (.tuple #[.agg #[.string (chO (mayD o s) o (dropX o s)).t,.slice (some ⟨2,0,none⟩) (chO (mayD o s) o (dropX o s)).h.length 0,.slice (some ⟨3,0,none⟩) (chO (mayD o s) o (dropX o s)).d.length 0],.bool (chB (mayD o s) (dropX o s))]) [0,1] [] [(2,⟨rSp (chO (mayD o s) o (dropX o s)).h,38,2⟩),(3,⟨rSp (chO (mayD o s) o (dropX o s)).d,38,2⟩)]):=by
 have hm:Try.prog.follows .mixedOrders=true:=by kernel_rfl
 have hd_:∀ x_ ∈ ([(0,false,one ⟨rSp o.h,38,0⟩),(1,false,one ⟨rSp o.d,38,0⟩)]:List (Nat × Bool × Fam)),∀ k_ y_,x_.2.2 k_=some y_→DetB (lt 2) y_:=by
  intro x_ hx k_ y_ e
  simp only [List.mem_cons,List.not_mem_nil,or_false] at hx
  rcases hx with rfl|rfl
  ·exact det_row (rSp_flat o.h) e
  ·exact det_row (rSp_flat o.d) e
 have hsz:=ownOk_size h
 obtain ⟨T,hT⟩:∃ T:ByteArray,T=overT o.t s.lo s.hi (blankT (s.hi - s.lo).toNat):=⟨_,rfl⟩
 have hT2:spanOk s=true→T=bytesS (fL (blankF o.t s.lo s.hi)):=fun e=>by rw [hT];exact blank_over hsz (by have:=spanOk_in e;omega) (by have:=spanOk_in e;omega) (by have:=spanOk_in e;omega)
 have hTX:spanOk s=true→dropX o s=⟨T,l1ofP (putP (ofP o.h) (ofP [s]) false),o.d⟩:=fun e=>by rw [hT2 e];rfl
 have hTs:spanOk s=true→T.size=48:=fun e=>by rw [hT2 e];exact blank_len
 clear hT2
 refine fn_exact (u0:=2) Try.func34 rfl rfl (gets rfl rfl rfl hd_ rfl) ?_
 clear hd_
 refine vc_seq ?_
 refine vc_region hm ?_
 refine gB (u':=3) trivial rfl rfl rfl rfl rfl rfl rfl rfl ?_
 refine gB (u':=4) trivial rfl rfl rfl rfl rfl rfl rfl rfl ?_
 refine gZ (u':=5) trivial rfl rfl rfl rfl rfl rfl rfl rfl ?_
 refine gM trivial (.inr rfl) rfl rfl rfl ?_
 refine rg_nil nofun ?_
 refine vc_seq ?_
 refine vc_seq ?_
 refine vc_region hm ?_
 refine gL trivial rfl rfl rfl rfl rfl rfl rfl rfl ?_
 refine gC0 [0,1] (spec_OwnOk_c (o:=o) (ok_len h).1 (ok_len h).2.1 (ok_len h).2.2) trivial rfl rfl rfl rfl ⟨rFlat (rSp_flat o.h) rfl (.inl rfl) rfl,rFlat (rSp_flat o.d) rfl (.inl rfl) rfl,trivial⟩ rfl rfl rfl rfl rfl ?_
 refine gN trivial rfl rfl rfl rfl ?_
 refine rg_nil nofun ?_
 refine cF rfl (notT h) ?_
 refine vc_skip ?_
 refine vc_seq ?_
 refine vc_seq ?_
 refine vc_region hm ?_
 refine gL trivial rfl rfl rfl rfl rfl rfl rfl rfl ?_
 refine gC0 [] (spec_SpanOk_c s) trivial rfl rfl rfl rfl (by trivial) rfl rfl rfl rfl rfl ?_
 refine gN trivial rfl rfl rfl rfl ?_
 refine gM trivial (.inl rfl) rfl rfl rfl ?_
 refine gI2 (d:=13) rfl (fun c13=>?_) (fun c13=>?_)
 ·skip
  have n13:=unT c13
  refine gO ⟨_,_,rfl,rfl,c13⟩ rfl rfl ?_
  refine gO ⟨_,_,rfl,rfl,c13⟩ rfl rfl ?_
  refine gO ⟨_,_,rfl,rfl,c13⟩ rfl rfl ?_
  refine gO ⟨_,_,rfl,rfl,c13⟩ rfl rfl ?_
  refine gO ⟨_,_,rfl,rfl,c13⟩ rfl rfl ?_
  refine gPT trivial rfl rfl c13 rfl rfl rfl ?_
  refine rg_nil nofun ?_
  refine cT rfl rfl ?_
  refine vc_seq ?_
  refine vc_region hm ?_
  refine gL trivial rfl rfl rfl rfl rfl rfl rfl rfl ?_
  refine gCn 7 [0,1,5,6] (spec_l6Copy_c (o:=o) (ok_len h).1 (ok_len h).2.1 (ok_len h).2.2) trivial rfl rfl rfl rfl ⟨rFlat (rSp_flat o.h) rfl (.inl rfl) rfl,rFlat (rSp_flat o.d) rfl (.inl rfl) rfl,trivial⟩ ⟨rSp_flat _,rSp_flat _,trivial⟩ rfl rfl rfl rfl ?_
  refine gT trivial rfl rfl rfl rfl rfl rfl rfl rfl rfl rfl (Nat.le_of_ble_eq_true rfl) rfl ?_
  refine gM trivial (.inr rfl) rfl rfl rfl ?_
  refine rg_nil nofun ?_
  refine vc_ret ?_
  have e_:=chO_F (o:=o) (x:=(dropX o s)) (may:=mayD o s) (by first|exact mayD_1 n13|exact mayD_3 p19)
  rw [e_.1,e_.2]
  exact ⟨_,endsG [(2,5,⟨rSp o.h,38,2⟩),(3,6,⟨rSp o.d,38,2⟩)] (.inr rfl) (.cell rfl rfl rfl rfl rfl (.tmp rfl rfl .nil)) rfl rfl trivial ⟨⟨rfl,rSp_flat _⟩,⟨rfl,rSp_flat _⟩,trivial⟩ rfl⟩
 ·skip
  have n13:=unF c13
  refine gL ⟨_,_,rfl,rfl,c13⟩ rfl rfl rfl rfl rfl rfl rfl rfl ?_
  refine gL ⟨_,_,rfl,rfl,c13⟩ rfl rfl rfl rfl rfl rfl rfl rfl ?_
  refine gCn 6 [0,1,5] (spec_l6Patches_w (o:=o) (p:=s) h n13) ⟨_,_,rfl,rfl,c13⟩ rfl rfl rfl rfl ⟨rFlat (rSp_flat o.h) rfl (.inr rfl) rfl,rFlat (rSp_flat o.d) rfl (.inr rfl) rfl,trivial⟩ ⟨rPa_flat _,trivial⟩ rfl rfl rfl rfl ?_
  refine gK ⟨_,_,rfl,rfl,c13⟩ rfl rfl rfl rfl rfl rfl rPa_nil ?_
  refine gI ⟨_,_,rfl,rfl,c13⟩ rfl rfl rfl rfl rfl rfl ?_
  refine gPF trivial rfl rfl c13 rfl rfl rfl ?_
  refine rg_nil nofun ?_
  refine cI rfl (fun c19=>?_) (fun c19=>?_)
  ·skip
   have p19:=of_decide_eq_true c19
   refine vc_seq ?_
   refine vc_region hm ?_
   refine gL trivial rfl rfl rfl rfl rfl rfl rfl rfl ?_
   refine gCn 8 [0,1,6,7] (spec_l6Copy_c (o:=o) (ok_len h).1 (ok_len h).2.1 (ok_len h).2.2) trivial rfl rfl rfl rfl ⟨rFlat (rSp_flat o.h) rfl (.inl rfl) rfl,rFlat (rSp_flat o.d) rfl (.inl rfl) rfl,trivial⟩ ⟨rSp_flat _,rSp_flat _,trivial⟩ rfl rfl rfl rfl ?_
   refine gT trivial rfl rfl rfl rfl rfl rfl rfl rfl rfl rfl (Nat.le_of_ble_eq_true rfl) rfl ?_
   refine gM trivial (.inr rfl) rfl rfl rfl ?_
   refine rg_nil nofun ?_
   refine vc_ret ?_
   have e_:=chO_F (o:=o) (x:=(dropX o s)) (may:=mayD o s) (by first|exact mayD_1 n13|exact mayD_3 p19)
   rw [e_.1,e_.2]
   exact ⟨_,endsG [(2,6,⟨rSp o.h,38,2⟩),(3,7,⟨rSp o.d,38,2⟩)] (.inr rfl) (.cell rfl rfl rfl rfl rfl (.tmp rfl rfl .nil)) rfl rfl trivial ⟨⟨rfl,rSp_flat _⟩,⟨rfl,rSp_flat _⟩,trivial⟩ rfl⟩
  ·skip
   have p19:=of_decide_eq_false c19
   refine vc_skip ?_
   refine vc_seq ?_
   refine vc_region hm ?_
   refine gL trivial rfl rfl rfl rfl rfl rfl rfl rfl ?_
   refine gF trivial rfl rfl rfl rfl rfl ?_
   refine gL trivial rfl rfl rfl rfl rfl rfl rfl rfl ?_
   refine gL trivial rfl rfl rfl rfl rfl rfl rfl rfl ?_
   refine gF trivial rfl rfl rfl rfl rfl ?_
   refine gL trivial rfl rfl rfl rfl rfl rfl rfl rfl ?_
   refine gF trivial rfl rfl rfl rfl rfl ?_
   refine gL trivial rfl rfl rfl rfl rfl rfl rfl rfl ?_
   refine gA trivial rfl rfl rfl rfl rfl rfl (by have:=spanOk_in n13;omega) ?_
   refine gC0 [] (spec_l6Blank_c (n:=s.hi - s.lo) (by have:=spanOk_in n13;omega) (by have:=spanOk_in n13;omega)) trivial rfl rfl rfl rfl (by trivial) rfl rfl rfl rfl rfl ?_
   refine gC0 [] (hT ▸ spec_l6Over_c (t:=o.t) (d:=blankT (s.hi - s.lo).toNat) (s:=s) (by have:=spanOk_in n13;omega) (by have:=spanOk_in n13;omega) (by have:=spanOk_in n13;omega) (ok_len h).1 (by rw [blankT_size];have:=spanOk_in n13;omega)) trivial rfl rfl rfl rfl (by trivial) rfl rfl rfl rfl rfl ?_
   refine gF trivial rfl rfl rfl rfl rfl ?_
   refine gL trivial rfl rfl rfl rfl rfl rfl rfl rfl ?_
   refine gL trivial rfl rfl rfl rfl rfl rfl rfl rfl ?_
   refine gCn 7 [0,6] (spec_l1Cut_c (l:=o.h) (s:=s) (ok_len h).2.1 (spanOk_in n13)) trivial rfl rfl rfl rfl ⟨rFlat (rSp_flat o.h) rfl (.inl rfl) rfl,trivial⟩ ⟨rSp_flat _,trivial⟩ rfl rfl rfl rfl ?_
   refine gF trivial rfl rfl rfl rfl rfl ?_
   refine gL trivial rfl rfl rfl rfl rfl rfl rfl rfl ?_
   refine gU trivial rfl rfl rfl rfl rfl rfl rfl rfl ?_
   refine gCn 9 [0,1,6,1,7,8] (spec_l6Put_c (o:=o) (x:=⟨T,l1ofP (putP (ofP o.h) (ofP [s]) false),o.d⟩) (ok_len h).1 (ok_len h).2.1 (ok_len h).2.2 (by show T.size≤_;rw [hTs n13];decide) (Nat.le_trans ofL48_len (by decide)) (ok_len h).2.2) trivial rfl rfl rfl rfl ⟨rFlat (rSp_flat o.h) rfl (.inl rfl) rfl,rFlat (rSp_flat o.d) rfl (.inl rfl) rfl,rFlat (rSp_flat _) rfl (.inl rfl) rfl,rFlat (rSp_flat o.d) rfl (.inl rfl) rfl,trivial⟩ ⟨rSp_flat _,rSp_flat _,trivial⟩ rfl rfl rfl rfl ?_
   refine gE trivial rfl rfl rfl rfl rfl rfl ?_
   refine gE trivial rfl rfl rfl rfl rfl rfl ?_
   refine gT trivial rfl rfl rfl rfl rfl rfl rfl rfl rfl rfl (Nat.le_of_ble_eq_true rfl) rfl ?_
   refine gM trivial (.inr rfl) rfl rfl rfl ?_
   refine rg_nil (fun _=>by kernel_rfl) ?_
   refine vc_ret ?_
   have e_:=chO_P (o:=o) (x:=(dropX o s)) (mayD_4 n13 p19)
   rw [e_.1,e_.2,hTX n13]
   exact ⟨_,endsG [(2,7,⟨rSp (putO o ⟨T,l1ofP (putP (ofP o.h) (ofP [s]) false),o.d⟩).h,38,2⟩),(3,8,⟨rSp (putO o ⟨T,l1ofP (putP (ofP o.h) (ofP [s]) false),o.d⟩).d,38,2⟩)] (.inr rfl) (.cell rfl rfl rfl rfl rfl (.tmp rfl rfl .nil)) rfl rfl trivial ⟨⟨rfl,rSp_flat _⟩,⟨rfl,rSp_flat _⟩,trivial⟩ rfl⟩
theorem spec_OwnWrite_w {o:Ow} {a:Int} {d:ByteArray} (h:ownOk o=true) (hd4:d.size≤1048576):FDoes Try.prog 40 [.agg #[.string o.t,.slice (some ⟨0,0,none⟩) o.h.length 0,.slice (some ⟨1,0,none⟩) o.d.length 0],.int .i64 a,.string d] (hp [(0,false,one ⟨rSp o.h,38,0⟩),(1,false,one ⟨rSp o.d,38,0⟩)]) (mkE (.tuple #[.agg #[.string (chO (mayW a d) o (writeX o a d)).t,.slice (some ⟨2,0,none⟩) (chO (mayW a d) o (writeX o a d)).h.length 0,.slice (some ⟨3,0,none⟩) (chO (mayW a d) o (writeX o a d)).d.length 0],.bool (chB (mayW a d) (writeX o a d))]) [0,1] [] [(2,⟨rSp (chO (mayW a d) o (writeX o a d)).h,38,2⟩),(3,⟨rSp (chO (mayW a d) o (writeX o a d)).d,38,2⟩)]):=by
 have hm:Try.prog.follows .mixedOrders=true:=by kernel_rfl
 have hd_:∀ x_ ∈ ([(0,false,one ⟨rSp o.h,38,0⟩),(1,false,one ⟨rSp o.d,38,0⟩)]:List (Nat × Bool × Fam)),∀ k_ y_,x_.2.2 k_=some y_→DetB (lt 2) y_:=by
  intro x_ hx k_ y_ e
  simp only [List.mem_cons,List.not_mem_nil,or_false] at hx
  rcases hx with rfl|rfl
  ·exact det_row (rSp_flat o.h) e
  ·exact det_row (rSp_flat o.d) e
 have hsz:=ownOk_size h
 obtain ⟨T,hT⟩:∃ T:ByteArray,T=overT o.t a (a + d.size) d:=⟨_,rfl⟩
 have hT2:mayW a d=true→T=bytesS (fL (writeF o.t d a)):=fun e=>by rw [hT];exact write_over hsz (mayW_in e).1.1 (mayW_in e).1.2.2.2
 have hTX:mayW a d=true→writeX o a d=⟨T,l1ofP (putP (ofP o.h) (ofP [partW a d]) true),l1ofP (putP (ofP o.d) (ofP [partW a d]) true)⟩:=fun e=>by rw [hT2 e]
 have hTs:mayW a d=true→T.size=48:=fun e=>by rw [hT2 e];exact bytesS_size.trans fL_len
 clear hT2
 refine fn_exact (u0:=2) Try.func40 rfl rfl (gets rfl rfl rfl hd_ rfl) ?_
 clear hd_
 refine vc_seq ?_
 refine vc_region hm ?_
 refine gB (u':=3) trivial rfl rfl rfl rfl rfl rfl rfl rfl ?_
 refine gZ (u':=4) trivial rfl rfl rfl rfl rfl rfl rfl rfl ?_
 refine gM trivial (.inr rfl) rfl rfl rfl ?_
 refine rg_nil nofun ?_
 refine vc_seq ?_
 refine vc_seq ?_
 refine vc_region hm ?_
 refine gL trivial rfl rfl rfl rfl rfl rfl rfl rfl ?_
 refine gC0 [0,1] (spec_OwnOk_c (o:=o) (ok_len h).1 (ok_len h).2.1 (ok_len h).2.2) trivial rfl rfl rfl rfl ⟨rFlat (rSp_flat o.h) rfl (.inl rfl) rfl,rFlat (rSp_flat o.d) rfl (.inl rfl) rfl,trivial⟩ rfl rfl rfl rfl rfl ?_
 refine gN trivial rfl rfl rfl rfl ?_
 refine rg_nil nofun ?_
 refine cF rfl (notT h) ?_
 refine vc_skip ?_
 refine vc_seq ?_
 refine vc_seq ?_
 refine vc_region hm ?_
 refine gM trivial (.inl rfl) rfl rfl rfl ?_
 refine gI trivial rfl rfl rfl rfl rfl rfl ?_
 refine gM trivial (.inl rfl) rfl rfl rfl ?_
 refine gI2 (d:=15) rfl (fun c15=>?_) (fun c15=>?_)
 ·skip
  have p15:=of_decide_eq_true c15
  refine gO ⟨_,_,rfl,rfl,c15⟩ rfl rfl ?_
  refine gO ⟨_,_,rfl,rfl,c15⟩ rfl rfl ?_
  refine gPT trivial rfl rfl c15 rfl rfl rfl ?_
  refine gM trivial (.inl rfl) rfl rfl rfl ?_
  refine gO ⟨_,_,rfl,rfl,rfl⟩ rfl rfl ?_
  refine gO ⟨_,_,rfl,rfl,rfl⟩ rfl rfl ?_
  refine gO ⟨_,_,rfl,rfl,rfl⟩ rfl rfl ?_
  refine gPT trivial rfl rfl rfl rfl rfl rfl ?_
  refine gM trivial (.inl rfl) rfl rfl rfl ?_
  refine gO ⟨_,_,rfl,rfl,rfl⟩ rfl rfl ?_
  refine gO ⟨_,_,rfl,rfl,rfl⟩ rfl rfl ?_
  refine gPT trivial rfl rfl rfl rfl rfl rfl ?_
  refine gM trivial (.inl rfl) rfl rfl rfl ?_
  refine gO ⟨_,_,rfl,rfl,rfl⟩ rfl rfl ?_
  refine gO ⟨_,_,rfl,rfl,rfl⟩ rfl rfl ?_
  refine gO ⟨_,_,rfl,rfl,rfl⟩ rfl rfl ?_
  refine gO ⟨_,_,rfl,rfl,rfl⟩ rfl rfl ?_
  refine gO ⟨_,_,rfl,rfl,rfl⟩ rfl rfl ?_
  refine gPT trivial rfl rfl rfl rfl rfl rfl ?_
  refine rg_nil nofun ?_
  refine cT rfl rfl ?_
  refine vc_seq ?_
  refine vc_region hm ?_
  refine gL trivial rfl rfl rfl rfl rfl rfl rfl rfl ?_
  refine gCn 6 [0,1,4,5] (spec_l6Copy_c (o:=o) (ok_len h).1 (ok_len h).2.1 (ok_len h).2.2) trivial rfl rfl rfl rfl ⟨rFlat (rSp_flat o.h) rfl (.inl rfl) rfl,rFlat (rSp_flat o.d) rfl (.inl rfl) rfl,trivial⟩ ⟨rSp_flat _,rSp_flat _,trivial⟩ rfl rfl rfl rfl ?_
  refine gT trivial rfl rfl rfl rfl rfl rfl rfl rfl rfl rfl (Nat.le_of_ble_eq_true rfl) rfl ?_
  refine gM trivial (.inr rfl) rfl rfl rfl ?_
  refine rg_nil nofun ?_
  refine vc_ret ?_
  have e_:=chO_F (o:=o) (x:=(writeX o a d)) (may:=mayW a d) (by first|exact mayW_1 (by assumption)|exact mayW_2 (by assumption)|exact mayW_3 (by assumption)|exact mayW_4 (by assumption)|exact mayW_5 (by assumption))
  rw [e_.1,e_.2]
  exact ⟨_,endsG [(2,4,⟨rSp o.h,38,2⟩),(3,5,⟨rSp o.d,38,2⟩)] (.inr rfl) (.cell rfl rfl rfl rfl rfl (.tmp rfl rfl .nil)) rfl rfl trivial ⟨⟨rfl,rSp_flat _⟩,⟨rfl,rSp_flat _⟩,trivial⟩ rfl⟩
 ·skip
  have p15:=of_decide_eq_false c15
  refine gM ⟨_,_,rfl,rfl,c15⟩ (.inl rfl) rfl rfl rfl ?_
  refine gI ⟨_,_,rfl,rfl,c15⟩ rfl rfl rfl rfl rfl rfl ?_
  refine gPF trivial rfl rfl c15 rfl rfl rfl ?_
  refine gM trivial (.inl rfl) rfl rfl rfl ?_
  refine gI2 (d:=19) rfl (fun c19=>?_) (fun c19=>?_)
  ·skip
   have p19:=of_decide_eq_true c19
   refine gO ⟨_,_,rfl,rfl,c19⟩ rfl rfl ?_
   refine gO ⟨_,_,rfl,rfl,c19⟩ rfl rfl ?_
   refine gO ⟨_,_,rfl,rfl,c19⟩ rfl rfl ?_
   refine gPT trivial rfl rfl c19 rfl rfl rfl ?_
   refine gM trivial (.inl rfl) rfl rfl rfl ?_
   refine gO ⟨_,_,rfl,rfl,rfl⟩ rfl rfl ?_
   refine gO ⟨_,_,rfl,rfl,rfl⟩ rfl rfl ?_
   refine gPT trivial rfl rfl rfl rfl rfl rfl ?_
   refine gM trivial (.inl rfl) rfl rfl rfl ?_
   refine gO ⟨_,_,rfl,rfl,rfl⟩ rfl rfl ?_
   refine gO ⟨_,_,rfl,rfl,rfl⟩ rfl rfl ?_
   refine gO ⟨_,_,rfl,rfl,rfl⟩ rfl rfl ?_
   refine gO ⟨_,_,rfl,rfl,rfl⟩ rfl rfl ?_
   refine gO ⟨_,_,rfl,rfl,rfl⟩ rfl rfl ?_
   refine gPT trivial rfl rfl rfl rfl rfl rfl ?_
   refine rg_nil nofun ?_
   refine cT rfl rfl ?_
   refine vc_seq ?_
   refine vc_region hm ?_
   refine gL trivial rfl rfl rfl rfl rfl rfl rfl rfl ?_
   refine gCn 6 [0,1,4,5] (spec_l6Copy_c (o:=o) (ok_len h).1 (ok_len h).2.1 (ok_len h).2.2) trivial rfl rfl rfl rfl ⟨rFlat (rSp_flat o.h) rfl (.inl rfl) rfl,rFlat (rSp_flat o.d) rfl (.inl rfl) rfl,trivial⟩ ⟨rSp_flat _,rSp_flat _,trivial⟩ rfl rfl rfl rfl ?_
   refine gT trivial rfl rfl rfl rfl rfl rfl rfl rfl rfl rfl (Nat.le_of_ble_eq_true rfl) rfl ?_
   refine gM trivial (.inr rfl) rfl rfl rfl ?_
   refine rg_nil nofun ?_
   refine vc_ret ?_
   have e_:=chO_F (o:=o) (x:=(writeX o a d)) (may:=mayW a d) (by first|exact mayW_1 (by assumption)|exact mayW_2 (by assumption)|exact mayW_3 (by assumption)|exact mayW_4 (by assumption)|exact mayW_5 (by assumption))
   rw [e_.1,e_.2]
   exact ⟨_,endsG [(2,4,⟨rSp o.h,38,2⟩),(3,5,⟨rSp o.d,38,2⟩)] (.inr rfl) (.cell rfl rfl rfl rfl rfl (.tmp rfl rfl .nil)) rfl rfl trivial ⟨⟨rfl,rSp_flat _⟩,⟨rfl,rSp_flat _⟩,trivial⟩ rfl⟩
  ·skip
   have p19:=of_decide_eq_false c19
   refine gM ⟨_,_,rfl,rfl,c19⟩ (.inl rfl) rfl rfl rfl ?_
   refine gC0 [] (spec_TextOk_c (s:=d) (by omega)) ⟨_,_,rfl,rfl,c19⟩ rfl rfl rfl rfl (by trivial) rfl rfl rfl rfl rfl ?_
   refine gN ⟨_,_,rfl,rfl,c19⟩ rfl rfl rfl rfl ?_
   refine gPF trivial rfl rfl c19 rfl rfl rfl ?_
   refine gM trivial (.inl rfl) rfl rfl rfl ?_
   refine gI2 (d:=24) rfl (fun c24=>?_) (fun c24=>?_)
   ·skip
    have n24:=unT c24
    refine gO ⟨_,_,rfl,rfl,c24⟩ rfl rfl ?_
    refine gO ⟨_,_,rfl,rfl,c24⟩ rfl rfl ?_
    refine gPT trivial rfl rfl c24 rfl rfl rfl ?_
    refine gM trivial (.inl rfl) rfl rfl rfl ?_
    refine gO ⟨_,_,rfl,rfl,rfl⟩ rfl rfl ?_
    refine gO ⟨_,_,rfl,rfl,rfl⟩ rfl rfl ?_
    refine gO ⟨_,_,rfl,rfl,rfl⟩ rfl rfl ?_
    refine gO ⟨_,_,rfl,rfl,rfl⟩ rfl rfl ?_
    refine gO ⟨_,_,rfl,rfl,rfl⟩ rfl rfl ?_
    refine gPT trivial rfl rfl rfl rfl rfl rfl ?_
    refine rg_nil nofun ?_
    refine cT rfl rfl ?_
    refine vc_seq ?_
    refine vc_region hm ?_
    refine gL trivial rfl rfl rfl rfl rfl rfl rfl rfl ?_
    refine gCn 6 [0,1,4,5] (spec_l6Copy_c (o:=o) (ok_len h).1 (ok_len h).2.1 (ok_len h).2.2) trivial rfl rfl rfl rfl ⟨rFlat (rSp_flat o.h) rfl (.inl rfl) rfl,rFlat (rSp_flat o.d) rfl (.inl rfl) rfl,trivial⟩ ⟨rSp_flat _,rSp_flat _,trivial⟩ rfl rfl rfl rfl ?_
    refine gT trivial rfl rfl rfl rfl rfl rfl rfl rfl rfl rfl (Nat.le_of_ble_eq_true rfl) rfl ?_
    refine gM trivial (.inr rfl) rfl rfl rfl ?_
    refine rg_nil nofun ?_
    refine vc_ret ?_
    have e_:=chO_F (o:=o) (x:=(writeX o a d)) (may:=mayW a d) (by first|exact mayW_1 (by assumption)|exact mayW_2 (by assumption)|exact mayW_3 (by assumption)|exact mayW_4 (by assumption)|exact mayW_5 (by assumption))
    rw [e_.1,e_.2]
    exact ⟨_,endsG [(2,4,⟨rSp o.h,38,2⟩),(3,5,⟨rSp o.d,38,2⟩)] (.inr rfl) (.cell rfl rfl rfl rfl rfl (.tmp rfl rfl .nil)) rfl rfl trivial ⟨⟨rfl,rSp_flat _⟩,⟨rfl,rSp_flat _⟩,trivial⟩ rfl⟩
   ·skip
    have n24:=unF c24
    refine gM ⟨_,_,rfl,rfl,c24⟩ (.inl rfl) rfl rfl rfl ?_
    refine gS ⟨_,_,rfl,rfl,c24⟩ rfl rfl rfl rfl rfl rfl ?_
    refine gPF trivial rfl rfl c24 rfl rfl rfl ?_
    refine gM trivial (.inl rfl) rfl rfl rfl ?_
    refine gI2 (d:=28) rfl (fun c28=>?_) (fun c28=>?_)
    ·skip
     refine gO ⟨_,_,rfl,rfl,c28⟩ rfl rfl ?_
     refine gO ⟨_,_,rfl,rfl,c28⟩ rfl rfl ?_
     refine gO ⟨_,_,rfl,rfl,c28⟩ rfl rfl ?_
     refine gO ⟨_,_,rfl,rfl,c28⟩ rfl rfl ?_
     refine gO ⟨_,_,rfl,rfl,c28⟩ rfl rfl ?_
     refine gPT trivial rfl rfl c28 rfl rfl rfl ?_
     refine rg_nil nofun ?_
     refine cT rfl rfl ?_
     refine vc_seq ?_
     refine vc_region hm ?_
     refine gL trivial rfl rfl rfl rfl rfl rfl rfl rfl ?_
     refine gCn 6 [0,1,4,5] (spec_l6Copy_c (o:=o) (ok_len h).1 (ok_len h).2.1 (ok_len h).2.2) trivial rfl rfl rfl rfl ⟨rFlat (rSp_flat o.h) rfl (.inl rfl) rfl,rFlat (rSp_flat o.d) rfl (.inl rfl) rfl,trivial⟩ ⟨rSp_flat _,rSp_flat _,trivial⟩ rfl rfl rfl rfl ?_
     refine gT trivial rfl rfl rfl rfl rfl rfl rfl rfl rfl rfl (Nat.le_of_ble_eq_true rfl) rfl ?_
     refine gM trivial (.inr rfl) rfl rfl rfl ?_
     refine rg_nil nofun ?_
     refine vc_ret ?_
     have e_:=chO_F (o:=o) (x:=(writeX o a d)) (may:=mayW a d) (by first|exact mayW_1 (by assumption)|exact mayW_2 (by assumption)|exact mayW_3 (by assumption)|exact mayW_4 (by assumption)|exact mayW_5 (by assumption))
     rw [e_.1,e_.2]
     exact ⟨_,endsG [(2,4,⟨rSp o.h,38,2⟩),(3,5,⟨rSp o.d,38,2⟩)] (.inr rfl) (.cell rfl rfl rfl rfl rfl (.tmp rfl rfl .nil)) rfl rfl trivial ⟨⟨rfl,rSp_flat _⟩,⟨rfl,rSp_flat _⟩,trivial⟩ rfl⟩
    ·skip
     refine gM ⟨_,_,rfl,rfl,c28⟩ (.inl rfl) rfl rfl rfl ?_
     refine gM ⟨_,_,rfl,rfl,c28⟩ (.inl rfl) rfl rfl rfl ?_
     refine gKT ⟨_,_,rfl,rfl,c28⟩ rfl rfl rfl rfl rfl ?_
     refine gA ⟨_,_,rfl,rfl,c28⟩ rfl rfl rfl rfl rfl rfl (by omega) ?_
     refine gI ⟨_,_,rfl,rfl,c28⟩ rfl rfl rfl rfl rfl rfl ?_
     refine gPF trivial rfl rfl c28 rfl rfl rfl ?_
     refine rg_nil nofun ?_
     refine cI rfl (fun c34=>?_) (fun c34=>?_)
     ·skip
      have p34:=of_decide_eq_true c34
      refine vc_seq ?_
      refine vc_region hm ?_
      refine gL trivial rfl rfl rfl rfl rfl rfl rfl rfl ?_
      refine gCn 6 [0,1,4,5] (spec_l6Copy_c (o:=o) (ok_len h).1 (ok_len h).2.1 (ok_len h).2.2) trivial rfl rfl rfl rfl ⟨rFlat (rSp_flat o.h) rfl (.inl rfl) rfl,rFlat (rSp_flat o.d) rfl (.inl rfl) rfl,trivial⟩ ⟨rSp_flat _,rSp_flat _,trivial⟩ rfl rfl rfl rfl ?_
      refine gT trivial rfl rfl rfl rfl rfl rfl rfl rfl rfl rfl (Nat.le_of_ble_eq_true rfl) rfl ?_
      refine gM trivial (.inr rfl) rfl rfl rfl ?_
      refine rg_nil nofun ?_
      refine vc_ret ?_
      have e_:=chO_F (o:=o) (x:=(writeX o a d)) (may:=mayW a d) (by first|exact mayW_1 (by assumption)|exact mayW_2 (by assumption)|exact mayW_3 (by assumption)|exact mayW_4 (by assumption)|exact mayW_5 (by assumption))
      rw [e_.1,e_.2]
      exact ⟨_,endsG [(2,4,⟨rSp o.h,38,2⟩),(3,5,⟨rSp o.d,38,2⟩)] (.inr rfl) (.cell rfl rfl rfl rfl rfl (.tmp rfl rfl .nil)) rfl rfl trivial ⟨⟨rfl,rSp_flat _⟩,⟨rfl,rSp_flat _⟩,trivial⟩ rfl⟩
     ·skip
      have p34:=of_decide_eq_false c34
      refine vc_skip ?_
      refine vc_seq ?_
      refine vc_region hm ?_
      refine gM trivial (.inl rfl) rfl rfl rfl ?_
      refine gM trivial (.inl rfl) rfl rfl rfl ?_
      refine gM trivial (.inl rfl) rfl rfl rfl ?_
      refine gKT trivial rfl rfl rfl rfl rfl ?_
      refine gA trivial rfl rfl rfl rfl rfl rfl (by omega) ?_
      refine gU trivial rfl rfl rfl rfl rfl rfl rfl rfl ?_
      refine gZ (u':=5) trivial rfl rfl rfl rfl rfl rfl rfl rfl ?_
      refine gT trivial rfl rfl rfl rfl rfl rfl rfl rfl rfl rfl (Nat.le_of_ble_eq_true rfl) rfl ?_
      refine rg_nil nofun ?_
      refine vc_seq ?_
      refine vc_region hm ?_
      refine gL trivial rfl rfl rfl rfl rfl rfl rfl rfl ?_
      refine gF trivial rfl rfl rfl rfl rfl ?_
      refine gL trivial rfl rfl rfl rfl rfl rfl rfl rfl ?_
      refine gL trivial rfl rfl rfl rfl rfl rfl rfl rfl ?_
      refine gM trivial (.inl rfl) rfl rfl rfl ?_
      have hmw:mayW a d=true:=mayW_T (by assumption) (by assumption) (by assumption) (by assumption) (by assumption)
      refine gC0 [] (hT ▸ spec_l6Over_c (t:=o.t) (d:=d) (s:=partW a d) (mayW_in hmw).1.1 (by show a≤a + d.size;omega) (by show a + d.size≤(o.t.size:Int);have:=(mayW_in hmw).1;omega) (ok_len h).1 hd4) trivial rfl rfl rfl rfl (by trivial) rfl rfl rfl rfl rfl ?_
      refine gF trivial rfl rfl rfl rfl rfl ?_
      refine gL trivial rfl rfl rfl rfl rfl rfl rfl rfl ?_
      refine gL trivial rfl rfl rfl rfl rfl rfl rfl rfl ?_
      refine gCn 6 [0,5] (spec_l1Add_c (l:=o.h) (s:=partW a d) (ok_len h).2.1 (spanOk_in (partW_ok hmw))) trivial rfl rfl rfl rfl ⟨rFlat (rSp_flat o.h) rfl (.inl rfl) rfl,trivial⟩ ⟨rSp_flat _,trivial⟩ rfl rfl rfl rfl ?_
      refine gF trivial rfl rfl rfl rfl rfl ?_
      refine gL trivial rfl rfl rfl rfl rfl rfl rfl rfl ?_
      refine gL trivial rfl rfl rfl rfl rfl rfl rfl rfl ?_
      refine gCn 7 [1,6] (spec_l1Add_c (l:=o.d) (s:=partW a d) (ok_len h).2.2 (spanOk_in (partW_ok hmw))) trivial rfl rfl rfl rfl ⟨rFlat (rSp_flat o.d) rfl (.inl rfl) rfl,trivial⟩ ⟨rSp_flat _,trivial⟩ rfl rfl rfl rfl ?_
      refine gU trivial rfl rfl rfl rfl rfl rfl rfl rfl ?_
      refine gCn 9 [0,1,5,6,7,8] (spec_l6Put_c (o:=o) (x:=⟨T,l1ofP (putP (ofP o.h) (ofP [partW a d]) true),l1ofP (putP (ofP o.d) (ofP [partW a d]) true)⟩) (ok_len h).1 (ok_len h).2.1 (ok_len h).2.2 (by show T.size≤_;rw [hTs hmw];decide) (Nat.le_trans ofL48_len (by decide)) (Nat.le_trans ofL48_len (by decide))) trivial rfl rfl rfl rfl ⟨rFlat (rSp_flat o.h) rfl (.inl rfl) rfl,rFlat (rSp_flat o.d) rfl (.inl rfl) rfl,rFlat (rSp_flat _) rfl (.inl rfl) rfl,rFlat (rSp_flat _) rfl (.inl rfl) rfl,trivial⟩ ⟨rSp_flat _,rSp_flat _,trivial⟩ rfl rfl rfl rfl ?_
      refine gE trivial rfl rfl rfl rfl rfl rfl ?_
      refine gE trivial rfl rfl rfl rfl rfl rfl ?_
      refine gT trivial rfl rfl rfl rfl rfl rfl rfl rfl rfl rfl (Nat.le_of_ble_eq_true rfl) rfl ?_
      refine gM trivial (.inr rfl) rfl rfl rfl ?_
      refine rg_nil (fun _=>by kernel_rfl) ?_
      refine vc_ret ?_
      have e_:=chO_P (o:=o) (x:=(writeX o a d)) hmw
      rw [e_.1,e_.2,hTX hmw]
      exact ⟨_,endsG [(2,7,⟨rSp (putO o ⟨T,l1ofP (putP (ofP o.h) (ofP [partW a d]) true),l1ofP (putP (ofP o.d) (ofP [partW a d]) true)⟩).h,38,2⟩),(3,8,⟨rSp (putO o ⟨T,l1ofP (putP (ofP o.h) (ofP [partW a d]) true),l1ofP (putP (ofP o.d) (ofP [partW a d]) true)⟩).d,38,2⟩)] (.inr rfl) (.cell rfl rfl rfl rfl rfl (.tmp rfl rfl .nil)) rfl rfl trivial ⟨⟨rfl,rSp_flat _⟩,⟨rfl,rSp_flat _⟩,trivial⟩ rfl⟩
theorem frFlat {m:Nat→Nat} {b c t e:Nat} {cs:List Value} (hf:cs.all flat1=true) (h:m b=c):m b=c∧rnF m (one ⟨cs,t,e⟩)=one ⟨cs,t,e⟩:=⟨h,rnF_flat hf⟩
theorem kSpA {xs:List Sp} {i:Int} (h0:0≤i) (h1:i<xs.length):0 + i.toNat * 2 + 2≤(rSp xs).length:=by
 rw [rowL_len (n:=2) (fun _=>rfl)]
 omega
theorem sSpA {xs:List Sp} {i:Int} {s:Sp} (h0:0≤i) (h1:i<xs.length):putL (rSp xs) (0 + i.toNat * 2) (cellsL (vSp s))=rSp (xs.set i.toNat s):=by
 rw [Nat.zero_add]
 exact rowL_set (enc:=eSp) (n:=2) (fun _=>rfl) xs i.toNat s (by omega)
theorem lists_c {l:List Int} {k n t0:Nat} {p:Int} (hl:ByL l) (hn:n≤l.length) (hp0:0≤p) (hp1:p≤995000):∃ E,FDoes Try.prog 96 [.pointer (some ⟨1,0,none⟩)] (hp [(0,false,one ⟨hls k (rY l),t0,0⟩),(1,true,one ⟨[.slice (some ⟨0,k,none⟩) n 0,.int .i64 (p)],101,2⟩)]) E∧∃ (L:List Sp) (p2:Int),L.length≤14∧p≤p2∧p2≤p + 90∧E=mkF (.slice (some ⟨2,0,none⟩) L.length 0) [0] [(1,one ⟨[.slice (some ⟨0,k,none⟩) n 0,.int .i64 (p2)],101,2⟩)] [(2,one ⟨rSp L,38,2⟩)]:=by
 have hm:Try.prog.follows .mixedOrders=true:=by kernel_rfl
 have hd_:∀ x_ ∈ ([(0,false,one ⟨hls k (rY l),t0,0⟩),(1,true,one ⟨[.slice (some ⟨0,k,none⟩) n 0,.int .i64 (p)],101,2⟩)]:List (Nat × Bool × Fam)),∀ k_ y_,x_.2.2 k_=some y_→DetB (lt 2) y_:=by
  intro x_ hx k_ y_ e
  simp only [List.mem_cons,List.not_mem_nil,or_false] at hx
  rcases hx with rfl|rfl
  ·exact det_code e
  ·exact det_ok rfl e
 refine fn_some (u0:=2) Try.func96 rfl rfl (gets rfl rfl rfl hd_ rfl) ?_
 clear hd_
 refine vc_seq ?_
 refine vc_region hm ?_
 refine gM trivial (.inr rfl) rfl rfl rfl ?_
 refine rg_nil nofun ?_
 refine vc_seq ?_
 refine vc_region hm ?_
 refine gM trivial (.inl rfl) rfl rfl rfl ?_
 obtain ⟨E1,hE1,L1,p1,l1a,l1b,q1a,q1b,rfl⟩:=list_c (k:=k) (t0:=t0) (p:=p) hl hn (by omega) (by omega) 
 refine gCF (ups':=[(1,one ⟨[.slice (some ⟨0,k,none⟩) n 0,.int .i64 (p1)],101,2⟩)]) (as':=[(2,one ⟨rSp L1,38,2⟩)]) (v':=.slice (some ⟨2,0,none⟩) L1.length 0) 3 [0,1,2] hE1 trivial rfl rfl rfl rfl ⟨rCode rfl rfl,rCells rfl ⟨rfl,rfl,.inr rfl⟩ rfl,trivial⟩ ⟨frOne rfl rfl,trivial⟩ ⟨frFlat (rSp_flat _) rfl,trivial⟩ rfl rfl (ho1 ⟨_,rfl⟩) (hu1 rfl) rfl rfl ?_
 refine gM trivial (.inr rfl) rfl rfl rfl ?_
 refine rg_nil nofun ?_
 refine vc_seq ?_
 refine vc_region hm ?_
 refine gM trivial (.inl rfl) rfl rfl rfl ?_
 refine gK trivial rfl rfl rfl rfl rfl rfl rSp_nil ?_
 refine gM trivial (.inr rfl) rfl rfl rfl ?_
 refine rg_nil nofun ?_
 refine vc_seq ?_
 refine vc_seq ?_
 refine vc_region hm ?_
 refine gM trivial (.inl rfl) rfl rfl rfl ?_
 refine gI trivial rfl rfl rfl rfl rfl rfl ?_
 refine gM trivial (.inl rfl) rfl rfl rfl ?_
 refine gI2 (d:=12) rfl (fun c12=>?_) (fun c12=>?_)
 ·skip
  have p12:=eq_of_beq c12
  refine gO ⟨_,_,rfl,rfl,c12⟩ rfl rfl ?_
  refine gO ⟨_,_,rfl,rfl,c12⟩ rfl rfl ?_
  refine gO ⟨_,_,rfl,rfl,c12⟩ rfl rfl ?_
  refine gPT trivial rfl rfl c12 rfl rfl rfl ?_
  refine rg_nil nofun ?_
  refine cT rfl rfl ?_
  refine vc_seq ?_
  refine vc_region hm ?_
  refine gM trivial (.inl rfl) rfl rfl rfl ?_
  refine gM trivial (.inr rfl) rfl rfl rfl ?_
  refine rg_nil nofun ?_
  refine vc_ret ?_
  exact ⟨mkF (.slice (some ⟨2,0,none⟩) (L1).length 0) [0] [(1,one ⟨[.slice (some ⟨0,k,none⟩) n 0,.int .i64 (p1)],101,2⟩)] [(2,one ⟨rSp (L1),38,2⟩)],_,endsT [(2,2,one ⟨rSp (L1),38,2⟩)] (.inr rfl) (.tmp rfl rfl .nil) rfl rfl ⟨upOne rfl rfl rfl,trivial⟩ ⟨asFlat rfl (rSp_flat _),trivial⟩ rfl,L1,_,(by omega),(by omega),(by omega),rfl⟩
 ·skip
  have p12:=ne_of_beq_false c12
  refine gM ⟨_,_,rfl,rfl,c12⟩ (.inl rfl) rfl rfl rfl ?_
  obtain ⟨E3,hE3,x3,x3a,x3b,rfl⟩:=pick_c (k:=k) (t0:=t0) (p:=p1) hl hn (by omega) (by omega) (m:=8) (by omega) (by omega)
  refine gCF (ups':=[(1,one ⟨[.slice (some ⟨0,k,none⟩) n 0,.int .i64 (p1 + 1)],101,2⟩)]) (as':=[]) (v':=.int .i64 x3) 3 [0,1] hE3 ⟨_,_,rfl,rfl,c12⟩ rfl rfl rfl rfl ⟨rCode rfl rfl,rCells rfl ⟨rfl,rfl,.inr rfl⟩ rfl,trivial⟩ ⟨frOne rfl rfl,trivial⟩ trivial rfl rfl (ho1 ⟨_,rfl⟩) (hu1 rfl) rfl rfl ?_
  refine gI ⟨_,_,rfl,rfl,c12⟩ rfl rfl rfl rfl rfl rfl ?_
  refine gPF trivial rfl rfl c12 rfl rfl rfl ?_
  refine rg_nil nofun ?_
  refine cI rfl (fun c16=>?_) (fun c16=>?_)
  ·skip
   have p16:=of_decide_eq_true c16
   refine vc_seq ?_
   refine vc_region hm ?_
   refine gM trivial (.inl rfl) rfl rfl rfl ?_
   refine gM trivial (.inr rfl) rfl rfl rfl ?_
   refine rg_nil nofun ?_
   refine vc_ret ?_
   exact ⟨mkF (.slice (some ⟨2,0,none⟩) (L1).length 0) [0] [(1,one ⟨[.slice (some ⟨0,k,none⟩) n 0,.int .i64 (p1 + 1)],101,2⟩)] [(2,one ⟨rSp (L1),38,2⟩)],_,endsT [(2,2,one ⟨rSp (L1),38,2⟩)] (.inr rfl) (.tmp rfl rfl .nil) rfl rfl ⟨upOne rfl rfl rfl,trivial⟩ ⟨asFlat rfl (rSp_flat _),trivial⟩ rfl,L1,_,(by omega),(by omega),(by omega),rfl⟩
  ·skip
   have p16:=of_decide_eq_false c16
   refine vc_skip ?_
   refine vc_seq ?_
   refine vc_region hm ?_
   refine gM trivial (.inl rfl) rfl rfl rfl ?_
   refine gM trivial (.inl rfl) rfl rfl rfl ?_
   obtain ⟨E5,hE5,x5,x5a,x5b,rfl⟩:=pick_c (k:=k) (t0:=t0) (p:=p1 + 1) hl hn (by omega) (by omega) (m:=L1.length) (by omega) (by omega)
   refine gCF (ups':=[(1,one ⟨[.slice (some ⟨0,k,none⟩) n 0,.int .i64 (p1 + 1 + 1)],101,2⟩)]) (as':=[]) (v':=.int .i64 x5) 3 [0,1] hE5 trivial rfl rfl rfl rfl ⟨rCode rfl rfl,rCells rfl ⟨rfl,rfl,.inr rfl⟩ rfl,trivial⟩ ⟨frOne rfl rfl,trivial⟩ trivial rfl rfl (ho1 ⟨_,rfl⟩) (hu1 rfl) rfl rfl ?_
   refine gM trivial (.inr rfl) rfl rfl rfl ?_
   refine rg_nil nofun ?_
   refine vc_seq ?_
   refine vc_seq ?_
   refine vc_region hm ?_
   refine gM trivial (.inl rfl) rfl rfl rfl ?_
   obtain ⟨E6,hE6,x6,x6a,x6b,rfl⟩:=pick_c (k:=k) (t0:=t0) (p:=p1 + 1 + 1) hl hn (by omega) (by omega) (m:=4) (by omega) (by omega)
   refine gCF (ups':=[(1,one ⟨[.slice (some ⟨0,k,none⟩) n 0,.int .i64 (p1 + 1 + 1 + 1)],101,2⟩)]) (as':=[]) (v':=.int .i64 x6) 3 [0,1] hE6 trivial rfl rfl rfl rfl ⟨rCode rfl rfl,rCells rfl ⟨rfl,rfl,.inr rfl⟩ rfl,trivial⟩ ⟨frOne rfl rfl,trivial⟩ trivial rfl rfl (ho1 ⟨_,rfl⟩) (hu1 rfl) rfl rfl ?_
   refine rg_nil nofun ?_
   refine vc_block ?_
   refine vc_seq ?_
   refine vc_region hm ?_
   refine gI trivial rfl rfl rfl rfl rfl rfl ?_
   refine gM trivial (.inr rfl) rfl rfl rfl ?_
   refine rg_nil nofun ?_
   refine cI rfl (fun c34=>?_) (fun c34=>?_)
   ·skip
    have p34:=eq_of_beq c34
    refine vc_region hm ?_
    refine gM trivial (.inl rfl) rfl rfl rfl ?_
    refine gM trivial (.inl rfl) rfl rfl rfl ?_
    refine gM trivial (.inl rfl) rfl rfl rfl ?_
    obtain ⟨E8,hE8,s8,p8,q8a,q8b,rfl⟩:=some_c (k:=k) (t0:=t0) (p:=p1 + 1 + 1 + 1) hl hn (by omega) (by omega) 
    refine gCF (ups':=[(1,one ⟨[.slice (some ⟨0,k,none⟩) n 0,.int .i64 (p8)],101,2⟩)]) (as':=[]) (v':=vSp s8) 3 [0,1] hE8 trivial rfl rfl rfl rfl ⟨rCode rfl rfl,rCells rfl ⟨rfl,rfl,.inr rfl⟩ rfl,trivial⟩ ⟨frOne rfl rfl,trivial⟩ trivial rfl rfl (ho1 ⟨_,rfl⟩) (hu1 rfl) rfl rfl ?_
    refine gX trivial rfl rfl rfl rfl rfl rfl rfl rfl (by omega) (by omega) rSp_ne ?_
    refine gT trivial rfl rfl rfl rfl rfl rfl rfl rfl rfl rfl (kSpA (by omega) (by omega)) (sSpA (by omega) (by omega)) ?_
    refine rg_nil nofun ?_
    refine vc_seq ?_
    refine vc_region hm ?_
    refine gM trivial (.inl rfl) rfl rfl rfl ?_
    refine gM trivial (.inr rfl) rfl rfl rfl ?_
    refine rg_nil nofun ?_
    refine vc_ret ?_
    exact ⟨mkF (.slice (some ⟨2,0,none⟩) (L1.set x5.toNat s8).length 0) [0] [(1,one ⟨[.slice (some ⟨0,k,none⟩) n 0,.int .i64 (p8)],101,2⟩)] [(2,one ⟨rSp (L1.set x5.toNat s8),38,2⟩)],_,endsT [(2,2,one ⟨rSp (L1.set x5.toNat s8),38,2⟩)] (.inr rfl) (.tmp rfl rfl .nil) (by rw [List.length_set];rfl) rfl ⟨upOne rfl rfl rfl,trivial⟩ ⟨asFlat rfl (rSp_flat _),trivial⟩ rfl,L1.set x5.toNat s8,_,(by rw [List.length_set];omega),(by omega),(by omega),rfl⟩
   ·skip
    have p34:=ne_of_beq_false c34
    refine vc_seq ?_
    refine vc_region hm ?_
    refine gI trivial rfl rfl rfl rfl rfl rfl ?_
    refine gM trivial (.inr rfl) rfl rfl rfl ?_
    refine rg_nil nofun ?_
    refine cI rfl (fun c41=>?_) (fun c41=>?_)
    ·skip
     have p41:=eq_of_beq c41
     refine vc_region hm ?_
     refine gM trivial (.inl rfl) rfl rfl rfl ?_
     refine gM trivial (.inl rfl) rfl rfl rfl ?_
     refine gM trivial (.inl rfl) rfl rfl rfl ?_
     refine gX trivial rfl rfl rfl rfl rfl rfl rfl rfl (by omega) (by omega) rSp_ne ?_
     refine gL trivial rfl rfl rfl rfl rfl rfl rfl (aSp (by omega) (by omega)) ?_
     refine gR (u':=4) (out:=rSp [at_ L1 x5]) trivial rfl rfl rfl rfl rfl rfl rfl rfl rfl rfl rfl rfl rfl rfl ?_
     refine gAp (u':=5) trivial rfl rfl rfl rfl rfl rfl rfl rfl rfl rfl rfl rfl (by rw [rowL_len (n:=2) (fun _=>rfl)]) (Nat.le_refl _) rfl (show (L1.length + 1) * (16 + 1)≤140737488355328 by omega) (row_snoc (enc:=eSp) (x:=at_ L1 x5)) rfl ?_
     refine gM trivial (.inr rfl) rfl rfl rfl ?_
     refine rg_nil nofun ?_
     refine vc_seq ?_
     refine vc_region hm ?_
     refine gM trivial (.inl rfl) rfl rfl rfl ?_
     refine gM trivial (.inr rfl) rfl rfl rfl ?_
     refine rg_nil nofun ?_
     refine vc_ret ?_
     exact ⟨mkF (.slice (some ⟨2,0,none⟩) (L1 ++ [at_ L1 x5]).length 0) [0] [(1,one ⟨[.slice (some ⟨0,k,none⟩) n 0,.int .i64 (p1 + 1 + 1 + 1)],101,2⟩)] [(2,one ⟨rSp (L1 ++ [at_ L1 x5]),38,2⟩)],_,endsT [(2,4,one ⟨rSp (L1 ++ [at_ L1 x5]),38,2⟩)] (.inr rfl) (.tmp rfl rfl .nil) (by rw [List.length_append];rfl) rfl ⟨upOne rfl rfl rfl,trivial⟩ ⟨asFlat rfl (rSp_flat _),trivial⟩ rfl,L1 ++ [at_ L1 x5],_,(by rw [List.length_append];show L1.length + 1≤14;omega),(by omega),(by omega),rfl⟩
    ·skip
     have p41:=ne_of_beq_false c41
     refine vc_seq ?_
     refine vc_region hm ?_
     refine gI trivial rfl rfl rfl rfl rfl rfl ?_
     refine gM trivial (.inr rfl) rfl rfl rfl ?_
     refine rg_nil nofun ?_
     refine cI rfl (fun c50=>?_) (fun c50=>?_)
     ·skip
      have p50:=eq_of_beq c50
      refine vc_region hm ?_
      refine gM trivial (.inl rfl) rfl rfl rfl ?_
      refine gM trivial (.inl rfl) rfl rfl rfl ?_
      refine gM trivial (.inl rfl) rfl rfl rfl ?_
      refine gM trivial (.inl rfl) rfl rfl rfl ?_
      refine gX trivial rfl rfl rfl rfl rfl rfl rfl rfl (by omega) (by omega) rSp_ne ?_
      refine gF trivial rfl rfl rfl rfl rfl ?_
      refine gL trivial rfl rfl rfl rfl rfl rfl rfl (lSp1 (by omega) (by omega)) ?_
      refine gA trivial rfl rfl rfl rfl rfl rfl (by have:=l1b _ (at_mem (l:=L1) (i:=x5) (by omega) (by omega));omega) ?_
      refine gX trivial rfl rfl rfl rfl rfl rfl rfl rfl (by omega) (by omega) rSp_ne ?_
      refine gF trivial rfl rfl rfl rfl rfl ?_
      refine gT trivial rfl rfl rfl rfl rfl rfl rfl rfl rfl rfl (kSp1 (by omega) (by omega)) (sSp1 (by omega) (by omega)) ?_
      refine rg_nil nofun ?_
      refine vc_seq ?_
      refine vc_region hm ?_
      refine gM trivial (.inl rfl) rfl rfl rfl ?_
      refine gM trivial (.inr rfl) rfl rfl rfl ?_
      refine rg_nil nofun ?_
      refine vc_ret ?_
      exact ⟨mkF (.slice (some ⟨2,0,none⟩) (L1.set x5.toNat ⟨(at_ L1 x5).lo,(at_ L1 x5).hi + 1⟩).length 0) [0] [(1,one ⟨[.slice (some ⟨0,k,none⟩) n 0,.int .i64 (p1 + 1 + 1 + 1)],101,2⟩)] [(2,one ⟨rSp (L1.set x5.toNat ⟨(at_ L1 x5).lo,(at_ L1 x5).hi + 1⟩),38,2⟩)],_,endsT [(2,2,one ⟨rSp (L1.set x5.toNat ⟨(at_ L1 x5).lo,(at_ L1 x5).hi + 1⟩),38,2⟩)] (.inr rfl) (.tmp rfl rfl .nil) (by rw [List.length_set];rfl) rfl ⟨upOne rfl rfl rfl,trivial⟩ ⟨asFlat rfl (rSp_flat _),trivial⟩ rfl,L1.set x5.toNat ⟨(at_ L1 x5).lo,(at_ L1 x5).hi + 1⟩,_,(by rw [List.length_set];omega),(by omega),(by omega),rfl⟩
     ·skip
      have p50:=ne_of_beq_false c50
      refine vc_block ?_
      refine vc_loopT (fun n_ S_=>∃ (M:List Sp),L1.length≤M.length∧M.length≤13∧n_=13 - M.length∧S_=⟨3,[(0,.pointer (some ⟨1,0,none⟩)),(3,.slice (some ⟨2,0,none⟩) M.length 0),(4,.int .i64 L1.length)],[(0,false,one ⟨hls k (rY l),t0,0⟩),(1,true,one ⟨[.slice (some ⟨0,k,none⟩) n 0,.int .i64 (p1 + 1 + 1 + 1)],101,2⟩),(2,true,one ⟨rSp M,38,2⟩)]⟩) ⟨L1,(Nat.le_refl _),(by omega),rfl,rfl⟩ (re_nil (ms:=[0,1,2]) (C:=999) rfl ⟨⟨⟨rfl,rfl⟩,rfl⟩,⟨⟨rfl,rfl⟩,rfl⟩,⟨⟨rfl,rfl⟩,rfl⟩,trivial⟩ ⟨ktCode rfl rfl,ktRow rfl rfl rfl (BlkW.refl _) id rfl,ktFlat (rSp_flat _) rfl (.inr (.inl rfl)) id rfl,trivial⟩ rfl rfl (rig_of rfl) rfl) ?_
      rintro n_ S_ ⟨M,hM,hN,rfl,rfl⟩
      refine vc_seq ?_
      refine vc_seq ?_
      refine vc_region hm ?_
      refine gM trivial (.inl rfl) rfl rfl rfl ?_
      refine gK trivial rfl rfl rfl rfl rfl rfl rSp_nil ?_
      refine gI trivial rfl rfl rfl rfl rfl rfl ?_
      refine rg_nil nofun ?_
      refine cI rfl (fun c25=>?_) (fun c25=>?_)
      ·skip
       have p25:=of_decide_eq_true c25
       refine vc_skip ?_
       refine vc_block ?_
       refine vc_region hm ?_
       refine gM trivial (.inl rfl) rfl rfl rfl ?_
       refine gM trivial (.inl rfl) rfl rfl rfl ?_
       refine gM trivial (.inl rfl) rfl rfl rfl ?_
       refine gA trivial rfl rfl rfl rfl rfl rfl (by omega) ?_
       refine gX trivial rfl rfl rfl rfl rfl rfl rfl rfl (by omega) (by omega) rSp_ne ?_
       refine gL trivial rfl rfl rfl rfl rfl rfl rfl (aSp (by omega) (by omega)) ?_
       refine gR (u':=4) (out:=rSp [at_ M ((L1.length:Int) - 1)]) trivial rfl rfl rfl rfl rfl rfl rfl rfl rfl rfl rfl rfl rfl rfl ?_
       refine gAp (u':=5) trivial rfl rfl rfl rfl rfl rfl rfl rfl rfl rfl rfl rfl (by rw [rowL_len (n:=2) (fun _=>rfl)]) (Nat.le_refl _) rfl (show (M.length + 1) * (16 + 1)≤140737488355328 by omega) (row_snoc (enc:=eSp) (x:=at_ M ((L1.length:Int) - 1))) rfl ?_
       refine gM trivial (.inr rfl) rfl rfl rfl ?_
       refine rg_nil nofun ?_
       exact lp_nextT ⟨M ++ [at_ M ((L1.length:Int) - 1)],(by rw [List.length_append];omega),(by rw [List.length_append];show M.length + 1≤13;omega),rfl,rfl⟩ (by rw [List.length_append];show 13 - (M.length + 1)<_;omega) (re_nil (ms:=[0,1,4]) (C:=999) rfl ⟨⟨⟨rfl,rfl⟩,rfl⟩,⟨⟨rfl,by rw [List.length_append];rfl⟩,rfl⟩,⟨⟨rfl,rfl⟩,rfl⟩,trivial⟩ ⟨ktCode rfl rfl,ktRow rfl rfl rfl (BlkW.refl _) id rfl,ktFlat (rSp_flat _) rfl (.inr (.inl rfl)) id rfl,trivial⟩ rfl rfl (rig_of rfl) rfl)
      ·skip
       have p25:=of_decide_eq_false c25
       refine vc_exit ?_
       refine vc_seq ?_
       refine vc_region hm ?_
       refine gM trivial (.inl rfl) rfl rfl rfl ?_
       refine gM trivial (.inr rfl) rfl rfl rfl ?_
       refine rg_nil nofun ?_
       refine vc_ret ?_
       exact ⟨mkF (.slice (some ⟨2,0,none⟩) (M).length 0) [0] [(1,one ⟨[.slice (some ⟨0,k,none⟩) n 0,.int .i64 (p1 + 1 + 1 + 1)],101,2⟩)] [(2,one ⟨rSp (M),38,2⟩)],_,endsT [(2,2,one ⟨rSp (M),38,2⟩)] (.inr rfl) (.tmp rfl rfl .nil) rfl rfl ⟨upOne rfl rfl rfl,trivial⟩ ⟨asFlat rfl (rSp_flat _),trivial⟩ rfl,M,_,(by omega),(by omega),(by omega),rfl⟩
theorem none_ok:ownOk ⟨blankT 48,[],[]⟩=true:=by decide +kernel
theorem chO_is {may:Bool} {o x:Ow} (h:ownOk o=true):ownOk (chO may o x)=true:=by
 unfold chO
 split
 ·unfold putO
  split
  ·assumption
  ·exact h
 ·exact h
theorem l6None_c : ∃ E,FDoes Try.prog 90 [] (hp []) E∧∃ o:Ow,ownOk o=true∧E=mkF (.agg #[.string o.t,.slice (some ⟨0,0,none⟩) o.h.length 0,.slice (some ⟨1,0,none⟩) o.d.length 0]) [] [] [(0,one ⟨rSp o.h,38,77⟩),(1,one ⟨rSp o.d,38,77⟩)]:=by
 have hm:Try.prog.follows .mixedOrders=true:=by kernel_rfl
 have hd_:∀ x ∈ ([]:List (Nat × Bool × Fam)),∀ k y,x.2.2 k=some y→DetB (lt 0) y:=fun x_ hx=>(by cases hx)
 refine fn_some (u0:=0) Try.func90 rfl rfl (gets rfl rfl rfl hd_ rfl) ?_
 clear hd_
 refine vc_seq ?_
 refine vc_region hm ?_
 refine gZ (u':=1) trivial rfl rfl rfl rfl rfl rfl rfl rfl ?_
 refine rg_nil nofun ?_
 refine vc_seq ?_
 refine vc_region hm ?_
 refine gC0 [] (spec_l6Blank_c (n:=48) (by decide) (by decide)) trivial rfl rfl rfl rfl (by trivial) rfl rfl rfl rfl rfl ?_
 refine gU trivial rfl rfl rfl rfl rfl rfl rfl rfl ?_
 refine gT trivial rfl rfl rfl rfl rfl rfl rfl rfl rfl rfl (Nat.le_of_ble_eq_true rfl) rfl ?_
 refine rg_nil nofun ?_
 refine vc_re (S2:=⟨2,[(0,.pointer (some ⟨0,0,none⟩))],[(0,true,one ⟨[.string (blankT 48),.slice (some ⟨1,0,none⟩) 0 0,.slice none 0 0],29,3⟩),(1,true,one ⟨[],38,77⟩)]⟩) (re_nil (ms:=[0]) (C:=1) rfl ⟨⟨⟨rfl,rfl⟩,rfl⟩,trivial⟩ ⟨ktRow rfl rfl rfl ⟨.inl rfl,fun _=>rfl,.inr (.inl rfl),fun q=>(by cases q)⟩ id rfl,ktC1 rfl (by decide) rfl,trivial⟩ rfl rfl (rig_of rfl) rfl) ?_
 refine vc_re (S2:=⟨3,[(0,.pointer (some ⟨0,0,none⟩))],[(0,true,one ⟨[.string (blankT 48),.slice (some ⟨1,0,none⟩) 0 0,.slice (some ⟨2,0,none⟩) 0 0],29,3⟩),(1,true,one ⟨[],38,77⟩),(2,true,one ⟨[],38,77⟩)]⟩) (re_nil (ms:=[0,1]) (C:=2) rfl ⟨⟨⟨rfl,rfl⟩,rfl⟩,trivial⟩ ⟨ktRow rfl rfl rfl ⟨.inl rfl,fun _=>rfl,.inr (.inl rfl),fun q=>(by cases q)⟩ id rfl,ktFlat rfl rfl (.inr (.inl rfl)) id rfl,ktC1 rfl (by decide) rfl,trivial⟩ rfl rfl (rig_of rfl) rfl) ?_
 refine vc_ret ?_
 exact ⟨_,_,endsT (v:=.agg #[.string (⟨blankT 48,[],[]⟩:Ow).t,.slice (some ⟨0,0,none⟩) (⟨blankT 48,[],[]⟩:Ow).h.length 0,.slice (some ⟨1,0,none⟩) (⟨blankT 48,[],[]⟩:Ow).d.length 0]) (ups:=[]) (rd:=[]) [(0,1,one ⟨rSp [],38,77⟩),(1,2,one ⟨rSp [],38,77⟩)] (.inr rfl) (.cell rfl rfl rfl rfl rfl .nil) rfl rfl trivial ⟨asFlat rfl (rSp_flat _),asFlat rfl (rSp_flat _),trivial⟩ rfl,(⟨blankT 48,[],[]⟩:Ow),none_ok,rfl⟩
theorem l6Some_c {l:List Int} {k n t0:Nat} {p:Int} (hl:ByL l) (hn:n≤l.length) (hp0:0≤p) (hp1:p≤990000):∃ E,FDoes Try.prog 74 [.pointer (some ⟨1,0,none⟩)] (hp [(0,false,one ⟨hls k (rY l),t0,0⟩),(1,true,one ⟨[.slice (some ⟨0,k,none⟩) n 0,.int .i64 (p)],101,2⟩)]) E∧∃ (o:Ow) (p2:Int),ownOk o=true∧p≤p2∧p2≤p + 1200∧E=mkF (.agg #[.string o.t,.slice (some ⟨2,0,none⟩) o.h.length 0,.slice (some ⟨3,0,none⟩) o.d.length 0]) [0] [(1,one ⟨[.slice (some ⟨0,k,none⟩) n 0,.int .i64 (p2)],101,2⟩)] [(2,one ⟨rSp o.h,38,77⟩),(3,one ⟨rSp o.d,38,77⟩)]:=by
 have hm:Try.prog.follows .mixedOrders=true:=by kernel_rfl
 have hd_:∀ x_ ∈ ([(0,false,one ⟨hls k (rY l),t0,0⟩),(1,true,one ⟨[.slice (some ⟨0,k,none⟩) n 0,.int .i64 (p)],101,2⟩)]:List (Nat × Bool × Fam)),∀ k_ y_,x_.2.2 k_=some y_→DetB (lt 2) y_:=by
  intro x_ hx k_ y_ e
  simp only [List.mem_cons,List.not_mem_nil,or_false] at hx
  rcases hx with rfl|rfl
  ·exact det_code e
  ·exact det_ok rfl e
 refine fn_some (u0:=2) Try.func74 rfl rfl (gets rfl rfl rfl hd_ rfl) ?_
 clear hd_
 refine vc_seq ?_
 refine vc_region hm ?_
 refine gZ (u':=3) trivial rfl rfl rfl rfl rfl rfl rfl rfl ?_
 refine rg_nil nofun ?_
 refine vc_seq ?_
 refine vc_region hm ?_
 obtain ⟨EN,hEN,oN,hkN,rfl⟩:=l6None_c
 refine gCF (ups':=[]) (as':=[(3,one ⟨rSp oN.h,38,77⟩),(4,one ⟨rSp oN.d,38,77⟩)]) (v':=.agg #[.string oN.t,.slice (some ⟨3,0,none⟩) oN.h.length 0,.slice (some ⟨4,0,none⟩) oN.d.length 0]) 5 [3,4] hEN trivial rfl rfl rfl rfl trivial trivial ⟨frFlat (rSp_flat _) rfl,frFlat (rSp_flat _) rfl,trivial⟩ rfl rfl (fun x hx=>nomatch hx) (fun x hx=>nomatch hx) rfl rfl ?_
 refine gZ (u':=6) trivial rfl rfl rfl rfl rfl rfl rfl rfl ?_
 refine gT trivial rfl rfl rfl rfl rfl rfl rfl rfl rfl rfl (Nat.le_of_ble_eq_true rfl) rfl ?_
 refine rg_nil nofun ?_
 refine vc_seq ?_
 refine vc_seq ?_
 refine vc_region hm ?_
 refine gM trivial (.inl rfl) rfl rfl rfl ?_
 refine gR (u':=7) (out:=rI [3,5,8,0,1]) trivial rfl rfl rfl rfl rfl rfl rfl rfl rfl rfl rfl rfl rfl rfl ?_
 obtain ⟨E1,hE1,x1,x1a,x1b,rfl⟩:=num_c (k:=k) (t0:=t0) (p:=p) hl hn (by omega) (by omega) (L:=[3,5,8,0,1]) (a:=0) (b:=8) (by decide) (by decide)
 refine gCF (ups':=[(1,one ⟨[.slice (some ⟨0,k,none⟩) n 0,.int .i64 (p + 1)],101,2⟩)]) (as':=[]) (v':=.int .i64 x1) 7 [0,1,6] hE1 trivial rfl rfl rfl rfl ⟨rCode rfl rfl,rCells rfl ⟨rfl,rfl,.inr rfl⟩ rfl,rFlat (rI_flat _) rfl (.inl rfl) rfl,trivial⟩ ⟨frOne rfl rfl,trivial⟩ trivial rfl rfl (ho1 ⟨_,rfl⟩) (hu1 rfl) rfl rfl ?_
 refine gM trivial (.inr rfl) rfl rfl rfl ?_
 refine rg_nil nofun ?_
 refine vc_block ?_
 refine vc_loopT (fun n_ S_=>∃ (o:Ow) (i q:Int),ownOk o=true∧0≤i∧i≤8∧p≤q∧q≤p + 1 + 140 * (8 - i)∧n_=i.toNat∧S_=⟨6,[(0,.pointer (some ⟨1,0,none⟩)),(2,.pointer (some ⟨2,0,none⟩)),(3,.pointer (some ⟨5,0,none⟩)),(4,.int .i64 i)],[(0,false,one ⟨hls k (rY l),t0,0⟩),(1,true,one ⟨[.slice (some ⟨0,k,none⟩) n 0,.int .i64 (q)],101,2⟩),(2,true,one ⟨[.string ⟨#[]⟩,.slice none 0 0,.slice none 0 0],29,3⟩),(3,true,one ⟨rSp o.h,38,77⟩),(4,true,one ⟨rSp o.d,38,77⟩),(5,true,one ⟨[.string o.t,.slice (some ⟨3,0,none⟩) o.h.length 0,.slice (some ⟨4,0,none⟩) o.d.length 0],29,3⟩)]⟩) ⟨oN,x1,p + 1,hkN,(by omega),(by omega),(by omega),(by omega),rfl,rfl⟩ (re_nil (ms:=[0,1,2,3,4,5]) (C:=999) rfl ⟨⟨⟨rfl,rfl⟩,rfl⟩,⟨⟨rfl,rfl⟩,rfl⟩,⟨⟨rfl,rfl⟩,rfl⟩,⟨⟨rfl,rfl⟩,rfl⟩,trivial⟩ ⟨ktCode rfl rfl,ktRow rfl rfl rfl (BlkW.refl _) id rfl,ktRow rfl rfl rfl ⟨.inl rfl,fun _=>rfl,.inr (.inl rfl),fun q=>(by cases q)⟩ id rfl,ktFlat (rSp_flat _) rfl (.inr (.inl rfl)) id rfl,ktFlat (rSp_flat _) rfl (.inr (.inl rfl)) id rfl,ktRow rfl rfl rfl ⟨.inl rfl,fun _=>rfl,.inr (.inl rfl),fun q=>(by cases q)⟩ id rfl,trivial⟩ rfl rfl (rig_of rfl) rfl) ?_
 rintro n_ S_ ⟨o,i,q,hk,hi0,hi,hq,hr,rfl,rfl⟩
 refine vc_seq ?_
 refine vc_seq ?_
 refine vc_region hm ?_
 refine gM trivial (.inl rfl) rfl rfl rfl ?_
 refine gI trivial rfl rfl rfl rfl rfl rfl ?_
 refine rg_nil nofun ?_
 refine cI rfl (fun c11=>?_) (fun c11=>?_)
 ·skip
  have p11:=of_decide_eq_true c11
  refine vc_skip ?_
  refine vc_seq ?_
  refine vc_block ?_
  refine vc_seq ?_
  refine vc_region hm ?_
  refine gM trivial (.inl rfl) rfl rfl rfl ?_
  obtain ⟨E3,hE3,s3,p3,s3a,s3b,s3c,q3a,q3b,rfl⟩:=span_c (k:=k) (t0:=t0) (p:=q) hl hn (by omega) (by omega) 
  refine gCF (ups':=[(1,one ⟨[.slice (some ⟨0,k,none⟩) n 0,.int .i64 (p3)],101,2⟩)]) (as':=[]) (v':=vSp s3) 6 [0,1] hE3 trivial rfl rfl rfl rfl ⟨rCode rfl rfl,rCells rfl ⟨rfl,rfl,.inr rfl⟩ rfl,trivial⟩ ⟨frOne rfl rfl,trivial⟩ trivial rfl rfl (ho1 ⟨_,rfl⟩) (hu1 rfl) rfl rfl ?_
  refine gZ (u':=7) trivial rfl rfl rfl rfl rfl rfl rfl rfl ?_
  refine gT trivial rfl rfl rfl rfl rfl rfl rfl rfl rfl rfl (Nat.le_of_ble_eq_true rfl) rfl ?_
  refine rg_nil nofun ?_
  refine vc_seq ?_
  refine vc_region hm ?_
  refine gM trivial (.inl rfl) rfl rfl rfl ?_
  obtain ⟨E4,hE4,x4,x4a,x4b,rfl⟩:=pick_c (k:=k) (t0:=t0) (p:=p3) hl hn (by omega) (by omega) (m:=6) (by omega) (by omega)
  refine gCF (ups':=[(1,one ⟨[.slice (some ⟨0,k,none⟩) n 0,.int .i64 (p3 + 1)],101,2⟩)]) (as':=[]) (v':=.int .i64 x4) 7 [0,1] hE4 trivial rfl rfl rfl rfl ⟨rCode rfl rfl,rCells rfl ⟨rfl,rfl,.inr rfl⟩ rfl,trivial⟩ ⟨frOne rfl rfl,trivial⟩ trivial rfl rfl (ho1 ⟨_,rfl⟩) (hu1 rfl) rfl rfl ?_
  refine rg_nil nofun ?_
  refine vc_block ?_
  refine vc_seq ?_
  refine vc_region hm ?_
  refine gI trivial rfl rfl rfl rfl rfl rfl ?_
  refine gM trivial (.inr rfl) rfl rfl rfl ?_
  refine rg_nil nofun ?_
  refine cI rfl (fun c27=>?_) (fun c27=>?_)
  ·skip
   have p27:=eq_of_beq c27
   refine vc_region hm ?_
   refine gL trivial rfl rfl rfl rfl rfl rfl rfl rfl ?_
   refine gL trivial rfl rfl rfl rfl rfl rfl rfl rfl ?_
   refine gCn 9 [3,4,7,8] (spec_OwnClean_w (o:=o) (s:=s3) hk) trivial rfl rfl rfl rfl ⟨rFlat (rSp_flat o.h) rfl (.inl rfl) rfl,rFlat (rSp_flat o.d) rfl (.inl rfl) rfl,trivial⟩ ⟨rSp_flat _,rSp_flat _,trivial⟩ rfl rfl rfl rfl ?_
   refine gM trivial (.inl rfl) rfl rfl rfl ?_
   refine gE trivial rfl rfl rfl rfl rfl rfl ?_
   refine gE trivial rfl rfl rfl rfl rfl rfl ?_
   refine gT trivial rfl rfl rfl rfl rfl rfl rfl rfl rfl rfl (Nat.le_of_ble_eq_true rfl) rfl ?_
   refine rg_nil nofun ?_
   refine vc_region hm ?_
   refine gM trivial (.inl rfl) rfl rfl rfl ?_
   refine gA trivial rfl rfl rfl rfl rfl rfl (by omega) ?_
   refine gM trivial (.inr rfl) rfl rfl rfl ?_
   refine rg_nil nofun ?_
   exact lp_nextT ⟨(chO (spanOk s3) o (cleanX o s3)),i - 1,p3 + 1,(chO_is hk),(by omega),(by omega),(by omega),(by omega),rfl,rfl⟩ (by omega) (re_nil (ms:=[0,1,2,7,8,5]) (C:=999) rfl ⟨⟨⟨rfl,rfl⟩,rfl⟩,⟨⟨rfl,rfl⟩,rfl⟩,⟨⟨rfl,rfl⟩,rfl⟩,⟨⟨rfl,rfl⟩,rfl⟩,trivial⟩ ⟨ktCode rfl rfl,ktRow rfl rfl rfl (BlkW.refl _) id rfl,ktRow rfl rfl rfl ⟨.inl rfl,fun _=>rfl,.inr (.inl rfl),fun q=>(by cases q)⟩ id rfl,ktFlat (rSp_flat _) rfl (.inr (.inr ⟨by decide,by decide,by decide⟩)) id rfl,ktFlat (rSp_flat _) rfl (.inr (.inr ⟨by decide,by decide,by decide⟩)) id rfl,ktRow rfl rfl rfl ⟨.inl rfl,fun _=>rfl,.inr (.inl rfl),fun q=>(by cases q)⟩ id rfl,trivial⟩ rfl rfl (rig_of rfl) rfl)
  ·skip
   have p27:=ne_of_beq_false c27
   refine vc_seq ?_
   refine vc_region hm ?_
   refine gI trivial rfl rfl rfl rfl rfl rfl ?_
   refine gM trivial (.inr rfl) rfl rfl rfl ?_
   refine rg_nil nofun ?_
   refine cI rfl (fun c35=>?_) (fun c35=>?_)
   ·skip
    have p35:=eq_of_beq c35
    refine vc_region hm ?_
    refine gL trivial rfl rfl rfl rfl rfl rfl rfl rfl ?_
    refine gL trivial rfl rfl rfl rfl rfl rfl rfl rfl ?_
    refine gCn 9 [3,4,7,8] (spec_OwnDrop_w (o:=o) (s:=s3) hk) trivial rfl rfl rfl rfl ⟨rFlat (rSp_flat o.h) rfl (.inl rfl) rfl,rFlat (rSp_flat o.d) rfl (.inl rfl) rfl,trivial⟩ ⟨rSp_flat _,rSp_flat _,trivial⟩ rfl rfl rfl rfl ?_
    refine gM trivial (.inl rfl) rfl rfl rfl ?_
    refine gE trivial rfl rfl rfl rfl rfl rfl ?_
    refine gE trivial rfl rfl rfl rfl rfl rfl ?_
    refine gT trivial rfl rfl rfl rfl rfl rfl rfl rfl rfl rfl (Nat.le_of_ble_eq_true rfl) rfl ?_
    refine rg_nil nofun ?_
    refine vc_region hm ?_
    refine gM trivial (.inl rfl) rfl rfl rfl ?_
    refine gA trivial rfl rfl rfl rfl rfl rfl (by omega) ?_
    refine gM trivial (.inr rfl) rfl rfl rfl ?_
    refine rg_nil nofun ?_
    exact lp_nextT ⟨(chO (mayD o s3) o (dropX o s3)),i - 1,p3 + 1,(chO_is hk),(by omega),(by omega),(by omega),(by omega),rfl,rfl⟩ (by omega) (re_nil (ms:=[0,1,2,7,8,5]) (C:=999) rfl ⟨⟨⟨rfl,rfl⟩,rfl⟩,⟨⟨rfl,rfl⟩,rfl⟩,⟨⟨rfl,rfl⟩,rfl⟩,⟨⟨rfl,rfl⟩,rfl⟩,trivial⟩ ⟨ktCode rfl rfl,ktRow rfl rfl rfl (BlkW.refl _) id rfl,ktRow rfl rfl rfl ⟨.inl rfl,fun _=>rfl,.inr (.inl rfl),fun q=>(by cases q)⟩ id rfl,ktFlat (rSp_flat _) rfl (.inr (.inr ⟨by decide,by decide,by decide⟩)) id rfl,ktFlat (rSp_flat _) rfl (.inr (.inr ⟨by decide,by decide,by decide⟩)) id rfl,ktRow rfl rfl rfl ⟨.inl rfl,fun _=>rfl,.inr (.inl rfl),fun q=>(by cases q)⟩ id rfl,trivial⟩ rfl rfl (rig_of rfl) rfl)
   ·skip
    have p35:=ne_of_beq_false c35
    refine vc_seq ?_
    refine vc_seq ?_
    refine vc_region hm ?_
    refine gI trivial rfl rfl rfl rfl rfl rfl ?_
    refine gM trivial (.inr rfl) rfl rfl rfl ?_
    refine rg_nil nofun ?_
    refine cI rfl (fun c43=>?_) (fun c43=>?_)
    ·skip
     have p43:=eq_of_beq c43
     refine vc_skip ?_
     refine cT rfl c43 ?_
     refine vc_region hm ?_
     refine gL trivial rfl rfl rfl rfl rfl rfl rfl rfl ?_
     refine gL trivial rfl rfl rfl rfl rfl rfl rfl rfl ?_
     refine gM trivial (.inl rfl) rfl rfl rfl ?_
     refine gL trivial rfl rfl rfl rfl rfl rfl rfl rfl ?_
     obtain ⟨E10,hE10,t10,p10,t10a,q10a,q10b,rfl⟩:=fit_c (k:=k) (t0:=t0) (p:=p3 + 1) hl hn (by omega) (by omega) (s:=s3) ⟨s3a,s3b,s3c⟩
     refine gCF (ups':=[(1,one ⟨[.slice (some ⟨0,k,none⟩) n 0,.int .i64 (p10)],101,2⟩)]) (as':=[]) (v':=.string t10) 7 [0,1] hE10 trivial rfl rfl rfl rfl ⟨rCode rfl rfl,rCells rfl ⟨rfl,rfl,.inr rfl⟩ rfl,trivial⟩ ⟨frOne rfl rfl,trivial⟩ trivial rfl rfl (ho1 ⟨_,rfl⟩) (hu1 rfl) rfl rfl ?_
     refine gCn 9 [3,4,7,8] (spec_OwnFill_w (o:=o) (s:=s3) (d:=t10) hk (by omega)) trivial rfl rfl rfl rfl ⟨rFlat (rSp_flat o.h) rfl (.inl rfl) rfl,rFlat (rSp_flat o.d) rfl (.inl rfl) rfl,trivial⟩ ⟨rSp_flat _,rSp_flat _,trivial⟩ rfl rfl rfl rfl ?_
     refine gM trivial (.inl rfl) rfl rfl rfl ?_
     refine gE trivial rfl rfl rfl rfl rfl rfl ?_
     refine gE trivial rfl rfl rfl rfl rfl rfl ?_
     refine gT trivial rfl rfl rfl rfl rfl rfl rfl rfl rfl rfl (Nat.le_of_ble_eq_true rfl) rfl ?_
     refine rg_nil (fun _=>by kernel_rfl) ?_
     refine vc_region hm ?_
     refine gM trivial (.inl rfl) rfl rfl rfl ?_
     refine gA trivial rfl rfl rfl rfl rfl rfl (by omega) ?_
     refine gM trivial (.inr rfl) rfl rfl rfl ?_
     refine rg_nil nofun ?_
     exact lp_nextT ⟨(chO (mayF s3 t10) o (fillX o s3 t10)),i - 1,p10,(chO_is hk),(by omega),(by omega),(by omega),(by omega),rfl,rfl⟩ (by omega) (re_nil (ms:=[0,1,2,7,8,5]) (C:=999) rfl ⟨⟨⟨rfl,rfl⟩,rfl⟩,⟨⟨rfl,rfl⟩,rfl⟩,⟨⟨rfl,rfl⟩,rfl⟩,⟨⟨rfl,rfl⟩,rfl⟩,trivial⟩ ⟨ktCode rfl rfl,ktRow rfl rfl rfl (BlkW.refl _) id rfl,ktRow rfl rfl rfl ⟨.inl rfl,fun _=>rfl,.inr (.inl rfl),fun q=>(by cases q)⟩ id rfl,ktFlat (rSp_flat _) rfl (.inr (.inr ⟨by decide,by decide,by decide⟩)) id rfl,ktFlat (rSp_flat _) rfl (.inr (.inr ⟨by decide,by decide,by decide⟩)) id rfl,ktRow rfl rfl rfl ⟨.inl rfl,fun _=>rfl,.inr (.inl rfl),fun q=>(by cases q)⟩ id rfl,trivial⟩ rfl rfl (rig_of rfl) rfl)
    ·skip
     have p43:=ne_of_beq_false c43
     refine vc_region hm ?_
     refine gI trivial rfl rfl rfl rfl rfl rfl ?_
     refine gM trivial (.inr rfl) rfl rfl rfl ?_
     refine rg_nil nofun ?_
     refine cI rfl (fun c43=>?_) (fun c43=>?_)
     ·skip
      have p43:=eq_of_beq c43
      refine vc_region hm ?_
      refine gL trivial rfl rfl rfl rfl rfl rfl rfl rfl ?_
      refine gL trivial rfl rfl rfl rfl rfl rfl rfl rfl ?_
      refine gM trivial (.inl rfl) rfl rfl rfl ?_
      refine gL trivial rfl rfl rfl rfl rfl rfl rfl rfl ?_
      obtain ⟨E13,hE13,t13,p13,t13a,q13a,q13b,rfl⟩:=fit_c (k:=k) (t0:=t0) (p:=p3 + 1) hl hn (by omega) (by omega) (s:=s3) ⟨s3a,s3b,s3c⟩
      refine gCF (ups':=[(1,one ⟨[.slice (some ⟨0,k,none⟩) n 0,.int .i64 (p13)],101,2⟩)]) (as':=[]) (v':=.string t13) 7 [0,1] hE13 trivial rfl rfl rfl rfl ⟨rCode rfl rfl,rCells rfl ⟨rfl,rfl,.inr rfl⟩ rfl,trivial⟩ ⟨frOne rfl rfl,trivial⟩ trivial rfl rfl (ho1 ⟨_,rfl⟩) (hu1 rfl) rfl rfl ?_
      refine gCn 9 [3,4,7,8] (spec_OwnFill_w (o:=o) (s:=s3) (d:=t13) hk (by omega)) trivial rfl rfl rfl rfl ⟨rFlat (rSp_flat o.h) rfl (.inl rfl) rfl,rFlat (rSp_flat o.d) rfl (.inl rfl) rfl,trivial⟩ ⟨rSp_flat _,rSp_flat _,trivial⟩ rfl rfl rfl rfl ?_
      refine gM trivial (.inl rfl) rfl rfl rfl ?_
      refine gE trivial rfl rfl rfl rfl rfl rfl ?_
      refine gE trivial rfl rfl rfl rfl rfl rfl ?_
      refine gT trivial rfl rfl rfl rfl rfl rfl rfl rfl rfl rfl (Nat.le_of_ble_eq_true rfl) rfl ?_
      refine rg_nil (fun _=>by kernel_rfl) ?_
      refine vc_region hm ?_
      refine gM trivial (.inl rfl) rfl rfl rfl ?_
      refine gA trivial rfl rfl rfl rfl rfl rfl (by omega) ?_
      refine gM trivial (.inr rfl) rfl rfl rfl ?_
      refine rg_nil nofun ?_
      exact lp_nextT ⟨(chO (mayF s3 t13) o (fillX o s3 t13)),i - 1,p13,(chO_is hk),(by omega),(by omega),(by omega),(by omega),rfl,rfl⟩ (by omega) (re_nil (ms:=[0,1,2,7,8,5]) (C:=999) rfl ⟨⟨⟨rfl,rfl⟩,rfl⟩,⟨⟨rfl,rfl⟩,rfl⟩,⟨⟨rfl,rfl⟩,rfl⟩,⟨⟨rfl,rfl⟩,rfl⟩,trivial⟩ ⟨ktCode rfl rfl,ktRow rfl rfl rfl (BlkW.refl _) id rfl,ktRow rfl rfl rfl ⟨.inl rfl,fun _=>rfl,.inr (.inl rfl),fun q=>(by cases q)⟩ id rfl,ktFlat (rSp_flat _) rfl (.inr (.inr ⟨by decide,by decide,by decide⟩)) id rfl,ktFlat (rSp_flat _) rfl (.inr (.inr ⟨by decide,by decide,by decide⟩)) id rfl,ktRow rfl rfl rfl ⟨.inl rfl,fun _=>rfl,.inr (.inl rfl),fun q=>(by cases q)⟩ id rfl,trivial⟩ rfl rfl (rig_of rfl) rfl)
     ·skip
      have p43:=ne_of_beq_false c43
      refine vc_region hm ?_
      refine gL trivial rfl rfl rfl rfl rfl rfl rfl rfl ?_
      refine gM trivial (.inl rfl) rfl rfl rfl ?_
      obtain ⟨E15,hE15,x15,x15a,x15b,rfl⟩:=pick_c (k:=k) (t0:=t0) (p:=p3 + 1) hl hn (by omega) (by omega) (m:=40) (by omega) (by omega)
      refine gCF (ups':=[(1,one ⟨[.slice (some ⟨0,k,none⟩) n 0,.int .i64 (p3 + 1 + 1)],101,2⟩)]) (as':=[]) (v':=.int .i64 x15) 7 [0,1] hE15 trivial rfl rfl rfl rfl ⟨rCode rfl rfl,rCells rfl ⟨rfl,rfl,.inr rfl⟩ rfl,trivial⟩ ⟨frOne rfl rfl,trivial⟩ trivial rfl rfl (ho1 ⟨_,rfl⟩) (hu1 rfl) rfl rfl ?_
      refine gM trivial (.inl rfl) rfl rfl rfl ?_
      obtain ⟨E16,hE16,t16,p16,t16a,q16a,q16b,rfl⟩:=data_c (k:=k) (t0:=t0) (p:=p3 + 1 + 1) hl hn (by omega) (by omega) 
      refine gCF (ups':=[(1,one ⟨[.slice (some ⟨0,k,none⟩) n 0,.int .i64 (p16)],101,2⟩)]) (as':=[]) (v':=.string t16) 7 [0,1] hE16 trivial rfl rfl rfl rfl ⟨rCode rfl rfl,rCells rfl ⟨rfl,rfl,.inr rfl⟩ rfl,trivial⟩ ⟨frOne rfl rfl,trivial⟩ trivial rfl rfl (ho1 ⟨_,rfl⟩) (hu1 rfl) rfl rfl ?_
      refine gCn 9 [3,4,7,8] (spec_OwnWrite_w (o:=o) (a:=x15) (d:=t16) hk (by omega)) trivial rfl rfl rfl rfl ⟨rFlat (rSp_flat o.h) rfl (.inl rfl) rfl,rFlat (rSp_flat o.d) rfl (.inl rfl) rfl,trivial⟩ ⟨rSp_flat _,rSp_flat _,trivial⟩ rfl rfl rfl rfl ?_
      refine gM trivial (.inl rfl) rfl rfl rfl ?_
      refine gE trivial rfl rfl rfl rfl rfl rfl ?_
      refine gE trivial rfl rfl rfl rfl rfl rfl ?_
      refine gT trivial rfl rfl rfl rfl rfl rfl rfl rfl rfl rfl (Nat.le_of_ble_eq_true rfl) rfl ?_
      refine rg_nil (fun _=>by kernel_rfl) ?_
      refine vc_region hm ?_
      refine gM trivial (.inl rfl) rfl rfl rfl ?_
      refine gA trivial rfl rfl rfl rfl rfl rfl (by omega) ?_
      refine gM trivial (.inr rfl) rfl rfl rfl ?_
      refine rg_nil nofun ?_
      exact lp_nextT ⟨(chO (mayW x15 t16) o (writeX o x15 t16)),i - 1,p16,(chO_is hk),(by omega),(by omega),(by omega),(by omega),rfl,rfl⟩ (by omega) (re_nil (ms:=[0,1,2,7,8,5]) (C:=999) rfl ⟨⟨⟨rfl,rfl⟩,rfl⟩,⟨⟨rfl,rfl⟩,rfl⟩,⟨⟨rfl,rfl⟩,rfl⟩,⟨⟨rfl,rfl⟩,rfl⟩,trivial⟩ ⟨ktCode rfl rfl,ktRow rfl rfl rfl (BlkW.refl _) id rfl,ktRow rfl rfl rfl ⟨.inl rfl,fun _=>rfl,.inr (.inl rfl),fun q=>(by cases q)⟩ id rfl,ktFlat (rSp_flat _) rfl (.inr (.inr ⟨by decide,by decide,by decide⟩)) id rfl,ktFlat (rSp_flat _) rfl (.inr (.inr ⟨by decide,by decide,by decide⟩)) id rfl,ktRow rfl rfl rfl ⟨.inl rfl,fun _=>rfl,.inr (.inl rfl),fun q=>(by cases q)⟩ id rfl,trivial⟩ rfl rfl (rig_of rfl) rfl)
 ·skip
  have p11:=of_decide_eq_false c11
  refine vc_exit ?_
  refine vc_seq ?_
  refine vc_region hm ?_
  refine gL trivial rfl rfl rfl rfl rfl rfl rfl rfl ?_
  refine gT trivial rfl rfl rfl rfl rfl rfl rfl rfl rfl rfl (Nat.le_of_ble_eq_true rfl) rfl ?_
  refine rg_nil nofun ?_
  refine vc_ret ?_
  exact ⟨mkF (.agg #[.string o.t,.slice (some ⟨2,0,none⟩) o.h.length 0,.slice (some ⟨3,0,none⟩) o.d.length 0]) [0] [(1,one ⟨[.slice (some ⟨0,k,none⟩) n 0,.int .i64 (q)],101,2⟩)] [(2,one ⟨rSp o.h,38,77⟩),(3,one ⟨rSp o.d,38,77⟩)],_,endsT [(2,3,one ⟨rSp o.h,38,77⟩),(3,4,one ⟨rSp o.d,38,77⟩)] (.inr rfl) (.cell rfl rfl rfl rfl rfl .nil) rfl rfl ⟨upOne rfl rfl rfl,trivial⟩ ⟨asFlat rfl (rSp_flat _),asFlat rfl (rSp_flat _),trivial⟩ rfl,o,_,hk,(by omega),(by omega),rfl⟩
theorem overT_len {t d:ByteArray}:(overT t 0 1 d).size≤t.size + d.size:=by
 unfold overT
 simp only [ByteArray.size_append,ByteArray.size_extract]
 omega
theorem bentO_c {l:List Int} {k n t0:Nat} {p:Int} (hl:ByL l) (hn:n≤l.length) (hp0:0≤p) (hp1:p≤989000) {o:Ow} (ht:o.t.size≤900000) (hh:o.h.length≤900000) (hd:o.d.length≤900000):∃ E,FDoes Try.prog 77 [.pointer (some ⟨1,0,none⟩),.agg #[.string o.t,.slice (some ⟨2,0,none⟩) o.h.length 0,.slice (some ⟨3,0,none⟩) o.d.length 0]] (hp [(0,false,one ⟨hls k (rY l),t0,0⟩),(1,true,one ⟨[.slice (some ⟨0,k,none⟩) n 0,.int .i64 (p)],101,2⟩),(2,false,one ⟨rSp o.h,38,0⟩),(3,false,one ⟨rSp o.d,38,0⟩)]) E∧∃ (x:Ow) (p2:Int),x.t.size≤o.t.size + 200∧x.h.length≤o.h.length + 14∧x.d.length≤o.d.length + 14∧p≤p2∧p2≤p + 200∧E=mkF (.agg #[.string x.t,.slice (some ⟨4,0,none⟩) x.h.length 0,.slice (some ⟨5,0,none⟩) x.d.length 0]) [0,2,3] [(1,one ⟨[.slice (some ⟨0,k,none⟩) n 0,.int .i64 (p2)],101,2⟩)] [(4,one ⟨rSp x.h,38,2⟩),(5,one ⟨rSp x.d,38,2⟩)]:=by
 have hm:Try.prog.follows .mixedOrders=true:=by kernel_rfl
 have hd_:∀ x_ ∈ ([(0,false,one ⟨hls k (rY l),t0,0⟩),(1,true,one ⟨[.slice (some ⟨0,k,none⟩) n 0,.int .i64 (p)],101,2⟩),(2,false,one ⟨rSp o.h,38,0⟩),(3,false,one ⟨rSp o.d,38,0⟩)]:List (Nat × Bool × Fam)),∀ k_ y_,x_.2.2 k_=some y_→DetB (lt 4) y_:=by
  intro x_ hx k_ y_ e
  simp only [List.mem_cons,List.not_mem_nil,or_false] at hx
  rcases hx with rfl|rfl|rfl|rfl
  ·exact det_code e
  ·exact det_ok rfl e
  ·exact det_row (rSp_flat _) e
  ·exact det_row (rSp_flat _) e
 refine fn_some (u0:=4) Try.func77 rfl rfl (gets rfl rfl rfl hd_ rfl) ?_
 clear hd_
 refine vc_seq ?_
 refine vc_region hm ?_
 refine gB (u':=5) trivial rfl rfl rfl rfl rfl rfl rfl rfl ?_
 refine gZ (u':=6) trivial rfl rfl rfl rfl rfl rfl rfl rfl ?_
 refine rg_nil nofun ?_
 refine vc_seq ?_
 refine vc_region hm ?_
 refine gL trivial rfl rfl rfl rfl rfl rfl rfl rfl ?_
 refine gCn 8 [2,3,6,7] (spec_l6Copy_c (o:=o) (by omega) (by omega) (by omega)) trivial rfl rfl rfl rfl ⟨rFlat (rSp_flat o.h) rfl (.inl rfl) rfl,rFlat (rSp_flat o.d) rfl (.inl rfl) rfl,trivial⟩ ⟨rSp_flat _,rSp_flat _,trivial⟩ rfl rfl rfl rfl ?_
 refine gZ (u':=9) trivial rfl rfl rfl rfl rfl rfl rfl rfl ?_
 refine gT trivial rfl rfl rfl rfl rfl rfl rfl rfl rfl rfl (Nat.le_of_ble_eq_true rfl) rfl ?_
 refine rg_nil nofun ?_
 refine vc_seq ?_
 refine vc_seq ?_
 refine vc_region hm ?_
 refine gM trivial (.inl rfl) rfl rfl rfl ?_
 obtain ⟨E1,hE1,x1,x1a,x1b,rfl⟩:=pick_c (k:=k) (t0:=t0) (p:=p) hl hn (by omega) (by omega) (m:=60) (by omega) (by omega)
 refine gCF (ups':=[(1,one ⟨[.slice (some ⟨0,k,none⟩) n 0,.int .i64 (p + 1)],101,2⟩)]) (as':=[]) (v':=.int .i64 x1) 9 [0,1] hE1 trivial rfl rfl rfl rfl ⟨rCode rfl rfl,rCells rfl ⟨rfl,rfl,.inr rfl⟩ rfl,trivial⟩ ⟨frOne rfl rfl,trivial⟩ trivial rfl rfl (ho1 ⟨_,rfl⟩) (hu1 rfl) rfl rfl ?_
 refine rg_nil nofun ?_
 refine vc_block ?_
 refine vc_seq ?_
 refine vc_region hm ?_
 refine gI trivial rfl rfl rfl rfl rfl rfl ?_
 refine gM trivial (.inr rfl) rfl rfl rfl ?_
 refine rg_nil nofun ?_
 refine cI rfl (fun c10=>?_) (fun c10=>?_)
 ·skip
  have p10:=eq_of_beq c10
  refine vc_region hm ?_
  refine gM trivial (.inl rfl) rfl rfl rfl ?_
  obtain ⟨E3,hE3,t3,p3,t3a,q3a,q3b,rfl⟩:=someT_c (k:=k) (t0:=t0) (p:=p + 1) hl hn (by omega) (by omega) 
  refine gCF (ups':=[(1,one ⟨[.slice (some ⟨0,k,none⟩) n 0,.int .i64 (p3)],101,2⟩)]) (as':=[]) (v':=.string t3) 9 [0,1] hE3 trivial rfl rfl rfl rfl ⟨rCode rfl rfl,rCells rfl ⟨rfl,rfl,.inr rfl⟩ rfl,trivial⟩ ⟨frOne rfl rfl,trivial⟩ trivial rfl rfl (ho1 ⟨_,rfl⟩) (hu1 rfl) rfl rfl ?_
  refine gF trivial rfl rfl rfl rfl rfl ?_
  refine gT trivial rfl rfl rfl rfl rfl rfl rfl rfl rfl rfl (Nat.le_of_ble_eq_true rfl) rfl ?_
  refine rg_nil nofun ?_
  refine vc_seq ?_
  refine vc_region hm ?_
  refine gL trivial rfl rfl rfl rfl rfl rfl rfl rfl ?_
  refine gT trivial rfl rfl rfl rfl rfl rfl rfl rfl rfl rfl (Nat.le_of_ble_eq_true rfl) rfl ?_
  refine rg_nil nofun ?_
  refine vc_ret ?_
  exact ⟨mkF (.agg #[.string t3,.slice (some ⟨4,0,none⟩) o.h.length 0,.slice (some ⟨5,0,none⟩) o.d.length 0]) [0,2,3] [(1,one ⟨[.slice (some ⟨0,k,none⟩) n 0,.int .i64 (p3)],101,2⟩)] [(4,one ⟨rSp o.h,38,2⟩),(5,one ⟨rSp o.d,38,2⟩)],_,endsT [(4,6,one ⟨rSp o.h,38,2⟩),(5,7,one ⟨rSp o.d,38,2⟩)] (.inr rfl) (.cell rfl rfl rfl rfl rfl .nil) rfl rfl ⟨upOne rfl rfl rfl,trivial⟩ ⟨asFlat rfl (rSp_flat _),asFlat rfl (rSp_flat _),trivial⟩ rfl,(⟨t3,o.h,o.d⟩:Ow),_,(show t3.size≤_ by omega),(show o.h.length≤_ by omega),(show o.d.length≤_ by omega),(by omega),(by omega),rfl⟩
 ·skip
  have p10:=ne_of_beq_false c10
  refine vc_seq ?_
  refine vc_region hm ?_
  refine gI trivial rfl rfl rfl rfl rfl rfl ?_
  refine gM trivial (.inr rfl) rfl rfl rfl ?_
  refine rg_nil nofun ?_
  refine cI rfl (fun c15=>?_) (fun c15=>?_)
  ·skip
   have p15:=eq_of_beq c15
   refine vc_region hm ?_
   refine gM trivial (.inl rfl) rfl rfl rfl ?_
   obtain ⟨E5,hE5,L5,p5,l5a,q5a,q5b,rfl⟩:=lists_c (k:=k) (t0:=t0) (p:=p + 1) hl hn (by omega) (by omega) 
   refine gCF (ups':=[(1,one ⟨[.slice (some ⟨0,k,none⟩) n 0,.int .i64 (p5)],101,2⟩)]) (as':=[(9,one ⟨rSp L5,38,2⟩)]) (v':=.slice (some ⟨9,0,none⟩) L5.length 0) 10 [0,1,9] hE5 trivial rfl rfl rfl rfl ⟨rCode rfl rfl,rCells rfl ⟨rfl,rfl,.inr rfl⟩ rfl,trivial⟩ ⟨frOne rfl rfl,trivial⟩ ⟨frFlat (rSp_flat _) rfl,trivial⟩ rfl rfl (ho1 ⟨_,rfl⟩) (hu1 rfl) rfl rfl ?_
   refine gF trivial rfl rfl rfl rfl rfl ?_
   refine gT trivial rfl rfl rfl rfl rfl rfl rfl rfl rfl rfl (Nat.le_of_ble_eq_true rfl) rfl ?_
   refine rg_nil nofun ?_
   refine vc_seq ?_
   refine vc_region hm ?_
   refine gL trivial rfl rfl rfl rfl rfl rfl rfl rfl ?_
   refine gT trivial rfl rfl rfl rfl rfl rfl rfl rfl rfl rfl (Nat.le_of_ble_eq_true rfl) rfl ?_
   refine rg_nil nofun ?_
   refine vc_ret ?_
   exact ⟨mkF (.agg #[.string o.t,.slice (some ⟨4,0,none⟩) L5.length 0,.slice (some ⟨5,0,none⟩) o.d.length 0]) [0,2,3] [(1,one ⟨[.slice (some ⟨0,k,none⟩) n 0,.int .i64 (p5)],101,2⟩)] [(4,one ⟨rSp L5,38,2⟩),(5,one ⟨rSp o.d,38,2⟩)],_,endsT [(4,9,one ⟨rSp L5,38,2⟩),(5,7,one ⟨rSp o.d,38,2⟩)] (.inr rfl) (.cell rfl rfl rfl rfl rfl .nil) rfl rfl ⟨upOne rfl rfl rfl,trivial⟩ ⟨asFlat rfl (rSp_flat _),asFlat rfl (rSp_flat _),trivial⟩ rfl,(⟨o.t,L5,o.d⟩:Ow),_,(show o.t.size≤_ by omega),(show L5.length≤_ by omega),(show o.d.length≤_ by omega),(by omega),(by omega),rfl⟩
  ·skip
   have p15:=ne_of_beq_false c15
   refine vc_seq ?_
   refine vc_region hm ?_
   refine gI trivial rfl rfl rfl rfl rfl rfl ?_
   refine gM trivial (.inr rfl) rfl rfl rfl ?_
   refine rg_nil nofun ?_
   refine cI rfl (fun c20=>?_) (fun c20=>?_)
   ·skip
    have p20:=eq_of_beq c20
    refine vc_region hm ?_
    refine gF trivial rfl rfl rfl rfl rfl ?_
    refine gL trivial rfl rfl rfl rfl rfl rfl rfl rfl ?_
    refine gM trivial (.inl rfl) rfl rfl rfl ?_
    obtain ⟨E7,hE7,s7,p7,s7a,s7b,s7c,q7a,q7b,rfl⟩:=span_c (k:=k) (t0:=t0) (p:=p + 1) hl hn (by omega) (by omega) 
    refine gCF (ups':=[(1,one ⟨[.slice (some ⟨0,k,none⟩) n 0,.int .i64 (p7)],101,2⟩)]) (as':=[]) (v':=vSp s7) 9 [0,1] hE7 trivial rfl rfl rfl rfl ⟨rCode rfl rfl,rCells rfl ⟨rfl,rfl,.inr rfl⟩ rfl,trivial⟩ ⟨frOne rfl rfl,trivial⟩ trivial rfl rfl (ho1 ⟨_,rfl⟩) (hu1 rfl) rfl rfl ?_
    refine gR (u':=10) (out:=rSp [s7]) trivial rfl rfl rfl rfl rfl rfl rfl rfl rfl rfl rfl rfl rfl rfl ?_
    refine gAp (u':=11) trivial rfl rfl rfl rfl rfl rfl rfl rfl rfl rfl rfl rfl (by rw [rowL_len (n:=2) (fun _=>rfl)]) (Nat.le_refl _) rfl (show (o.d.length + 1) * (16 + 1)≤140737488355328 by omega) (row_snoc (enc:=eSp) (x:=s7)) rfl ?_
    refine gF trivial rfl rfl rfl rfl rfl ?_
    refine gT trivial rfl rfl rfl rfl rfl rfl rfl rfl rfl rfl (Nat.le_of_ble_eq_true rfl) rfl ?_
    refine rg_nil (fun _=>by kernel_rfl) ?_
    refine vc_seq ?_
    refine vc_region hm ?_
    refine gL trivial rfl rfl rfl rfl rfl rfl rfl rfl ?_
    refine gT trivial rfl rfl rfl rfl rfl rfl rfl rfl rfl rfl (Nat.le_of_ble_eq_true rfl) rfl ?_
    refine rg_nil nofun ?_
    refine vc_ret ?_
    exact ⟨mkF (.agg #[.string o.t,.slice (some ⟨4,0,none⟩) o.h.length 0,.slice (some ⟨5,0,none⟩) (o.d ++ [s7]).length 0]) [0,2,3] [(1,one ⟨[.slice (some ⟨0,k,none⟩) n 0,.int .i64 (p7)],101,2⟩)] [(4,one ⟨rSp o.h,38,2⟩),(5,one ⟨rSp (o.d ++ [s7]),38,2⟩)],_,endsT [(4,6,one ⟨rSp o.h,38,2⟩),(5,10,one ⟨rSp (o.d ++ [s7]),38,2⟩)] (.inr rfl) (.cell rfl rfl rfl rfl rfl .nil) (by rw [List.length_append];rfl) rfl ⟨upOne rfl rfl rfl,trivial⟩ ⟨asFlat rfl (rSp_flat _),asFlat rfl (rSp_flat _),trivial⟩ rfl,(⟨o.t,o.h,(o.d ++ [s7])⟩:Ow),_,(show o.t.size≤_ by omega),(show o.h.length≤_ by omega),(by show (o.d ++ [s7]).length≤_;rw [List.length_append];show o.d.length + 1≤_;omega),(by omega),(by omega),rfl⟩
   ·skip
    have p20:=ne_of_beq_false c20
    refine vc_seq ?_
    refine vc_region hm ?_
    refine gI trivial rfl rfl rfl rfl rfl rfl ?_
    refine gM trivial (.inr rfl) rfl rfl rfl ?_
    refine rg_nil nofun ?_
    refine cI rfl (fun c29=>?_) (fun c29=>?_)
    ·skip
     have p29:=eq_of_beq c29
     refine vc_region hm ?_
     refine gM trivial (.inl rfl) rfl rfl rfl ?_
     obtain ⟨E9,hE9,L9,p9,l9a,q9a,q9b,rfl⟩:=lists_c (k:=k) (t0:=t0) (p:=p + 1) hl hn (by omega) (by omega) 
     refine gCF (ups':=[(1,one ⟨[.slice (some ⟨0,k,none⟩) n 0,.int .i64 (p9)],101,2⟩)]) (as':=[(9,one ⟨rSp L9,38,2⟩)]) (v':=.slice (some ⟨9,0,none⟩) L9.length 0) 10 [0,1,9] hE9 trivial rfl rfl rfl rfl ⟨rCode rfl rfl,rCells rfl ⟨rfl,rfl,.inr rfl⟩ rfl,trivial⟩ ⟨frOne rfl rfl,trivial⟩ ⟨frFlat (rSp_flat _) rfl,trivial⟩ rfl rfl (ho1 ⟨_,rfl⟩) (hu1 rfl) rfl rfl ?_
     refine gF trivial rfl rfl rfl rfl rfl ?_
     refine gT trivial rfl rfl rfl rfl rfl rfl rfl rfl rfl rfl (Nat.le_of_ble_eq_true rfl) rfl ?_
     refine rg_nil nofun ?_
     refine vc_seq ?_
     refine vc_region hm ?_
     refine gL trivial rfl rfl rfl rfl rfl rfl rfl rfl ?_
     refine gT trivial rfl rfl rfl rfl rfl rfl rfl rfl rfl rfl (Nat.le_of_ble_eq_true rfl) rfl ?_
     refine rg_nil nofun ?_
     refine vc_ret ?_
     exact ⟨mkF (.agg #[.string o.t,.slice (some ⟨4,0,none⟩) o.h.length 0,.slice (some ⟨5,0,none⟩) L9.length 0]) [0,2,3] [(1,one ⟨[.slice (some ⟨0,k,none⟩) n 0,.int .i64 (p9)],101,2⟩)] [(4,one ⟨rSp o.h,38,2⟩),(5,one ⟨rSp L9,38,2⟩)],_,endsT [(4,6,one ⟨rSp o.h,38,2⟩),(5,9,one ⟨rSp L9,38,2⟩)] (.inr rfl) (.cell rfl rfl rfl rfl rfl .nil) rfl rfl ⟨upOne rfl rfl rfl,trivial⟩ ⟨asFlat rfl (rSp_flat _),asFlat rfl (rSp_flat _),trivial⟩ rfl,(⟨o.t,o.h,L9⟩:Ow),_,(show o.t.size≤_ by omega),(show o.h.length≤_ by omega),(show L9.length≤_ by omega),(by omega),(by omega),rfl⟩
    ·skip
     have p29:=ne_of_beq_false c29
     refine vc_seq ?_
     refine vc_region hm ?_
     refine gI trivial rfl rfl rfl rfl rfl rfl ?_
     refine gM trivial (.inr rfl) rfl rfl rfl ?_
     refine rg_nil nofun ?_
     refine cI rfl (fun c34=>?_) (fun c34=>?_)
     ·skip
      have p34:=eq_of_beq c34
      refine vc_seq ?_
      refine vc_region hm ?_
      refine gF trivial rfl rfl rfl rfl rfl ?_
      refine gL trivial rfl rfl rfl rfl rfl rfl rfl rfl ?_
      refine gKT trivial rfl rfl rfl rfl rfl ?_
      refine gI trivial rfl rfl rfl rfl rfl rfl ?_
      refine rg_nil nofun ?_
      refine cI rfl (fun c39=>?_) (fun c39=>?_)
      ·skip
       have p39:=of_decide_eq_true c39
       refine vc_region hm ?_
       refine gF trivial rfl rfl rfl rfl rfl ?_
       refine gL trivial rfl rfl rfl rfl rfl rfl rfl rfl ?_
       refine gU trivial rfl rfl rfl rfl rfl rfl rfl rfl ?_
       refine gM trivial (.inl rfl) rfl rfl rfl ?_
       refine gR (u':=10) (out:=rS [⟨#[65]⟩,⟨#[113]⟩]) trivial rfl rfl rfl rfl rfl rfl rfl rfl rfl rfl rfl rfl rfl rfl ?_
       obtain ⟨E12,hE12,t12,t12a,t12b,rfl⟩:=ofS_c (k:=k) (t0:=t0) (p:=p + 1) hl hn (by omega) (by omega) (L:=[⟨#[65]⟩,⟨#[113]⟩]) (lo:=1) (hi:=1) (by decide) (by decide)
       refine gCF (ups':=[(1,one ⟨[.slice (some ⟨0,k,none⟩) n 0,.int .i64 (p + 1 + 1)],101,2⟩)]) (as':=[]) (v':=.string t12) 10 [0,1,9] hE12 trivial rfl rfl rfl rfl ⟨rCode rfl rfl,rCells rfl ⟨rfl,rfl,.inr rfl⟩ rfl,rFlat (rS_flat _) rfl (.inl rfl) rfl,trivial⟩ ⟨frOne rfl rfl,trivial⟩ trivial rfl rfl (ho1 ⟨_,rfl⟩) (hu1 rfl) rfl rfl ?_
       refine gC0 [] (spec_l6Over_c (t:=o.t) (d:=t12) (s:=⟨0,1⟩) (by decide) (by decide) (show (1:Int)≤_ by omega) (by omega) (by omega)) trivial rfl rfl rfl rfl (by trivial) rfl rfl rfl rfl rfl ?_
       refine gF trivial rfl rfl rfl rfl rfl ?_
       refine gT trivial rfl rfl rfl rfl rfl rfl rfl rfl rfl rfl (Nat.le_of_ble_eq_true rfl) rfl ?_
       refine rg_nil (fun _=>by kernel_rfl) ?_
       refine vc_seq ?_
       refine vc_region hm ?_
       refine gL trivial rfl rfl rfl rfl rfl rfl rfl rfl ?_
       refine gT trivial rfl rfl rfl rfl rfl rfl rfl rfl rfl rfl (Nat.le_of_ble_eq_true rfl) rfl ?_
       refine rg_nil nofun ?_
       refine vc_ret ?_
       exact ⟨mkF (.agg #[.string (overT o.t 0 1 t12),.slice (some ⟨4,0,none⟩) o.h.length 0,.slice (some ⟨5,0,none⟩) o.d.length 0]) [0,2,3] [(1,one ⟨[.slice (some ⟨0,k,none⟩) n 0,.int .i64 (p + 1 + 1)],101,2⟩)] [(4,one ⟨rSp o.h,38,2⟩),(5,one ⟨rSp o.d,38,2⟩)],_,endsT [(4,6,one ⟨rSp o.h,38,2⟩),(5,7,one ⟨rSp o.d,38,2⟩)] (.inr rfl) (.cell rfl rfl rfl rfl rfl .nil) rfl rfl ⟨upOne rfl rfl rfl,trivial⟩ ⟨asFlat rfl (rSp_flat _),asFlat rfl (rSp_flat _),trivial⟩ rfl,(⟨(overT o.t 0 1 t12),o.h,o.d⟩:Ow),_,(by show (overT o.t 0 1 t12).size≤_;have:=overT_len (t:=o.t) (d:=t12);omega),(show o.h.length≤_ by omega),(show o.d.length≤_ by omega),(by omega),(by omega),rfl⟩
      ·skip
       have p39:=of_decide_eq_false c39
       refine vc_skip ?_
       refine vc_seq ?_
       refine vc_region hm ?_
       refine gL trivial rfl rfl rfl rfl rfl rfl rfl rfl ?_
       refine gT trivial rfl rfl rfl rfl rfl rfl rfl rfl rfl rfl (Nat.le_of_ble_eq_true rfl) rfl ?_
       refine rg_nil nofun ?_
       refine vc_ret ?_
       exact ⟨mkF (.agg #[.string o.t,.slice (some ⟨4,0,none⟩) o.h.length 0,.slice (some ⟨5,0,none⟩) o.d.length 0]) [0,2,3] [(1,one ⟨[.slice (some ⟨0,k,none⟩) n 0,.int .i64 (p + 1)],101,2⟩)] [(4,one ⟨rSp o.h,38,2⟩),(5,one ⟨rSp o.d,38,2⟩)],_,endsT [(4,6,one ⟨rSp o.h,38,2⟩),(5,7,one ⟨rSp o.d,38,2⟩)] (.inr rfl) (.cell rfl rfl rfl rfl rfl .nil) rfl rfl ⟨upOne rfl rfl rfl,trivial⟩ ⟨asFlat rfl (rSp_flat _),asFlat rfl (rSp_flat _),trivial⟩ rfl,(⟨o.t,o.h,o.d⟩:Ow),_,(show o.t.size≤_ by omega),(show o.h.length≤_ by omega),(show o.d.length≤_ by omega),(by omega),(by omega),rfl⟩
     ·skip
      have p34:=ne_of_beq_false c34
      refine vc_skip ?_
      refine vc_seq ?_
      refine vc_region hm ?_
      refine gL trivial rfl rfl rfl rfl rfl rfl rfl rfl ?_
      refine gT trivial rfl rfl rfl rfl rfl rfl rfl rfl rfl rfl (Nat.le_of_ble_eq_true rfl) rfl ?_
      refine rg_nil nofun ?_
      refine vc_ret ?_
      exact ⟨mkF (.agg #[.string o.t,.slice (some ⟨4,0,none⟩) o.h.length 0,.slice (some ⟨5,0,none⟩) o.d.length 0]) [0,2,3] [(1,one ⟨[.slice (some ⟨0,k,none⟩) n 0,.int .i64 (p + 1)],101,2⟩)] [(4,one ⟨rSp o.h,38,2⟩),(5,one ⟨rSp o.d,38,2⟩)],_,endsT [(4,6,one ⟨rSp o.h,38,2⟩),(5,7,one ⟨rSp o.d,38,2⟩)] (.inr rfl) (.cell rfl rfl rfl rfl rfl .nil) rfl rfl ⟨upOne rfl rfl rfl,trivial⟩ ⟨asFlat rfl (rSp_flat _),asFlat rfl (rSp_flat _),trivial⟩ rfl,(⟨o.t,o.h,o.d⟩:Ow),_,(show o.t.size≤_ by omega),(show o.h.length≤_ by omega),(show o.d.length≤_ by omega),(by omega),(by omega),rfl⟩
end Go.Proofs.Ythionnhbnfblcaa.A

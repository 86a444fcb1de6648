/- Part 4 of the proof of FnLockDown: words, contracts of callees, plain lemmas. -/
import Derived.Test.YtbgehlihpkefmaaZLLockDown3
set_option maxHeartbeats 8000000
set_option maxRecDepth 100000
set_option linter.unusedVariables false
set_option linter.unusedSimpArgs false
namespace Go.Proofs.Ytbgehlihpkefmaa.A
open Go Go.RowKit
open Go.Joins Go.ChangeShapes Go.WideShapes Go.Deep
theorem u8_in {n:Int} (h:(Lit.int .u8 n).wf=true):0≤n∧n≤255:=by
 have e1:IntKind.u8.min=0:=by decide
 have e2:IntKind.u8.max=255:=by decide
 simp only [Lit.wf,e1,e2,Bool.and_eq_true,decide_eq_true_eq] at h
 exact h
def CodeArg (w:World) (v:Value) (l:List Int) (N:Nam) (k:Nat):Prop:=RawN w v N k l.length (rY l)∧(N.nil=false→l.length≤N.cap)∧ByL l∧l.length≤9223372036854775807
theorem code_at {w:World} {v:Value} {l:List Int} {N:Nam} {k:Nat} {ns:List Nam} {b:Nat} (h:CodeArg w v l N k) (hb:ns[b]?=some N) (hb':b<1000):famAt (envL ns) w b (one ⟨hls k (rY l),capT + l.length,0⟩) :=
 raw_atR h.1 (rY_flat l) hb hb' fun hn=>by rw [Nat.add_sub_cancel_left];exact h.2.1 hn
theorem code_r3 {w:World} {v:Value} {l:List Int} {N:Nam} {k:Nat} {ns:List Nam} {b:Nat} (h:CodeArg w v l N k) (hb:ns[b]?=some N) (hb':b<1000):r3 (envL ns) (.slice (some ⟨b,k,none⟩) l.length 0)=v:=raw_r1 h.1 hb hb'
theorem open_bytesA {H:Type} {enc:TypeId × Value→H} {w:World} {base:Nat} {spare:Nat→Bool} {held:Bool} {r:Reach} {b0:Nat} {v:Value} {d:DataW H} {p:List MemPlace} (hv:Value.okWide Try.prog w r b0 22 v) (h:DataW.Trod enc Try.prog w base spare held 22 v d p):∃ l N k,CodeArg w v l N k:=by
 obtain ⟨a1,len,cap,rfl⟩:=okWide_slice Try.underlying22 hv
 obtain ⟨fuel,hf⟩:=h
 rcases open_ints Try.underlying22 Try.underlying5 (by kernel_rfl) hf with ⟨h1,_⟩|⟨a,len',cap',zs,h1,_,hl,hm,hz,_,hcell,hw⟩
 ·simp only [Value.cells,List.cons.injEq,_root_.and_true,Value.slice.injEq] at h1
  obtain ⟨rfl,rfl,rfl⟩:=h1
  exact ⟨[],_,_,raw_none,fun q=>(by cases q),(fun _ hx=>(nomatch hx)),by decide⟩
 ·simp only [Value.cells,List.cons.injEq,_root_.and_true,Value.slice.injEq] at h1
  obtain ⟨rfl,rfl,rfl⟩:=h1
  unfold maxLen at hm
  have hlz:len≤zs.length:=by rw [hz];split <;> omega
  have hn:(zs.take len).length=len:=by rw [List.length_take,Nat.min_eq_left hlz]
  have key:∀ i x,(rY (zs.take len))[i]?=some x→w.cell? (a.add i)=some x:=fun i x hx=>by
   have hi:=(List.getElem?_eq_some_iff.1 hx).1
   rw [rowL_len (n:=1) (fun _=>rfl),hn,Nat.mul_one] at hi
   have e1:x = .int .u8 (zs.getD i 0):=by
    have hg:=rowL_get (enc:=eY) (n:=1) (fun _=>rfl) (zs.take len) i 0 (by rw [hn];exact hi) (by decide)
    rw [Nat.mul_one,Nat.add_zero,hx,List.getElem_take] at hg
    rw [List.getD_eq_getElem?_getD,List.getElem?_eq_getElem (by omega)]
    exact Option.some.inj hg
   rw [e1]
   exact hcell i (by omega)
  obtain ⟨N,k,hr,hc⟩:=raw_of' (enc:=eY) (m:=1) (fun _=>rfl) (by decide) (cap:=cap) key
  refine ⟨zs.take len,N,k,by rw [hn] at hr ⊢;exact hr,fun q=>by rw [hc q,hn];omega,fun x hx=>u8_in (hw x (List.mem_of_mem_take hx)),by rw [hn];omega⟩
end Go.Proofs.Ytbgehlihpkefmaa.A
namespace Go.Proofs.Ytbgehlihpkefmaa.A
open Go Go.RowKit
set_option maxHeartbeats 4000000
theorem FnLockDown_c {l:List Int} {k:Nat} (hl:ByL l) (hl9:l.length≤9223372036854775807):FDoes Try.prog 12 [.slice (some ⟨0,k,none⟩) l.length 0] (hp [(0,false,one ⟨hls k (rY l),capT + l.length,0⟩)]) { v:=.bool true,rd:=[0] }:=by
 have hm:Try.prog.follows .mixedOrders=true:=by kernel_rfl
 have hd_:∀ x_ ∈ ([(0,false,one ⟨hls k (rY l),capT + l.length,0⟩)]:List (Nat × Bool × Fam)),∀ k_ y_,x_.2.2 k_=some y_→DetB (lt 1) y_:=by
  intro x_ hx k_ y_ e
  simp only [List.mem_cons,List.not_mem_nil,or_false] at hx
  subst hx
  exact det_code e
 refine fn_exact (u0:=1) Try.func12 rfl rfl (gets rfl rfl rfl hd_ rfl) ?_
 clear hd_
 refine vc_seq ?_
 refine vc_region hm ?_
 refine gM trivial (.inr rfl) rfl rfl rfl ?_
 refine rg_nil nofun ?_
 refine vc_seq ?_
 refine vc_seq ?_
 refine vc_region hm ?_
 refine gM trivial (.inl rfl) rfl rfl rfl ?_
 refine gK trivial rfl rfl rfl rfl rfl rfl (hls_nil fun e=>rY_nil e) ?_
 refine gI trivial rfl rfl rfl rfl rfl rfl ?_
 refine rg_nil nofun ?_
 refine cI rfl (fun c17=>?_) (fun c17=>?_)
 ·skip
  have p17:=of_decide_eq_true c17
  refine vc_seq ?_
  refine vc_region hm ?_
  refine gM trivial (.inr rfl) rfl rfl rfl ?_
  refine rg_nil nofun ?_
  refine vc_ret ?_
  exact ⟨idm,ends0 (.inr rfl) rfl (eqB rfl) rfl rfl rfl⟩
 ·skip
  have p17:=of_decide_eq_false c17
  refine vc_skip ?_
  refine vc_seq ?_
  refine vc_region hm ?_
  refine gM trivial (.inl rfl) rfl rfl rfl ?_
  obtain ⟨E2,hE2,M,kk,cc,who,write,sp,ma,mb,rfl⟩:=drawDown_c (l:=l) (k:=k) hl
  have hT:M.length≤1048576:=by omega
  have hB:∀ h ∈ M,h.r.length≤1048576∧h.w.length≤1048576:=fun h hh=>by have:=mb h hh;omega
  refine gCF (ups':=[]) (as':=[(1,one ⟨hls kk (rHv (tabV 2 zo M)),46,0⟩),(2,inF zo 28 77 M)]) (v':=.tuple #[.slice (some ⟨1,kk,none⟩) M.length cc,.int .i64 who,vSp sp]) 3 [0,1,2] hE2 trivial rfl rfl rfl rfl ⟨rCode rfl rfl,trivial⟩ trivial ⟨frTab rfl rfl rfl,frIn rfl,trivial⟩ rfl rfl (fun x hx=>nomatch hx) (fun x hx=>nomatch hx) rfl rfl ?_
  refine gM trivial (.inl rfl) rfl rfl rfl ?_
  refine gE trivial rfl rfl rfl rfl rfl rfl ?_
  refine gE trivial rfl rfl rfl rfl rfl rfl ?_
  refine gE trivial rfl rfl rfl rfl rfl rfl ?_
  refine gZ (u':=4) trivial rfl rfl rfl rfl rfl rfl rfl rfl ?_
  refine gM trivial (.inr rfl) rfl rfl rfl ?_
  refine gM trivial (.inr rfl) rfl rfl rfl ?_
  refine gT trivial rfl rfl rfl rfl rfl rfl rfl rfl rfl rfl (Nat.le_of_ble_eq_true rfl) rfl ?_
  refine rg_nil nofun ?_
  refine vc_seq ?_
  refine vc_region hm ?_
  refine gM trivial (.inl rfl) rfl rfl rfl ?_
  refine gM trivial (.inl rfl) rfl rfl rfl ?_
  refine gL trivial rfl rfl rfl rfl rfl rfl rfl rfl ?_
  refine gCT (as':=[(4,one ⟨rHv (tabV 5 zo (resT M (goK who sp true) who (downH (at_ M who) sp))),46,2⟩),(5,inF zo 28 77 (resT M (goK who sp true) who (downH (at_ M who) sp)))]) (v':=.tuple #[.slice (some ⟨4,0,none⟩) (resT M (goK who sp true) who (downH (at_ M who) sp)).length 0,.bool (resB M (goK who sp true) who (downH (at_ M who) sp))]) 6 [nA (nm 1 (0)),nF 2,nF 4,nF 5] [1,2] (impl_LockDown_c (T:=M) (who:=who) (s:=sp) (kk:=kk) (cc:=cc) hT hB) trivial rfl rfl rfl rfl rfl ⟨aTab (k:=kk) rfl rfl rfl rfl (.inl rfl) (.inl rfl) rfl rfl,aIn rfl rfl (.inr rfl) (.inr (.inl rfl)) rfl,trivial⟩ ⟨rTab rfl rfl rfl,rIn rfl,trivial⟩ ⟨rfl,rfl⟩ rfl rfl rfl ?_
  refine gM trivial (.inl rfl) rfl rfl rfl ?_
  refine gE trivial rfl rfl rfl rfl rfl rfl ?_
  refine gE trivial rfl rfl rfl rfl rfl rfl ?_
  refine gM trivial (.inr rfl) rfl rfl rfl ?_
  refine gM trivial (.inr rfl) rfl rfl rfl ?_
  refine rg_nil nofun ?_
  refine vc_seq ?_
  refine vc_region hm ?_
  refine gM trivial (.inl rfl) rfl rfl rfl ?_
  refine gM trivial (.inl rfl) rfl rfl rfl ?_
  refine gL trivial rfl rfl rfl rfl rfl rfl rfl rfl ?_
  refine gCT (as':=[(6,one ⟨rHv (tabV 7 zo (resT M (goK who sp true) who (downH (at_ M who) sp))),46,2⟩),(7,inF zo 28 77 (resT M (goK who sp true) who (downH (at_ M who) sp)))]) (v':=.tuple #[.slice (some ⟨6,0,none⟩) (resT M (goK who sp true) who (downH (at_ M who) sp)).length 0,.bool (resB M (goK who sp true) who (downH (at_ M who) sp))]) 8 [nA (nm 1 (0)),nF 2,nF 6,nF 7] [1,2] (spec_LockDown_c (T:=M) (who:=who) (s:=sp) (kk:=kk) (cc:=cc) hT hB) trivial rfl rfl rfl rfl rfl ⟨aTab (k:=kk) rfl rfl rfl rfl (.inl rfl) (.inl rfl) rfl rfl,aIn rfl rfl (.inl rfl) (.inl rfl) rfl,trivial⟩ ⟨rTab rfl rfl rfl,rIn rfl,trivial⟩ ⟨rfl,rfl⟩ rfl rfl rfl ?_
  refine gM trivial (.inl rfl) rfl rfl rfl ?_
  refine gE trivial rfl rfl rfl rfl rfl rfl ?_
  refine gE trivial rfl rfl rfl rfl rfl rfl ?_
  refine gM trivial (.inr rfl) rfl rfl rfl ?_
  refine gM trivial (.inr rfl) rfl rfl rfl ?_
  refine rg_nil nofun ?_
  refine vc_seq ?_
  refine vc_seq ?_
  refine vc_region hm ?_
  refine gM trivial (.inl rfl) rfl rfl rfl ?_
  refine gM trivial (.inl rfl) rfl rfl rfl ?_
  refine gBN trivial rfl rfl rfl rfl rfl rfl ?_
  refine gM trivial (.inl rfl) rfl rfl rfl ?_
  refine gM ⟨_,_,rfl,rfl,(nself _)⟩ (.inl rfl) rfl rfl rfl ?_
  refine gM ⟨_,_,rfl,rfl,(nself _)⟩ (.inl rfl) rfl rfl rfl ?_
  refine gCT0 [nA (nm 4 (0)),nF 5,nA (nm 6 (0)),nF 7] [4,5,6,7] (impl_LockSame_c (A:=(resT M (goK who sp true) who (downH (at_ M who) sp))) (B:=(resT M (goK who sp true) who (downH (at_ M who) sp))) (ka:=0) (ca:=0) (kb:=0) (cb:=0) res_len res_big) ⟨_,_,rfl,rfl,(nself _)⟩ rfl rfl rfl rfl rfl ⟨aTab (k:=0) rfl rfl rfl rfl (.inl rfl) (.inl rfl) rfl rfl,aIn rfl rfl (.inl rfl) (.inl rfl) rfl,aTab (k:=0) rfl rfl rfl rfl (.inl rfl) (.inl rfl) rfl rfl,aIn rfl rfl (.inl rfl) (.inl rfl) rfl,trivial⟩ rfl rfl rfl rfl ?_
  refine gN ⟨_,_,rfl,rfl,(nself _)⟩ rfl rfl rfl rfl ?_
  refine gPF trivial rfl rfl (nself _) rfl rfl rfl ?_
  refine gM trivial (.inl rfl) rfl rfl rfl ?_
  refine gM ⟨_,_,rfl,rfl,(notT (decide_eq_true rfl))⟩ (.inl rfl) rfl rfl rfl ?_
  refine gN ⟨_,_,rfl,rfl,(notT (decide_eq_true rfl))⟩ rfl rfl rfl rfl ?_
  refine gPF trivial rfl rfl (notT (decide_eq_true rfl)) rfl rfl rfl ?_
  refine rg_nil nofun ?_
  refine cI rfl (fun c50=>?_) (fun c50=>?_)
  ·skip
   have n50:=unT c50
   refine vc_seq ?_
   refine vc_region hm ?_
   refine gM trivial (.inl rfl) rfl rfl rfl ?_
   refine gM trivial (.inl rfl) rfl rfl rfl ?_
   refine gBE trivial rfl rfl rfl rfl rfl rfl ?_
   refine gM trivial (.inl rfl) rfl rfl rfl ?_
   refine gM ⟨_,_,rfl,rfl,(beq_self_eq_true _)⟩ (.inl rfl) rfl rfl rfl ?_
   refine gM ⟨_,_,rfl,rfl,(beq_self_eq_true _)⟩ (.inl rfl) rfl rfl rfl ?_
   refine gCT0 [nA (nm 4 (0)),nF 5,nA (nm 6 (0)),nF 7] [4,5,6,7] (impl_LockSame_c (A:=(resT M (goK who sp true) who (downH (at_ M who) sp))) (B:=(resT M (goK who sp true) who (downH (at_ M who) sp))) (ka:=0) (ca:=0) (kb:=0) (cb:=0) res_len res_big) ⟨_,_,rfl,rfl,(beq_self_eq_true _)⟩ rfl rfl rfl rfl rfl ⟨aTab (k:=0) rfl rfl rfl rfl (.inl rfl) (.inl rfl) rfl rfl,aIn rfl rfl (.inl rfl) (.inl rfl) rfl,aTab (k:=0) rfl rfl rfl rfl (.inl rfl) (.inl rfl) rfl rfl,aIn rfl rfl (.inl rfl) (.inl rfl) rfl,trivial⟩ rfl rfl rfl rfl ?_
   refine gPT trivial rfl rfl (beq_self_eq_true _) rfl rfl rfl ?_
   refine gM trivial (.inr rfl) rfl rfl rfl ?_
   refine rg_nil nofun ?_
   refine vc_ret ?_
   exact ⟨idm,ends0 (.inr rfl) rfl (eqB (decide_eq_true rfl).symm) rfl rfl rfl⟩
  ·skip
   have n50:=unF c50
   refine vc_skip ?_
   refine vc_seq ?_
   refine vc_seq ?_
   refine vc_region hm ?_
   refine gM trivial (.inr rfl) rfl rfl rfl ?_
   refine rg_nil nofun ?_
   refine vc_block ?_
   refine vc_loopT (fun n_ S_=>∃ (i:Int),0≤i∧i≤48∧n_=(48 - i).toNat∧S_=⟨6,[(3,.slice (some ⟨1,kk,none⟩) M.length cc),(4,.int .i64 who),(5,.pointer (some ⟨3,0,none⟩)),(6,.slice (some ⟨4,0,none⟩) (resT M (goK who sp true) who (downH (at_ M who) sp)).length 0),(10,.int .i64 i)],[(0,false,one ⟨hls k (rY l),capT + l.length,0⟩),(1,true,one ⟨hls kk (rHv (tabV 2 zo M)),46,0⟩),(2,true,inF zo 28 77 M),(3,true,one ⟨[.int .i64 sp.lo,.int .i64 sp.hi],28,2⟩),(4,true,one ⟨rHv (tabV 5 zo (resT M (goK who sp true) who (downH (at_ M who) sp))),46,2⟩),(5,true,inF zo 28 77 (resT M (goK who sp true) who (downH (at_ M who) sp)))]⟩) ⟨0,(Int.le_refl _),(by decide),rfl,rfl⟩ (re_nil (ms:=[0,1,2,3,4,5]) (C:=999) rfl ⟨⟨⟨rfl,rfl⟩,rfl⟩,⟨⟨rfl,rfl⟩,rfl⟩,⟨⟨rfl,rfl⟩,rfl⟩,⟨⟨rfl,rfl⟩,rfl⟩,⟨⟨rfl,rfl⟩,rfl⟩,trivial⟩ ⟨ktCode rfl rfl,ktTab (k:=kk) rfl rfl (.inr (.inl rfl)) id rfl rfl,ktIn rfl id rfl,ktFlat rfl rfl (.inr (.inl rfl)) id rfl,ktTab (k:=0) rfl rfl (.inr (.inl rfl)) id rfl rfl,ktIn rfl id rfl,trivial⟩ rfl rfl (rig_of rfl) rfl) ?_
   rintro n_ S_ ⟨i,i0,i1,rfl,rfl⟩
   refine vc_seq ?_
   refine vc_seq ?_
   refine vc_region hm ?_
   refine gM trivial (.inl rfl) rfl rfl rfl ?_
   refine gI trivial rfl rfl rfl rfl rfl rfl ?_
   refine rg_nil nofun ?_
   refine cI rfl (fun c60=>?_) (fun c60=>?_)
   ·skip
    have p60:=of_decide_eq_true c60
    refine vc_skip ?_
    refine vc_seq ?_
    refine vc_block ?_
    refine vc_joinT (fun S_=>S_=⟨6,[(3,.slice (some ⟨1,kk,none⟩) M.length cc),(4,.int .i64 who),(5,.pointer (some ⟨3,0,none⟩)),(6,.slice (some ⟨4,0,none⟩) (resT M (goK who sp true) who (downH (at_ M who) sp)).length 0),(10,.int .i64 i),(11,.bool (insB sp i))],[(0,false,one ⟨hls k (rY l),capT + l.length,0⟩),(1,true,one ⟨hls kk (rHv (tabV 2 zo M)),46,0⟩),(2,true,inF zo 28 77 M),(3,true,one ⟨[.int .i64 sp.lo,.int .i64 sp.hi],28,2⟩),(4,true,one ⟨rHv (tabV 5 zo (resT M (goK who sp true) who (downH (at_ M who) sp))),46,2⟩),(5,true,inF zo 28 77 (resT M (goK who sp true) who (downH (at_ M who) sp)))]⟩) ?_ ?_
    ·skip
     refine vc_region hm ?_
     refine gM trivial (.inl rfl) rfl rfl rfl ?_
     refine gF trivial rfl rfl rfl rfl rfl ?_
     refine gL trivial rfl rfl rfl rfl rfl rfl rfl rfl ?_
     refine gI trivial rfl rfl rfl rfl rfl rfl ?_
     refine gM trivial (.inl rfl) rfl rfl rfl ?_
     refine gI2 (d:=67) rfl (fun c67=>?_) (fun c67=>?_)
     ·skip
      have p67:=of_decide_eq_true c67
      refine gM ⟨_,_,rfl,rfl,c67⟩ (.inl rfl) rfl rfl rfl ?_
      refine gF ⟨_,_,rfl,rfl,c67⟩ rfl rfl rfl rfl rfl ?_
      refine gL ⟨_,_,rfl,rfl,c67⟩ rfl rfl rfl rfl rfl rfl rfl rfl ?_
      refine gI ⟨_,_,rfl,rfl,c67⟩ rfl rfl rfl rfl rfl rfl ?_
      refine gPT trivial rfl rfl c67 rfl rfl rfl ?_
      refine gM trivial (.inr rfl) rfl rfl rfl ?_
      refine rg_nil nofun ?_
      exact jn_hereT rfl (re_nil (ms:=[0,1,2,3,4,5]) (C:=999) rfl ⟨⟨⟨rfl,rfl⟩,rfl⟩,⟨⟨rfl,rfl⟩,rfl⟩,⟨⟨rfl,rfl⟩,rfl⟩,⟨⟨rfl,rfl⟩,rfl⟩,⟨⟨rfl,rfl⟩,rfl⟩,⟨⟨rfl,eqB (in_T c67).symm⟩,rfl⟩,trivial⟩ ⟨ktCode rfl rfl,ktTab (k:=kk) rfl rfl (.inr (.inl rfl)) id rfl rfl,ktIn rfl id rfl,ktFlat rfl rfl (.inr (.inl rfl)) id rfl,ktTab (k:=0) rfl rfl (.inr (.inl rfl)) id rfl rfl,ktIn rfl id rfl,trivial⟩ rfl rfl (rig_of rfl) rfl)
     ·skip
      have p67:=of_decide_eq_false c67
      refine gO ⟨_,_,rfl,rfl,c67⟩ rfl rfl ?_
      refine gO ⟨_,_,rfl,rfl,c67⟩ rfl rfl ?_
      refine gO ⟨_,_,rfl,rfl,c67⟩ rfl rfl ?_
      refine gO ⟨_,_,rfl,rfl,c67⟩ rfl rfl ?_
      refine gPF trivial rfl rfl c67 rfl rfl rfl ?_
      refine gM trivial (.inr rfl) rfl rfl rfl ?_
      refine rg_nil nofun ?_
      exact jn_hereT rfl (re_nil (ms:=[0,1,2,3,4,5]) (C:=999) rfl ⟨⟨⟨rfl,rfl⟩,rfl⟩,⟨⟨rfl,rfl⟩,rfl⟩,⟨⟨rfl,rfl⟩,rfl⟩,⟨⟨rfl,rfl⟩,rfl⟩,⟨⟨rfl,rfl⟩,rfl⟩,⟨⟨rfl,eqB (in_F c67).symm⟩,rfl⟩,trivial⟩ ⟨ktCode rfl rfl,ktTab (k:=kk) rfl rfl (.inr (.inl rfl)) id rfl rfl,ktIn rfl id rfl,ktFlat rfl rfl (.inr (.inl rfl)) id rfl,ktTab (k:=0) rfl rfl (.inr (.inl rfl)) id rfl rfl,ktIn rfl id rfl,trivial⟩ rfl rfl (rig_of rfl) rfl)
    ·rintro S_ rfl
     refine vc_seq ?_
     refine vc_region hm ?_
     refine gM trivial (.inl rfl) rfl rfl rfl ?_
     refine gM trivial (.inl rfl) rfl rfl rfl ?_
     refine gM trivial (.inl rfl) rfl rfl rfl ?_
     refine gC0 [] (wpAt_c i (by omega) (by omega)) trivial rfl rfl rfl rfl (by trivial) rfl rfl rfl rfl rfl ?_
     refine gCT0 [nA (nm 4 (0)),nF 5] [4,5] (impl_LockMay_c (T:=(resT M (goK who sp true) who (downH (at_ M who) sp))) (who:=who) (write:=false) (s:=(spAt i)) (kk:=0) (cc:=0) res_len res_big) trivial rfl rfl rfl rfl rfl ⟨aTab (k:=0) rfl rfl rfl rfl (.inl rfl) (.inl rfl) rfl rfl,aIn rfl rfl (.inl rfl) (.inl rfl) rfl,trivial⟩ rfl rfl rfl rfl ?_
     refine gM trivial (.inl rfl) rfl rfl rfl ?_
     refine gM trivial (.inl rfl) rfl rfl rfl ?_
     refine gM trivial (.inl rfl) rfl rfl rfl ?_
     refine gC0 [] (wpAt_c i (by omega) (by omega)) trivial rfl rfl rfl rfl (by trivial) rfl rfl rfl rfl rfl ?_
     refine gCT0 [nA (nm 1 (0)),nF 2] [1,2] (impl_LockMay_c (T:=M) (who:=who) (write:=false) (s:=(spAt i)) (kk:=kk) (cc:=cc) hT hB) trivial rfl rfl rfl rfl rfl ⟨aTab (k:=kk) rfl rfl rfl rfl (.inl rfl) (.inl rfl) rfl rfl,aIn rfl rfl (.inl rfl) (.inl rfl) rfl,trivial⟩ rfl rfl rfl rfl ?_
     refine gBN trivial rfl rfl rfl rfl rfl rfl ?_
     refine gM trivial (.inl rfl) rfl rfl rfl ?_
     refine gM ⟨_,_,rfl,rfl,(beqN (dn_r n50 i0 p60))⟩ (.inl rfl) rfl rfl rfl ?_
     refine gM ⟨_,_,rfl,rfl,(beqN (dn_r n50 i0 p60))⟩ (.inl rfl) rfl rfl rfl ?_
     refine gM ⟨_,_,rfl,rfl,(beqN (dn_r n50 i0 p60))⟩ (.inl rfl) rfl rfl rfl ?_
     refine gC0 [] (wpAt_c i (by omega) (by omega)) ⟨_,_,rfl,rfl,(beqN (dn_r n50 i0 p60))⟩ rfl rfl rfl rfl (by trivial) rfl rfl rfl rfl rfl ?_
     refine gCT0 [nA (nm 4 (0)),nF 5] [4,5] (impl_LockMay_c (T:=(resT M (goK who sp true) who (downH (at_ M who) sp))) (who:=who) (write:=true) (s:=(spAt i)) (kk:=0) (cc:=0) res_len res_big) ⟨_,_,rfl,rfl,(beqN (dn_r n50 i0 p60))⟩ rfl rfl rfl rfl rfl ⟨aTab (k:=0) rfl rfl rfl rfl (.inl rfl) (.inl rfl) rfl rfl,aIn rfl rfl (.inl rfl) (.inl rfl) rfl,trivial⟩ rfl rfl rfl rfl ?_
     refine gM ⟨_,_,rfl,rfl,(beqN (dn_r n50 i0 p60))⟩ (.inl rfl) rfl rfl rfl ?_
     refine gM ⟨_,_,rfl,rfl,(beqN (dn_r n50 i0 p60))⟩ (.inl rfl) rfl rfl rfl ?_
     refine gM ⟨_,_,rfl,rfl,(beqN (dn_r n50 i0 p60))⟩ (.inl rfl) rfl rfl rfl ?_
     refine gC0 [] (wpAt_c i (by omega) (by omega)) ⟨_,_,rfl,rfl,(beqN (dn_r n50 i0 p60))⟩ rfl rfl rfl rfl (by trivial) rfl rfl rfl rfl rfl ?_
     refine gCT0 [nA (nm 1 (0)),nF 2] [1,2] (impl_LockMay_c (T:=M) (who:=who) (write:=true) (s:=(spAt i)) (kk:=kk) (cc:=cc) hT hB) ⟨_,_,rfl,rfl,(beqN (dn_r n50 i0 p60))⟩ rfl rfl rfl rfl rfl ⟨aTab (k:=kk) rfl rfl rfl rfl (.inl rfl) (.inl rfl) rfl rfl,aIn rfl rfl (.inl rfl) (.inl rfl) rfl,trivial⟩ rfl rfl rfl rfl ?_
     refine gM ⟨_,_,rfl,rfl,(beqN (dn_r n50 i0 p60))⟩ (.inl rfl) rfl rfl rfl ?_
     refine gI2 (d:=95) rfl (fun c95=>?_) (fun c95=>?_)
     ·skip
      refine gM ⟨_,_,rfl,rfl,c95⟩ (.inl rfl) rfl rfl rfl ?_
      refine gN ⟨_,_,rfl,rfl,c95⟩ rfl rfl rfl rfl ?_
      refine gPT ⟨_,_,rfl,rfl,(beqN (dn_r n50 i0 p60))⟩ rfl rfl c95 rfl rfl rfl ?_
      refine gBN ⟨_,_,rfl,rfl,(beqN (dn_r n50 i0 p60))⟩ rfl rfl rfl rfl rfl rfl ?_
      refine gPF trivial rfl rfl (beqN (dn_r n50 i0 p60)) rfl rfl rfl ?_
      refine rg_nil nofun ?_
      refine cF rfl (beqN (dn_wT n50 i0 p60 c95)) ?_
      refine vc_skip ?_
      refine vc_region hm ?_
      refine gM trivial (.inl rfl) rfl rfl rfl ?_
      refine gA trivial rfl rfl rfl rfl rfl rfl (by omega) ?_
      refine gM trivial (.inr rfl) rfl rfl rfl ?_
      refine rg_nil nofun ?_
      exact lp_nextT ⟨i + 1,(by omega),(by omega),rfl,rfl⟩ (by omega) (re_nil (ms:=[0,1,2,3,4,5]) (C:=999) rfl ⟨⟨⟨rfl,rfl⟩,rfl⟩,⟨⟨rfl,rfl⟩,rfl⟩,⟨⟨rfl,rfl⟩,rfl⟩,⟨⟨rfl,rfl⟩,rfl⟩,⟨⟨rfl,rfl⟩,rfl⟩,trivial⟩ ⟨ktCode rfl rfl,ktTab (k:=kk) rfl rfl (.inr (.inl rfl)) id rfl rfl,ktIn rfl id rfl,ktFlat rfl rfl (.inr (.inl rfl)) id rfl,ktTab (k:=0) rfl rfl (.inr (.inl rfl)) id rfl rfl,ktIn rfl id rfl,trivial⟩ rfl rfl (rig_of rfl) rfl)
     ·skip
      refine gO ⟨_,_,rfl,rfl,c95⟩ rfl rfl ?_
      refine gO ⟨_,_,rfl,rfl,c95⟩ rfl rfl ?_
      refine gPF ⟨_,_,rfl,rfl,(beqN (dn_r n50 i0 p60))⟩ rfl rfl c95 rfl rfl rfl ?_
      refine gBN ⟨_,_,rfl,rfl,(beqN (dn_r n50 i0 p60))⟩ rfl rfl rfl rfl rfl rfl ?_
      refine gPF trivial rfl rfl (beqN (dn_r n50 i0 p60)) rfl rfl rfl ?_
      refine rg_nil nofun ?_
      refine cF rfl (beqN (dn_wF n50 i0 p60 c95)) ?_
      refine vc_skip ?_
      refine vc_region hm ?_
      refine gM trivial (.inl rfl) rfl rfl rfl ?_
      refine gA trivial rfl rfl rfl rfl rfl rfl (by omega) ?_
      refine gM trivial (.inr rfl) rfl rfl rfl ?_
      refine rg_nil nofun ?_
      exact lp_nextT ⟨i + 1,(by omega),(by omega),rfl,rfl⟩ (by omega) (re_nil (ms:=[0,1,2,3,4,5]) (C:=999) rfl ⟨⟨⟨rfl,rfl⟩,rfl⟩,⟨⟨rfl,rfl⟩,rfl⟩,⟨⟨rfl,rfl⟩,rfl⟩,⟨⟨rfl,rfl⟩,rfl⟩,⟨⟨rfl,rfl⟩,rfl⟩,trivial⟩ ⟨ktCode rfl rfl,ktTab (k:=kk) rfl rfl (.inr (.inl rfl)) id rfl rfl,ktIn rfl id rfl,ktFlat rfl rfl (.inr (.inl rfl)) id rfl,ktTab (k:=0) rfl rfl (.inr (.inl rfl)) id rfl rfl,ktIn rfl id rfl,trivial⟩ rfl rfl (rig_of rfl) rfl)
   ·skip
    have p60:=of_decide_eq_false c60
    refine vc_exit ?_
    refine vc_seq ?_
    refine vc_seq ?_
    refine vc_region hm ?_
    refine gM trivial (.inr rfl) rfl rfl rfl ?_
    refine rg_nil nofun ?_
    refine vc_block ?_
    refine vc_loopT (fun n_ S_=>∃ (n:Nat),n≤3∧n_=3 - n∧S_=⟨6,[(4,.int .i64 who),(5,.pointer (some ⟨3,0,none⟩)),(6,.slice (some ⟨4,0,none⟩) (resT M (goK who sp true) who (downH (at_ M who) sp)).length 0),(12,.int .i64 n)],[(0,false,one ⟨hls k (rY l),capT + l.length,0⟩),(3,true,one ⟨[.int .i64 sp.lo,.int .i64 sp.hi],28,2⟩),(4,true,one ⟨rHv (tabV 5 zo (resT M (goK who sp true) who (downH (at_ M who) sp))),46,2⟩),(5,true,inF zo 28 77 (resT M (goK who sp true) who (downH (at_ M who) sp)))]⟩) ⟨0,(Nat.zero_le _),rfl,rfl⟩ (re_nil (ms:=[0,1,2,3,4,5]) (C:=999) rfl ⟨⟨⟨rfl,rfl⟩,rfl⟩,⟨⟨rfl,rfl⟩,rfl⟩,⟨⟨rfl,rfl⟩,rfl⟩,⟨⟨rfl,rfl⟩,rfl⟩,trivial⟩ ⟨ktCode rfl rfl,ktFlat rfl rfl (.inr (.inl rfl)) id rfl,ktTab (k:=0) rfl rfl (.inr (.inl rfl)) id rfl rfl,ktIn rfl id rfl,trivial⟩ rfl rfl (rig_of rfl) rfl) ?_
    rintro n_ S_ ⟨n,hn,rfl,rfl⟩
    refine vc_seq ?_
    refine vc_seq ?_
    refine vc_region hm ?_
    refine gM trivial (.inl rfl) rfl rfl rfl ?_
    refine gI trivial rfl rfl rfl rfl rfl rfl ?_
    refine rg_nil nofun ?_
    refine cI rfl (fun c102=>?_) (fun c102=>?_)
    ·skip
     have p102:=of_decide_eq_true c102
     refine vc_skip ?_
     refine vc_seq ?_
     refine vc_block ?_
     refine vc_seq ?_
     refine vc_region hm ?_
     refine gM trivial (.inl rfl) rfl rfl rfl ?_
     refine gM trivial (.inl rfl) rfl rfl rfl ?_
     refine gL trivial rfl rfl rfl rfl rfl rfl rfl rfl ?_
     refine gCT (as':=[(6,one ⟨rI (lockBars (resT M (goK who sp true) who (downH (at_ M who) sp)) (n:Int) false sp),3,1⟩)]) (v':=.slice (some ⟨6,0,none⟩) (lockBars (resT M (goK who sp true) who (downH (at_ M who) sp)) (n:Int) false sp).length 0) 7 [nA (nm 4 (0)),nF 5,nF 6] [4,5] (impl_LockBars_c (T:=(resT M (goK who sp true) who (downH (at_ M who) sp))) (who:=(n:Int)) (write:=false) (s:=sp) (kk:=0) (cc:=0) res_len res_big) trivial rfl rfl rfl rfl rfl ⟨aTab (k:=0) rfl rfl rfl rfl (.inl rfl) (.inl rfl) rfl rfl,aIn rfl rfl (.inl rfl) (.inl rfl) rfl,trivial⟩ ⟨rFlatT (rI_flat _) rfl,trivial⟩ ⟨rfl,rfl⟩ rfl rfl rfl ?_
     refine gM trivial (.inr rfl) rfl rfl rfl ?_
     refine rg_nil nofun ?_
     refine vc_seq ?_
     refine vc_region hm ?_
     refine gM trivial (.inr rfl) rfl rfl rfl ?_
     refine rg_nil nofun ?_
     refine vc_block ?_
     refine vc_loopT (fun n_ S_=>∃ (j:Nat),j≤(lockBars (resT M (goK who sp true) who (downH (at_ M who) sp)) (n:Int) false sp).length∧n_=(lockBars (resT M (goK who sp true) who (downH (at_ M who) sp)) (n:Int) false sp).length - j∧S_=⟨7,[(4,.int .i64 who),(5,.pointer (some ⟨3,0,none⟩)),(6,.slice (some ⟨4,0,none⟩) (resT M (goK who sp true) who (downH (at_ M who) sp)).length 0),(12,.int .i64 n),(13,.slice (some ⟨6,0,none⟩) (lockBars (resT M (goK who sp true) who (downH (at_ M who) sp)) (n:Int) false sp).length 0),(14,.int .i64 j)],[(0,false,one ⟨hls k (rY l),capT + l.length,0⟩),(3,true,one ⟨[.int .i64 sp.lo,.int .i64 sp.hi],28,2⟩),(4,true,one ⟨rHv (tabV 5 zo (resT M (goK who sp true) who (downH (at_ M who) sp))),46,2⟩),(5,true,inF zo 28 77 (resT M (goK who sp true) who (downH (at_ M who) sp))),(6,true,one ⟨rI (lockBars (resT M (goK who sp true) who (downH (at_ M who) sp)) (n:Int) false sp),3,1⟩)]⟩) ⟨0,(Nat.zero_le _),rfl,rfl⟩ (re_nil (ms:=[0,1,2,3,4,5,6]) (C:=999) rfl ⟨⟨⟨rfl,rfl⟩,rfl⟩,⟨⟨rfl,rfl⟩,rfl⟩,⟨⟨rfl,rfl⟩,rfl⟩,⟨⟨rfl,rfl⟩,rfl⟩,⟨⟨rfl,rfl⟩,rfl⟩,⟨⟨rfl,rfl⟩,rfl⟩,trivial⟩ ⟨ktCode rfl rfl,ktFlat rfl rfl (.inr (.inl rfl)) id rfl,ktTab (k:=0) rfl rfl (.inr (.inl rfl)) id rfl rfl,ktIn rfl id rfl,ktFlat (rI_flat _) rfl (.inr (.inl rfl)) id rfl,trivial⟩ rfl rfl (rig_of rfl) rfl) ?_
     rintro n_ S_ ⟨j,hj,rfl,rfl⟩
     refine vc_seq ?_
     refine vc_seq ?_
     refine vc_region hm ?_
     refine gM trivial (.inl rfl) rfl rfl rfl ?_
     refine gM trivial (.inl rfl) rfl rfl rfl ?_
     refine gK trivial rfl rfl rfl rfl rfl rfl rI_nil ?_
     refine gI trivial rfl rfl rfl rfl rfl rfl ?_
     refine rg_nil nofun ?_
     refine cI rfl (fun c112=>?_) (fun c112=>?_)
     ·skip
      have p112:=of_decide_eq_true c112
      refine vc_skip ?_
      refine vc_seq ?_
      refine vc_block ?_
      refine vc_seq ?_
      refine vc_region hm ?_
      refine gM trivial (.inl rfl) rfl rfl rfl ?_
      refine gM trivial (.inl rfl) rfl rfl rfl ?_
      refine gX trivial rfl rfl rfl rfl rfl rfl rfl rfl (by omega) p112 rI_ne ?_
      refine gL trivial rfl rfl rfl rfl rfl rfl rfl (lI (by omega) p112) ?_
      refine gM trivial (.inl rfl) rfl rfl rfl ?_
      refine gI trivial rfl rfl rfl rfl rfl rfl ?_
      refine rg_nil nofun ?_
      refine cF rfl (dn_bars n50 p112) ?_
      refine vc_skip ?_
      refine vc_region hm ?_
      refine gM trivial (.inl rfl) rfl rfl rfl ?_
      refine gA trivial rfl rfl rfl rfl rfl rfl (by have:=lbars_len (T:=(resT M (goK who sp true) who (downH (at_ M who) sp))) (who:=(n:Int)) (write:=false) (s:=sp) res_len;omega) ?_
      refine gM trivial (.inr rfl) rfl rfl rfl ?_
      refine rg_nil nofun ?_
      exact lp_nextT ⟨j + 1,(by omega),rfl,rfl⟩ (by omega) (re_nil (ms:=[0,1,2,3,4,5,6]) (C:=999) rfl ⟨⟨⟨rfl,rfl⟩,rfl⟩,⟨⟨rfl,rfl⟩,rfl⟩,⟨⟨rfl,rfl⟩,rfl⟩,⟨⟨rfl,rfl⟩,rfl⟩,⟨⟨rfl,rfl⟩,rfl⟩,⟨⟨rfl,rfl⟩,rfl⟩,trivial⟩ ⟨ktCode rfl rfl,ktFlat rfl rfl (.inr (.inl rfl)) id rfl,ktTab (k:=0) rfl rfl (.inr (.inl rfl)) id rfl rfl,ktIn rfl id rfl,ktFlat (rI_flat _) rfl (.inr (.inl rfl)) id rfl,trivial⟩ rfl rfl (rig_of rfl) rfl)
     ·skip
      have p112:=of_decide_eq_false c112
      refine vc_exit ?_
      refine vc_region hm ?_
      refine gM trivial (.inl rfl) rfl rfl rfl ?_
      refine gA trivial rfl rfl rfl rfl rfl rfl (by omega) ?_
      refine gM trivial (.inr rfl) rfl rfl rfl ?_
      refine rg_nil nofun ?_
      exact lp_nextT ⟨n + 1,(by omega),rfl,rfl⟩ (by omega) (re_nil (ms:=[0,1,2,3,4,5]) (C:=999) rfl ⟨⟨⟨rfl,rfl⟩,rfl⟩,⟨⟨rfl,rfl⟩,rfl⟩,⟨⟨rfl,rfl⟩,rfl⟩,⟨⟨rfl,rfl⟩,rfl⟩,trivial⟩ ⟨ktCode rfl rfl,ktFlat rfl rfl (.inr (.inl rfl)) id rfl,ktTab (k:=0) rfl rfl (.inr (.inl rfl)) id rfl rfl,ktIn rfl id rfl,trivial⟩ rfl rfl (rig_of rfl) rfl)
    ·skip
     have p102:=of_decide_eq_false c102
     refine vc_exit ?_
     refine vc_seq ?_
     refine vc_region hm ?_
     refine gM trivial (.inl rfl) rfl rfl rfl ?_
     refine gCT0 [nA (nm 4 (0)),nF 5] [4,5] (impl_LockOk_c (T:=(resT M (goK who sp true) who (downH (at_ M who) sp))) (kk:=0) (cc:=0) res_len res_big) trivial rfl rfl rfl rfl rfl ⟨aTab (k:=0) rfl rfl rfl rfl (.inl rfl) (.inl rfl) rfl rfl,aIn rfl rfl (.inl rfl) (.inl rfl) rfl,trivial⟩ rfl rfl rfl rfl ?_
     refine gM trivial (.inr rfl) rfl rfl rfl ?_
     refine rg_nil nofun ?_
     refine vc_ret ?_
     exact ⟨idm,ends0 (.inr rfl) rfl (eqB (ch_ok n50).symm) rfl rfl rfl⟩
theorem FnLockDown_walk {w:World} {v0:Value} {l0:List Int} {N0:Nam} {k0:Nat} (h0:CodeArg w v0 l0 N0 k0):Calls Try.prog 12 #[v0] w fun e w'=>e = .returned (.bool true)∧Below w.heap.size w w' :=
 law_done (FnLockDown_c h0.2.2.1 h0.2.2.2) (ρ:=envL [N0]) (by simp only [List.map_cons,List.map_nil,code_r3 (ns:=[N0]) (b:=0) h0 rfl (of_blt rfl)]) ⟨code_at h0 rfl (of_blt rfl),trivial⟩
end Go.Proofs.Ytbgehlihpkefmaa.A

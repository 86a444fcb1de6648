/- Part 4 of the proof of FnLockTurn: words, contracts of callees, plain lemmas. -/
import Derived.Test.YtbgehlihpkefmaaZLLockTurn3
set_option maxHeartbeats 8000000
set_option maxRecDepth 100000
set_option linter.unusedVariables false
set_option linter.unusedSimpArgs false
namespace Go.Proofs.Ytbgehlihpkefmaa.A
open Go Go.RowKit
open Go.Joins Go.ChangeShapes Go.WideShapes Go.Deep
def RawN (w:World) (v:Value) (N:Nam) (k n:Nat) (cs:List Value):Prop :=
 v=(if N.nil=true then zv N.z else .slice (some ⟨N.blk,k,none⟩) n (N.cap - 0))∧(if N.nil=true then hls k cs = [] else ∃ (c:Array Value) (t:TypeId) (z:Nat × Nat),w.heap[N.blk]?=some (.cells c t z)∧∀ (i:Nat) (x:Value),(hls k cs)[i]?=some x→x ≠ hole→c[i]?=some x)
theorem raw_none {w:World}:RawN w (.slice none 0 0) ⟨0,0,true,none⟩ 0 0 []:=⟨rfl,rfl⟩
theorem raw_of' {α:Type} {enc:α→List Value} {m:Nat} (he:∀ x,(enc x).length=m) (hm:0<m) {w:World} {a:Addr} {cap:Nat} {l:List α} (h:∀ i x,(rowL enc l)[i]?=some x→w.cell? (a.add i)=some x):∃ N k,RawN w (.slice (some a) l.length cap) N k l.length (rowL enc l)∧(N.nil=false→N.cap=cap):=by
 rcases l with _|⟨x,xs⟩
 ·exact ⟨⟨0,0,true,some (a,cap)⟩,0,⟨rfl,rfl⟩,fun q=>(by cases q)⟩
 ·have hp0:0<(rowL enc (x :: xs)).length:=by rw [rowL_len he,List.length_cons];exact Nat.mul_pos (Nat.succ_pos _) hm
  have h0:=h 0 _ (List.getElem?_eq_getElem hp0)
  have h1:∃ c t z,w.heap[a.block]?=some (.cells c t z)∧a.spot=none:=by
   have e:a.add 0=a:=by simp [Addr.add]
   unfold World.cell? at h0
   rw [e] at h0
   split at h0
   ·rename_i c t z hh
    refine ⟨c,t,z,hh,?_⟩
    split at h0
    ·cases h0
    ·rename_i hs;simpa using hs
   ·cases h0
  obtain ⟨c,t,z,hh,hs⟩:=h1
  obtain ⟨b,off,sp⟩:=a
  simp only at hs hh
  subst hs
  refine ⟨⟨b,cap,false,none⟩,off,⟨rfl,(if_neg Bool.false_ne_true).mpr ⟨c,t,z,hh,fun i v hv hne=>?_⟩⟩,fun _=>rfl⟩
  unfold hls at hv
  by_cases hi:i<off
  ·rw [List.getElem?_append_left (by simpa using hi)] at hv
   have:=List.mem_of_getElem? hv
   exact absurd (List.eq_of_mem_replicate this) hne
  ·rw [List.getElem?_append_right (by simpa using hi),List.length_replicate] at hv
   have:=h (i - off) v hv
   rw [add_eq,cell_eq hh] at this
   rw [← this]
   congr 1
   omega
def envL (l:List Nam):Env:=fun n=>(l[n % 1000]?).getD ⟨0,0,true,none⟩
theorem raw_atR {w:World} {v:Value} {N:Nam} {k n:Nat} {cs:List Value} {t:TypeId} {l:List Nam} {b:Nat} (h:RawN w v N k n cs) (hf:cs.all flat1=true) (hb:l[b]?=some N) (hb':b<1000) (ht:N.nil=false→t - capT≤N.cap):famAt (envL l) w b (one ⟨hls k cs,t,0⟩):=by
 intro k' x e
 obtain ⟨rfl,rfl⟩:=one_some e
 have e1:envL l (nm b 0)=N:=by unfold envL;rw [nm_mod hb',hb];rfl
 unfold blkAt
 rw [e1]
 have h2:=h.2
 cases hn:N.nil with
 | true=>rw [hn,if_pos rfl] at h2;rw [if_pos rfl];exact ⟨h2,fun q=>absurd rfl q,(by decide:0<100)⟩
 | false =>
  rw [hn,if_neg (by decide)] at h2
  rw [if_neg (by decide),if_pos rfl]
  obtain ⟨c,t',z,h3,h4⟩:=h2
  refine ⟨c,t',z,h3,fun i v hv hne=>?_,ht hn⟩
  rw [r1_flat (List.all_eq_true.1 (hls_flat (k:=k) hf) v (List.mem_of_getElem? hv))]
  exact h4 i v hv hne
theorem raw_r1 {w:World} {v:Value} {N:Nam} {k n:Nat} {cs:List Value} {l:List Nam} {b:Nat} (h:RawN w v N k n cs) (hb:l[b]?=some N) (hb':b<1000):r1 (envL l) (.slice (some ⟨b,k,none⟩) n 0)=v:=by
 show (if (envL l b).nil=true then zv (envL l b).z else .slice (some ⟨(envL l b).blk,k,none⟩) n ((envL l b).cap - 0))=v
 have e1:envL l b=N:=by unfold envL;rw [Nat.mod_eq_of_lt hb',hb];rfl
 rw [e1,h.1]
def AtL (ρ:Env) (w:World):List (Nat × Bool × Fam)→Prop
 | []=>True
 | x :: l=>famAt ρ w x.1 x.2.2∧AtL ρ w l
theorem atL_mem {ρ:Env} {w:World}:∀ {l:List (Nat × Bool × Fam)},AtL ρ w l→∀ b o F,l.lookup b=some (o,F)→famAt ρ w b F
 | x :: l,h,b,o,F,e=>by
  obtain ⟨c,y⟩:=x
  rw [List.lookup_cons] at e
  by_cases hb:b=c
  ·subst hb
   simp at e
   subst e
   exact h.1
  ·have:(b == c)=false:=by simpa using hb
   rw [this] at e
   exact atL_mem h.2 b o F e
theorem law_done {P:Program} {f:FuncId} {args:List Value} {hl:List (Nat × Bool × Fam)} {rd:List Nat} {ρ:Env} {w:World} {vs:Array Value} (h:FDoes P f args (hp hl) { v:=.bool true,rd:=rd }) (ha:(args.map (r3 ρ)).toArray=vs) (hr:AtL ρ w hl) :
  Calls P f vs w fun e w'=>e = .returned (.bool true)∧Below w.heap.size w w':=by
 subst ha
 refine (h.run ρ w ⟨fun b _ o F e=>atL_mem hr b o F e,fun b hb=>(by cases hb)⟩).mono fun e w' ⟨ρ',hB,he⟩=>⟨he,?_⟩
 have hf:=hB.frm
 exact Frm.below ⟨hf.os,hf.tape,hf.output,hf.size,fun k hk hn=>hf.block k hk fun ⟨b,hb,_⟩=>(by cases hb)⟩
section
variable {H:Type} {enc:TypeId × Value→H} {P:Program} {w:World} {base:Nat} {spare:Nat→Bool} {held:Bool}
end
section
variable {H:Type} {enc:TypeId × Value→H} {w:World} {base:Nat} {spare:Nat→Bool} {held:Bool}
end
theorem u8_in {n:Int} (h:(Lit.int .u8 n).wf=true):0≤n∧n≤255:=by
 have e1:IntKind.u8.min=0:=by decide
 have e2:IntKind.u8.max=255:=by decide
 simp only [Lit.wf,e1,e2,Bool.and_eq_true,decide_eq_true_eq] at h
 exact h
def CodeArg (w:World) (v:Value) (l:List Int) (N:Nam) (k:Nat):Prop:=RawN w v N k l.length (rY l)∧(N.nil=false→l.length≤N.cap)∧ByL l∧l.length≤9223372036854775807
theorem code_at {w:World} {v:Value} {l:List Int} {N:Nam} {k:Nat} {ns:List Nam} {b:Nat} (h:CodeArg w v l N k) (hb:ns[b]?=some N) (hb':b<1000):famAt (envL ns) w b (one ⟨hls k (rY l),capT + l.length,0⟩) :=
 raw_atR h.1 (rY_flat l) hb hb' fun hn=>by rw [Nat.add_sub_cancel_left];exact h.2.1 hn
theorem code_r3 {w:World} {v:Value} {l:List Int} {N:Nam} {k:Nat} {ns:List Nam} {b:Nat} (h:CodeArg w v l N k) (hb:ns[b]?=some N) (hb':b<1000):r3 (envL ns) (.slice (some ⟨b,k,none⟩) l.length 0)=v:=raw_r1 h.1 hb hb'
theorem open_bytesA {H:Type} {enc:TypeId × Value→H} {w:World} {base:Nat} {spare:Nat→Bool} {held:Bool} {r:Reach} {b0:Nat} {v:Value} {d:DataW H} {p:List MemPlace} (hv:Value.okWide Try.prog w r b0 22 v) (h:DataW.Trod enc Try.prog w base spare held 22 v d p):∃ l N k,CodeArg w v l N k:=by
 obtain ⟨a1,len,cap,rfl⟩:=okWide_slice Try.underlying22 hv
 obtain ⟨fuel,hf⟩:=h
 rcases open_ints Try.underlying22 Try.underlying5 (by kernel_rfl) hf with ⟨h1,_⟩|⟨a,len',cap',zs,h1,_,hl,hm,hz,_,hcell,hw⟩
 ·simp only [Value.cells,List.cons.injEq,_root_.and_true,Value.slice.injEq] at h1
  obtain ⟨rfl,rfl,rfl⟩:=h1
  exact ⟨[],_,_,raw_none,fun q=>(by cases q),(fun _ hx=>(nomatch hx)),by decide⟩
 ·simp only [Value.cells,List.cons.injEq,_root_.and_true,Value.slice.injEq] at h1
  obtain ⟨rfl,rfl,rfl⟩:=h1
  unfold maxLen at hm
  have hlz:len≤zs.length:=by rw [hz];split <;> omega
  have hn:(zs.take len).length=len:=by rw [List.length_take,Nat.min_eq_left hlz]
  have key:∀ i x,(rY (zs.take len))[i]?=some x→w.cell? (a.add i)=some x:=fun i x hx=>by
   have hi:=(List.getElem?_eq_some_iff.1 hx).1
   rw [rowL_len (n:=1) (fun _=>rfl),hn,Nat.mul_one] at hi
   have e1:x = .int .u8 (zs.getD i 0):=by
    have hg:=rowL_get (enc:=eY) (n:=1) (fun _=>rfl) (zs.take len) i 0 (by rw [hn];exact hi) (by decide)
    rw [Nat.mul_one,Nat.add_zero,hx,List.getElem_take] at hg
    rw [List.getD_eq_getElem?_getD,List.getElem?_eq_getElem (by omega)]
    exact Option.some.inj hg
   rw [e1]
   exact hcell i (by omega)
  obtain ⟨N,k,hr,hc⟩:=raw_of' (enc:=eY) (m:=1) (fun _=>rfl) (by decide) (cap:=cap) key
  refine ⟨zs.take len,N,k,by rw [hn] at hr ⊢;exact hr,fun q=>by rw [hc q,hn];omega,fun x hx=>u8_in (hw x (List.mem_of_mem_take hx)),by rw [hn];omega⟩
end Go.Proofs.Ytbgehlihpkefmaa.A
namespace Go.Proofs.Ytbgehlihpkefmaa.A
open Go Go.RowKit
set_option maxHeartbeats 4000000
theorem FnLockTurn_c {l:List Int} {k:Nat} (hl:ByL l) (hl9:l.length≤9223372036854775807) {l2:List Int} {k2:Nat} (hl2:ByL l2) (hl29:l2.length≤9223372036854775807):FDoes Try.prog 10 [.slice (some ⟨0,k,none⟩) l.length 0,.slice (some ⟨1,k2,none⟩) l2.length 0] (hp [(0,false,one ⟨hls k (rY l),capT + l.length,0⟩),(1,false,one ⟨hls k2 (rY l2),capT + l2.length,0⟩)]) { v:=.bool true,rd:=[0,1] }:=by
 have hm:Try.prog.follows .mixedOrders=true:=by kernel_rfl
 have hd_:∀ x_ ∈ ([(0,false,one ⟨hls k (rY l),capT + l.length,0⟩),(1,false,one ⟨hls k2 (rY l2),capT + l2.length,0⟩)]:List (Nat × Bool × Fam)),∀ k_ y_,x_.2.2 k_=some y_→DetB (lt 2) y_:=by
  intro x_ hx k_ y_ e
  simp only [List.mem_cons,List.not_mem_nil,or_false] at hx
  rcases hx with rfl|rfl
  ·exact det_code e
  ·exact det_code e
 refine fn_exact (u0:=2) Try.func10 rfl rfl (gets rfl rfl rfl hd_ rfl) ?_
 clear hd_
 refine vc_seq ?_
 refine vc_region hm ?_
 refine gM trivial (.inr rfl) rfl rfl rfl ?_
 refine rg_nil nofun ?_
 refine vc_seq ?_
 refine vc_seq ?_
 refine vc_region hm ?_
 refine gM trivial (.inl rfl) rfl rfl rfl ?_
 refine gK trivial rfl rfl rfl rfl rfl rfl (hls_nil fun e=>rY_nil e) ?_
 refine gI trivial rfl rfl rfl rfl rfl rfl ?_
 refine gM trivial (.inl rfl) rfl rfl rfl ?_
 refine gI2 (d:=28) rfl (fun c28=>?_) (fun c28=>?_)
 ·skip
  have p28:=of_decide_eq_true c28
  refine gO ⟨_,_,rfl,rfl,c28⟩ rfl rfl ?_
  refine gO ⟨_,_,rfl,rfl,c28⟩ rfl rfl ?_
  refine gO ⟨_,_,rfl,rfl,c28⟩ rfl rfl ?_
  refine gPT trivial rfl rfl c28 rfl rfl rfl ?_
  refine rg_nil nofun ?_
  refine cT rfl rfl ?_
  refine vc_seq ?_
  refine vc_region hm ?_
  refine gM trivial (.inr rfl) rfl rfl rfl ?_
  refine rg_nil nofun ?_
  refine vc_ret ?_
  exact ⟨idm,ends0 (.inr rfl) rfl (eqB rfl) rfl rfl rfl⟩
 ·skip
  have p28:=of_decide_eq_false c28
  refine gM ⟨_,_,rfl,rfl,c28⟩ (.inl rfl) rfl rfl rfl ?_
  refine gK ⟨_,_,rfl,rfl,c28⟩ rfl rfl rfl rfl rfl rfl (hls_nil fun e=>rY_nil e) ?_
  refine gI ⟨_,_,rfl,rfl,c28⟩ rfl rfl rfl rfl rfl rfl ?_
  refine gPF trivial rfl rfl c28 rfl rfl rfl ?_
  refine rg_nil nofun ?_
  refine cI rfl (fun c32=>?_) (fun c32=>?_)
  ·skip
   have p32:=of_decide_eq_true c32
   refine vc_seq ?_
   refine vc_region hm ?_
   refine gM trivial (.inr rfl) rfl rfl rfl ?_
   refine rg_nil nofun ?_
   refine vc_ret ?_
   exact ⟨idm,ends0 (.inr rfl) rfl (eqB rfl) rfl rfl rfl⟩
  ·skip
   have p32:=of_decide_eq_false c32
   refine vc_skip ?_
   refine vc_seq ?_
   refine vc_region hm ?_
   refine gM trivial (.inl rfl) rfl rfl rfl ?_
   obtain ⟨E3,hE3,M,kk,cc,who,write,sp,ma,mb,rfl⟩:=drawGive_c (l:=l) (k:=k) hl
   have hT:M.length≤1048576:=by omega
   have hB:∀ h ∈ M,h.r.length≤1048576∧h.w.length≤1048576:=fun h hh=>by have:=mb h hh;omega
   refine gCF (ups':=[]) (as':=[(2,one ⟨hls kk (rHv (tabV 3 zo M)),46,0⟩),(3,inF zo 28 77 M)]) (v':=.tuple #[.slice (some ⟨2,kk,none⟩) M.length cc,.int .i64 who,.bool write,vSp sp]) 4 [0,2,3] hE3 trivial rfl rfl rfl rfl ⟨rCode rfl rfl,trivial⟩ trivial ⟨frTab rfl rfl rfl,frIn rfl,trivial⟩ rfl rfl (fun x hx=>nomatch hx) (fun x hx=>nomatch hx) rfl rfl ?_
   refine gM trivial (.inl rfl) rfl rfl rfl ?_
   refine gE trivial rfl rfl rfl rfl rfl rfl ?_
   refine gE trivial rfl rfl rfl rfl rfl rfl ?_
   refine gE trivial rfl rfl rfl rfl rfl rfl ?_
   refine gE trivial rfl rfl rfl rfl rfl rfl ?_
   refine gZ (u':=5) trivial rfl rfl rfl rfl rfl rfl rfl rfl ?_
   refine gM trivial (.inr rfl) rfl rfl rfl ?_
   refine gM trivial (.inr rfl) rfl rfl rfl ?_
   refine gM trivial (.inr rfl) rfl rfl rfl ?_
   refine gT trivial rfl rfl rfl rfl rfl rfl rfl rfl rfl rfl (Nat.le_of_ble_eq_true rfl) rfl ?_
   refine rg_nil nofun ?_
   refine vc_seq ?_
   refine vc_region hm ?_
   refine gM trivial (.inl rfl) rfl rfl rfl ?_
   obtain ⟨E5,hE5,M2,kk2,cc2,who2,write2,sp2,ma2,mb2,rfl⟩:=drawGive_c (l:=l2) (k:=k2) hl2
   have hT2:M2.length≤1048576:=by omega
   have hB2:∀ h ∈ M2,h.r.length≤1048576∧h.w.length≤1048576:=fun h hh=>by have:=mb2 h hh;omega
   refine gCF (ups':=[]) (as':=[(5,one ⟨hls kk2 (rHv (tabV 6 zo M2)),46,0⟩),(6,inF zo 28 77 M2)]) (v':=.tuple #[.slice (some ⟨5,kk2,none⟩) M2.length cc2,.int .i64 who2,.bool write2,vSp sp2]) 7 [1,5,6] hE5 trivial rfl rfl rfl rfl ⟨rCode rfl rfl,trivial⟩ trivial ⟨frTab rfl rfl rfl,frIn rfl,trivial⟩ rfl rfl (fun x hx=>nomatch hx) (fun x hx=>nomatch hx) rfl rfl ?_
   refine gM trivial (.inl rfl) rfl rfl rfl ?_
   refine gE trivial rfl rfl rfl rfl rfl rfl ?_
   refine gE trivial rfl rfl rfl rfl rfl rfl ?_
   refine gE trivial rfl rfl rfl rfl rfl rfl ?_
   refine gE trivial rfl rfl rfl rfl rfl rfl ?_
   refine gZ (u':=8) trivial rfl rfl rfl rfl rfl rfl rfl rfl ?_
   refine gM trivial (.inr rfl) rfl rfl rfl ?_
   refine gM trivial (.inr rfl) rfl rfl rfl ?_
   refine gM trivial (.inr rfl) rfl rfl rfl ?_
   refine gT trivial rfl rfl rfl rfl rfl rfl rfl rfl rfl rfl (Nat.le_of_ble_eq_true rfl) rfl ?_
   refine rg_nil nofun ?_
   refine vc_seq ?_
   refine vc_region hm ?_
   refine gM trivial (.inl rfl) rfl rfl rfl ?_
   refine gM trivial (.inl rfl) rfl rfl rfl ?_
   refine gM trivial (.inl rfl) rfl rfl rfl ?_
   refine gL trivial rfl rfl rfl rfl rfl rfl rfl rfl ?_
   refine gCT (as':=[(8,one ⟨rHv (tabV 9 zo (resT M (goK who sp (decide (((lockBars M who write sp).length:Int)=0))) who (giveH (at_ M who) write sp))),46,2⟩),(9,inF zo 28 77 (resT M (goK who sp (decide (((lockBars M who write sp).length:Int)=0))) who (giveH (at_ M who) write sp)))]) (v':=.tuple #[.slice (some ⟨8,0,none⟩) (resT M (goK who sp (decide (((lockBars M who write sp).length:Int)=0))) who (giveH (at_ M who) write sp)).length 0,.bool (resB M (goK who sp (decide (((lockBars M who write sp).length:Int)=0))) who (giveH (at_ M who) write sp))]) 10 [nA (nm 2 (0)),nF 3,nF 8,nF 9] [2,3] (impl_LockGive_c (T:=M) (who:=who) (write:=write) (s:=sp) (kk:=kk) (cc:=cc) hT hB) trivial rfl rfl rfl rfl rfl ⟨aTab (k:=kk) rfl rfl rfl rfl (.inl rfl) (.inl rfl) rfl rfl,aIn rfl rfl (.inr rfl) (.inr (.inl rfl)) rfl,trivial⟩ ⟨rTab rfl rfl rfl,rIn rfl,trivial⟩ ⟨rfl,rfl⟩ rfl rfl rfl ?_
   refine gM trivial (.inl rfl) rfl rfl rfl ?_
   refine gE trivial rfl rfl rfl rfl rfl rfl ?_
   refine gE trivial rfl rfl rfl rfl rfl rfl ?_
   refine gM trivial (.inr rfl) rfl rfl rfl ?_
   refine gM trivial (.inr rfl) rfl rfl rfl ?_
   refine rg_nil nofun ?_
   refine vc_seq ?_
   refine vc_region hm ?_
   refine gM trivial (.inl rfl) rfl rfl rfl ?_
   refine gM trivial (.inl rfl) rfl rfl rfl ?_
   refine gM trivial (.inl rfl) rfl rfl rfl ?_
   refine gL trivial rfl rfl rfl rfl rfl rfl rfl rfl ?_
   refine gCT (as':=[(10,one ⟨rHv (tabV 11 zo (resT M (goK who sp (decide (((lockBars M who write sp).length:Int)=0))) who (giveH (at_ M who) write sp))),46,2⟩),(11,inF zo 28 77 (resT M (goK who sp (decide (((lockBars M who write sp).length:Int)=0))) who (giveH (at_ M who) write sp)))]) (v':=.tuple #[.slice (some ⟨10,0,none⟩) (resT M (goK who sp (decide (((lockBars M who write sp).length:Int)=0))) who (giveH (at_ M who) write sp)).length 0,.bool (resB M (goK who sp (decide (((lockBars M who write sp).length:Int)=0))) who (giveH (at_ M who) write sp))]) 12 [nA (nm 2 (0)),nF 3,nF 10,nF 11] [2,3] (spec_LockGive_c (T:=M) (who:=who) (write:=write) (s:=sp) (kk:=kk) (cc:=cc) hT hB) trivial rfl rfl rfl rfl rfl ⟨aTab (k:=kk) rfl rfl rfl rfl (.inl rfl) (.inl rfl) rfl rfl,aIn rfl rfl (.inl rfl) (.inl rfl) rfl,trivial⟩ ⟨rTab rfl rfl rfl,rIn rfl,trivial⟩ ⟨rfl,rfl⟩ rfl rfl rfl ?_
   refine gM trivial (.inl rfl) rfl rfl rfl ?_
   refine gE trivial rfl rfl rfl rfl rfl rfl ?_
   refine gE trivial rfl rfl rfl rfl rfl rfl ?_
   refine gM trivial (.inr rfl) rfl rfl rfl ?_
   refine gM trivial (.inr rfl) rfl rfl rfl ?_
   refine rg_nil nofun ?_
   refine vc_seq ?_
   refine vc_region hm ?_
   refine gL trivial rfl rfl rfl rfl rfl rfl rfl rfl ?_
   refine gL trivial rfl rfl rfl rfl rfl rfl rfl rfl ?_
   obtain ⟨E7,hE7,mts,mtb,hmt,rfl⟩:=impl_SpanMeet_c sp sp2
   refine gCF (ups':=[]) (as':=[]) (v':=.tuple #[vSp mts,.bool mtb]) 12 [] hE7 trivial rfl rfl rfl rfl trivial trivial trivial rfl rfl (fun x hx=>nomatch hx) (fun x hx=>nomatch hx) rfl rfl ?_
   refine gM trivial (.inl rfl) rfl rfl rfl ?_
   refine gE trivial rfl rfl rfl rfl rfl rfl ?_
   refine gE trivial rfl rfl rfl rfl rfl rfl ?_
   refine gZ (u':=13) trivial rfl rfl rfl rfl rfl rfl rfl rfl ?_
   refine gT trivial rfl rfl rfl rfl rfl rfl rfl rfl rfl rfl (Nat.le_of_ble_eq_true rfl) rfl ?_
   refine gM trivial (.inr rfl) rfl rfl rfl ?_
   refine rg_nil nofun ?_
   refine vc_seq ?_
   refine vc_seq ?_
   refine vc_region hm ?_
   refine gM trivial (.inl rfl) rfl rfl rfl ?_
   refine gM trivial (.inl rfl) rfl rfl rfl ?_
   refine gBN trivial rfl rfl rfl rfl rfl rfl ?_
   refine gM trivial (.inl rfl) rfl rfl rfl ?_
   refine gM ⟨_,_,rfl,rfl,(nself _)⟩ (.inl rfl) rfl rfl rfl ?_
   refine gN ⟨_,_,rfl,rfl,(nself _)⟩ rfl rfl rfl rfl ?_
   refine gPF trivial rfl rfl (nself _) rfl rfl rfl ?_
   refine gM trivial (.inl rfl) rfl rfl rfl ?_
   refine gI2 (d:=76) rfl (fun c76=>?_) (fun c76=>?_)
   ·skip
    have n76:=unT c76
    refine gO ⟨_,_,rfl,rfl,c76⟩ rfl rfl ?_
    refine gO ⟨_,_,rfl,rfl,c76⟩ rfl rfl ?_
    refine gO ⟨_,_,rfl,rfl,c76⟩ rfl rfl ?_
    refine gPT trivial rfl rfl c76 rfl rfl rfl ?_
    refine gM trivial (.inl rfl) rfl rfl rfl ?_
    refine gO ⟨_,_,rfl,rfl,rfl⟩ rfl rfl ?_
    refine gPT trivial rfl rfl rfl rfl rfl rfl ?_
    refine rg_nil nofun ?_
    refine cT rfl rfl ?_
    refine vc_seq ?_
    refine vc_region hm ?_
    refine gM trivial (.inl rfl) rfl rfl rfl ?_
    refine gM trivial (.inl rfl) rfl rfl rfl ?_
    refine gBE trivial rfl rfl rfl rfl rfl rfl ?_
    refine gM trivial (.inr rfl) rfl rfl rfl ?_
    refine rg_nil nofun ?_
    refine vc_ret ?_
    exact ⟨idm,ends0 (.inr rfl) rfl (eqB (beq_self_eq_true _).symm) rfl rfl rfl⟩
   ·skip
    have n76:=unF c76
    refine gM ⟨_,_,rfl,rfl,c76⟩ (.inl rfl) rfl rfl rfl ?_
    refine gM ⟨_,_,rfl,rfl,c76⟩ (.inl rfl) rfl rfl rfl ?_
    refine gI ⟨_,_,rfl,rfl,c76⟩ rfl rfl rfl rfl rfl rfl ?_
    refine gPF trivial rfl rfl c76 rfl rfl rfl ?_
    refine gM trivial (.inl rfl) rfl rfl rfl ?_
    refine gI2 (d:=81) rfl (fun c81=>?_) (fun c81=>?_)
    ·skip
     have p81:=eq_of_beq c81
     refine gO ⟨_,_,rfl,rfl,c81⟩ rfl rfl ?_
     refine gPT trivial rfl rfl c81 rfl rfl rfl ?_
     refine rg_nil nofun ?_
     refine cT rfl rfl ?_
     refine vc_seq ?_
     refine vc_region hm ?_
     refine gM trivial (.inl rfl) rfl rfl rfl ?_
     refine gM trivial (.inl rfl) rfl rfl rfl ?_
     refine gBE trivial rfl rfl rfl rfl rfl rfl ?_
     refine gM trivial (.inr rfl) rfl rfl rfl ?_
     refine rg_nil nofun ?_
     refine vc_ret ?_
     exact ⟨idm,ends0 (.inr rfl) rfl (eqB (beq_self_eq_true _).symm) rfl rfl rfl⟩
    ·skip
     have p81:=ne_of_beq_false c81
     refine gM ⟨_,_,rfl,rfl,c81⟩ (.inl rfl) rfl rfl rfl ?_
     refine gPF trivial rfl rfl c81 rfl rfl rfl ?_
     refine rg_nil nofun ?_
     refine cI rfl (fun c83=>?_) (fun c83=>?_)
     ·skip
      refine vc_seq ?_
      refine vc_region hm ?_
      refine gM trivial (.inl rfl) rfl rfl rfl ?_
      refine gM trivial (.inl rfl) rfl rfl rfl ?_
      refine gBE trivial rfl rfl rfl rfl rfl rfl ?_
      refine gM trivial (.inr rfl) rfl rfl rfl ?_
      refine rg_nil nofun ?_
      refine vc_ret ?_
      exact ⟨idm,ends0 (.inr rfl) rfl (eqB (beq_self_eq_true _).symm) rfl rfl rfl⟩
     ·skip
      refine vc_skip ?_
      refine vc_seq ?_
      refine vc_region hm ?_
      refine gM trivial (.inl rfl) rfl rfl rfl ?_
      refine gM trivial (.inl rfl) rfl rfl rfl ?_
      refine gM trivial (.inl rfl) rfl rfl rfl ?_
      refine gL trivial rfl rfl rfl rfl rfl rfl rfl rfl ?_
      refine gCT (as':=[(13,one ⟨rHv (tabV 14 zo (resT (resT M (goK who sp (decide (((lockBars M who write sp).length:Int)=0))) who (giveH (at_ M who) write sp)) (goK who2 sp2 (decide (((lockBars (resT M (goK who sp (decide (((lockBars M who write sp).length:Int)=0))) who (giveH (at_ M who) write sp)) who2 write2 sp2).length:Int)=0))) who2 (giveH (at_ (resT M (goK who sp (decide (((lockBars M who write sp).length:Int)=0))) who (giveH (at_ M who) write sp)) who2) write2 sp2))),46,2⟩),(14,inF zo 28 77 (resT (resT M (goK who sp (decide (((lockBars M who write sp).length:Int)=0))) who (giveH (at_ M who) write sp)) (goK who2 sp2 (decide (((lockBars (resT M (goK who sp (decide (((lockBars M who write sp).length:Int)=0))) who (giveH (at_ M who) write sp)) who2 write2 sp2).length:Int)=0))) who2 (giveH (at_ (resT M (goK who sp (decide (((lockBars M who write sp).length:Int)=0))) who (giveH (at_ M who) write sp)) who2) write2 sp2)))]) (v':=.tuple #[.slice (some ⟨13,0,none⟩) (resT (resT M (goK who sp (decide (((lockBars M who write sp).length:Int)=0))) who (giveH (at_ M who) write sp)) (goK who2 sp2 (decide (((lockBars (resT M (goK who sp (decide (((lockBars M who write sp).length:Int)=0))) who (giveH (at_ M who) write sp)) who2 write2 sp2).length:Int)=0))) who2 (giveH (at_ (resT M (goK who sp (decide (((lockBars M who write sp).length:Int)=0))) who (giveH (at_ M who) write sp)) who2) write2 sp2)).length 0,.bool (resB (resT M (goK who sp (decide (((lockBars M who write sp).length:Int)=0))) who (giveH (at_ M who) write sp)) (goK who2 sp2 (decide (((lockBars (resT M (goK who sp (decide (((lockBars M who write sp).length:Int)=0))) who (giveH (at_ M who) write sp)) who2 write2 sp2).length:Int)=0))) who2 (giveH (at_ (resT M (goK who sp (decide (((lockBars M who write sp).length:Int)=0))) who (giveH (at_ M who) write sp)) who2) write2 sp2))]) 15 [nA (nm 8 (0)),nF 9,nF 13,nF 14] [8,9] (impl_LockGive_c (T:=(resT M (goK who sp (decide (((lockBars M who write sp).length:Int)=0))) who (giveH (at_ M who) write sp))) (who:=who2) (write:=write2) (s:=sp2) (kk:=0) (cc:=0) res_len res_big) trivial rfl rfl rfl rfl rfl ⟨aTab (k:=0) rfl rfl rfl rfl (.inl rfl) (.inl rfl) rfl rfl,aIn rfl rfl (.inr rfl) (.inr (.inl rfl)) rfl,trivial⟩ ⟨rTab rfl rfl rfl,rIn rfl,trivial⟩ ⟨rfl,rfl⟩ rfl rfl rfl ?_
      refine gM trivial (.inl rfl) rfl rfl rfl ?_
      refine gE trivial rfl rfl rfl rfl rfl rfl ?_
      refine gE trivial rfl rfl rfl rfl rfl rfl ?_
      refine gM trivial (.inr rfl) rfl rfl rfl ?_
      refine gM trivial (.inr rfl) rfl rfl rfl ?_
      refine rg_nil nofun ?_
      refine vc_seq ?_
      refine vc_region hm ?_
      refine gM trivial (.inl rfl) rfl rfl rfl ?_
      refine gM trivial (.inl rfl) rfl rfl rfl ?_
      refine gM trivial (.inl rfl) rfl rfl rfl ?_
      refine gL trivial rfl rfl rfl rfl rfl rfl rfl rfl ?_
      refine gCT (as':=[(15,one ⟨rHv (tabV 16 zo (resT M (goK who2 sp2 (decide (((lockBars M who2 write2 sp2).length:Int)=0))) who2 (giveH (at_ M who2) write2 sp2))),46,2⟩),(16,inF zo 28 77 (resT M (goK who2 sp2 (decide (((lockBars M who2 write2 sp2).length:Int)=0))) who2 (giveH (at_ M who2) write2 sp2)))]) (v':=.tuple #[.slice (some ⟨15,0,none⟩) (resT M (goK who2 sp2 (decide (((lockBars M who2 write2 sp2).length:Int)=0))) who2 (giveH (at_ M who2) write2 sp2)).length 0,.bool (resB M (goK who2 sp2 (decide (((lockBars M who2 write2 sp2).length:Int)=0))) who2 (giveH (at_ M who2) write2 sp2))]) 17 [nA (nm 2 (0)),nF 3,nF 15,nF 16] [2,3] (impl_LockGive_c (T:=M) (who:=who2) (write:=write2) (s:=sp2) (kk:=kk) (cc:=cc) hT hB) trivial rfl rfl rfl rfl rfl ⟨aTab (k:=kk) rfl rfl rfl rfl (.inl rfl) (.inl rfl) rfl rfl,aIn rfl rfl (.inr rfl) (.inr (.inl rfl)) rfl,trivial⟩ ⟨rTab rfl rfl rfl,rIn rfl,trivial⟩ ⟨rfl,rfl⟩ rfl rfl rfl ?_
      refine gM trivial (.inl rfl) rfl rfl rfl ?_
      refine gE trivial rfl rfl rfl rfl rfl rfl ?_
      refine gE trivial rfl rfl rfl rfl rfl rfl ?_
      refine gM trivial (.inr rfl) rfl rfl rfl ?_
      refine gM trivial (.inr rfl) rfl rfl rfl ?_
      refine rg_nil nofun ?_
      refine vc_seq ?_
      refine vc_seq ?_
      refine vc_region hm ?_
      refine gM trivial (.inl rfl) rfl rfl rfl ?_
      refine gM trivial (.inl rfl) rfl rfl rfl ?_
      refine gBN trivial rfl rfl rfl rfl rfl rfl ?_
      refine gM trivial (.inl rfl) rfl rfl rfl ?_
      refine gM ⟨_,_,rfl,rfl,(beqN (turn_B n76 p81 (hmt c83)))⟩ (.inl rfl) rfl rfl rfl ?_
      refine gN ⟨_,_,rfl,rfl,(beqN (turn_B n76 p81 (hmt c83)))⟩ rfl rfl rfl rfl ?_
      refine gPF trivial rfl rfl (beqN (turn_B n76 p81 (hmt c83))) rfl rfl rfl ?_
      refine rg_nil nofun ?_
      refine cI rfl (fun c109=>?_) (fun c109=>?_)
      ·skip
       have n109:=unT c109
       refine vc_seq ?_
       refine vc_region hm ?_
       refine gM trivial (.inl rfl) rfl rfl rfl ?_
       refine gM trivial (.inl rfl) rfl rfl rfl ?_
       refine gBE trivial rfl rfl rfl rfl rfl rfl ?_
       refine gM trivial (.inr rfl) rfl rfl rfl ?_
       refine rg_nil nofun ?_
       refine vc_ret ?_
       exact ⟨idm,ends0 (.inr rfl) rfl (eqB (by rw [turn_B n76 p81 (hmt c83)];exact (beq_self_eq_true _).symm)) rfl rfl rfl⟩
      ·skip
       have n109:=unF c109
       refine vc_skip ?_
       refine vc_seq ?_
       refine vc_region hm ?_
       refine gM trivial (.inl rfl) rfl rfl rfl ?_
       refine gM trivial (.inl rfl) rfl rfl rfl ?_
       refine gM trivial (.inl rfl) rfl rfl rfl ?_
       refine gL trivial rfl rfl rfl rfl rfl rfl rfl rfl ?_
       refine gCT (as':=[(17,one ⟨rHv (tabV 18 zo (resT (resT M (goK who2 sp2 (decide (((lockBars M who2 write2 sp2).length:Int)=0))) who2 (giveH (at_ M who2) write2 sp2)) (goK who sp (decide (((lockBars (resT M (goK who2 sp2 (decide (((lockBars M who2 write2 sp2).length:Int)=0))) who2 (giveH (at_ M who2) write2 sp2)) who write sp).length:Int)=0))) who (giveH (at_ (resT M (goK who2 sp2 (decide (((lockBars M who2 write2 sp2).length:Int)=0))) who2 (giveH (at_ M who2) write2 sp2)) who) write sp))),46,2⟩),(18,inF zo 28 77 (resT (resT M (goK who2 sp2 (decide (((lockBars M who2 write2 sp2).length:Int)=0))) who2 (giveH (at_ M who2) write2 sp2)) (goK who sp (decide (((lockBars (resT M (goK who2 sp2 (decide (((lockBars M who2 write2 sp2).length:Int)=0))) who2 (giveH (at_ M who2) write2 sp2)) who write sp).length:Int)=0))) who (giveH (at_ (resT M (goK who2 sp2 (decide (((lockBars M who2 write2 sp2).length:Int)=0))) who2 (giveH (at_ M who2) write2 sp2)) who) write sp)))]) (v':=.tuple #[.slice (some ⟨17,0,none⟩) (resT (resT M (goK who2 sp2 (decide (((lockBars M who2 write2 sp2).length:Int)=0))) who2 (giveH (at_ M who2) write2 sp2)) (goK who sp (decide (((lockBars (resT M (goK who2 sp2 (decide (((lockBars M who2 write2 sp2).length:Int)=0))) who2 (giveH (at_ M who2) write2 sp2)) who write sp).length:Int)=0))) who (giveH (at_ (resT M (goK who2 sp2 (decide (((lockBars M who2 write2 sp2).length:Int)=0))) who2 (giveH (at_ M who2) write2 sp2)) who) write sp)).length 0,.bool (resB (resT M (goK who2 sp2 (decide (((lockBars M who2 write2 sp2).length:Int)=0))) who2 (giveH (at_ M who2) write2 sp2)) (goK who sp (decide (((lockBars (resT M (goK who2 sp2 (decide (((lockBars M who2 write2 sp2).length:Int)=0))) who2 (giveH (at_ M who2) write2 sp2)) who write sp).length:Int)=0))) who (giveH (at_ (resT M (goK who2 sp2 (decide (((lockBars M who2 write2 sp2).length:Int)=0))) who2 (giveH (at_ M who2) write2 sp2)) who) write sp))]) 19 [nA (nm 15 (0)),nF 16,nF 17,nF 18] [15,16] (impl_LockGive_c (T:=(resT M (goK who2 sp2 (decide (((lockBars M who2 write2 sp2).length:Int)=0))) who2 (giveH (at_ M who2) write2 sp2))) (who:=who) (write:=write) (s:=sp) (kk:=0) (cc:=0) res_len res_big) trivial rfl rfl rfl rfl rfl ⟨aTab (k:=0) rfl rfl rfl rfl (.inl rfl) (.inl rfl) rfl rfl,aIn rfl rfl (.inr rfl) (.inr (.inl rfl)) rfl,trivial⟩ ⟨rTab rfl rfl rfl,rIn rfl,trivial⟩ ⟨rfl,rfl⟩ rfl rfl rfl ?_
       refine gM trivial (.inl rfl) rfl rfl rfl ?_
       refine gE trivial rfl rfl rfl rfl rfl rfl ?_
       refine gE trivial rfl rfl rfl rfl rfl rfl ?_
       refine gM trivial (.inr rfl) rfl rfl rfl ?_
       refine gM trivial (.inr rfl) rfl rfl rfl ?_
       refine rg_nil nofun ?_
       refine vc_seq ?_
       refine vc_region hm ?_
       refine gM trivial (.inl rfl) rfl rfl rfl ?_
       refine gM trivial (.inl rfl) rfl rfl rfl ?_
       refine gM ⟨_,_,rfl,rfl,(turn_A n76 p81 (hmt c83) n109).2⟩ (.inl rfl) rfl rfl rfl ?_
       refine gM ⟨_,_,rfl,rfl,(turn_A n76 p81 (hmt c83) n109).2⟩ (.inl rfl) rfl rfl rfl ?_
       refine gCT0 [nA (nm 13 (0)),nF 14,nA (nm 17 (0)),nF 18] [13,14,17,18] (impl_LockSame_c (A:=(resT (resT M (goK who sp (decide (((lockBars M who write sp).length:Int)=0))) who (giveH (at_ M who) write sp)) (goK who2 sp2 (decide (((lockBars (resT M (goK who sp (decide (((lockBars M who write sp).length:Int)=0))) who (giveH (at_ M who) write sp)) who2 write2 sp2).length:Int)=0))) who2 (giveH (at_ (resT M (goK who sp (decide (((lockBars M who write sp).length:Int)=0))) who (giveH (at_ M who) write sp)) who2) write2 sp2))) (B:=(resT (resT M (goK who2 sp2 (decide (((lockBars M who2 write2 sp2).length:Int)=0))) who2 (giveH (at_ M who2) write2 sp2)) (goK who sp (decide (((lockBars (resT M (goK who2 sp2 (decide (((lockBars M who2 write2 sp2).length:Int)=0))) who2 (giveH (at_ M who2) write2 sp2)) who write sp).length:Int)=0))) who (giveH (at_ (resT M (goK who2 sp2 (decide (((lockBars M who2 write2 sp2).length:Int)=0))) who2 (giveH (at_ M who2) write2 sp2)) who) write sp))) (ka:=0) (ca:=0) (kb:=0) (cb:=0) res_len res_big) ⟨_,_,rfl,rfl,(turn_A n76 p81 (hmt c83) n109).2⟩ rfl rfl rfl rfl rfl ⟨aTab (k:=0) rfl rfl rfl rfl (.inl rfl) (.inl rfl) rfl rfl,aIn rfl rfl (.inl rfl) (.inl rfl) rfl,aTab (k:=0) rfl rfl rfl rfl (.inl rfl) (.inl rfl) rfl rfl,aIn rfl rfl (.inl rfl) (.inl rfl) rfl,trivial⟩ rfl rfl rfl rfl ?_
       refine gPT trivial rfl rfl (turn_A n76 p81 (hmt c83) n109).2 rfl rfl rfl ?_
       refine gM trivial (.inr rfl) rfl rfl rfl ?_
       refine rg_nil nofun ?_
       refine vc_ret ?_
       exact ⟨idm,ends0 (.inr rfl) rfl (eqB (decide_eq_true (turn_A n76 p81 (hmt c83) n109).1).symm) rfl rfl rfl⟩
theorem FnLockTurn_walk {w:World} {v0:Value} {l0:List Int} {N0:Nam} {k0:Nat} (h0:CodeArg w v0 l0 N0 k0) {v1:Value} {l1:List Int} {N1:Nam} {k1:Nat} (h1:CodeArg w v1 l1 N1 k1):Calls Try.prog 10 #[v0,v1] w fun e w'=>e = .returned (.bool true)∧Below w.heap.size w w' :=
 law_done (FnLockTurn_c h0.2.2.1 h0.2.2.2 h1.2.2.1 h1.2.2.2) (ρ:=envL [N0,N1]) (by simp only [List.map_cons,List.map_nil,code_r3 (ns:=[N0,N1]) (b:=0) h0 rfl (of_blt rfl),code_r3 (ns:=[N0,N1]) (b:=1) h1 rfl (of_blt rfl)]) ⟨code_at h0 rfl (of_blt rfl),code_at h1 rfl (of_blt rfl),trivial⟩
end Go.Proofs.Ytbgehlihpkefmaa.A

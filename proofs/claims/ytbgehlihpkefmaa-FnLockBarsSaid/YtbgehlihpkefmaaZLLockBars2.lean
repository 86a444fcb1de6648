/- Part 2 of the proof of FnLockBars: words, contracts of callees, plain lemmas. -/
import Derived.Test.YtbgehlihpkefmaaZLLockBars1
set_option maxHeartbeats 8000000
set_option maxRecDepth 100000
set_option linter.unusedVariables false
set_option linter.unusedSimpArgs false
namespace Go.Proofs.Ytbgehlihpkefmaa.A
open Go Go.RowKit
def mkF (v:Value) (rd:List Nat) (ups as_:List (Nat × Fam)):Eff where
 v:=v
 rd:=rd
 up:=ups
 asg:=as_
theorem mkF_nw {v:Value} {rd:List Nat} {ups as_:List (Nat × Fam)}:(mkF v rd ups as_).nw=as_.map (·.1):=rfl
theorem mkF_wr {v:Value} {rd:List Nat} {ups as_:List (Nat × Fam)}:(mkF v rd ups as_).wr=ups.map (·.1):=by simp [Eff.wr,mkF]
def tm (ts:List (Nat→Option Nat)):NMap:=fun n=>match ts[n % 1000]? with
 | some g=>g (n / 1000)
 | none=>none
theorem tm_nm {ts:List (Nat→Option Nat)} {b k:Nat} {g:Nat→Option Nat} (hb:b<1000) (hg:ts[b]?=some g):tm ts (nm b k)=g k:=by
 unfold tm
 have:nm b k / 1000=k:=by unfold nm;omega
 rw [nm_mod hb,hg,this]
def nA (n:Nat):Nat→Option Nat:=fun k=>if k=0 then some n else none
def nN:Nat→Option Nat:=fun _=>none
def nF (b:Nat):Nat→Option Nat:=fun k=>some (nm b k)
theorem nm_div {b k:Nat} (h:b<1000):nm b k / 1000=k:=by unfold nm;omega
def ArgT (τ:NMap) (h:List (Nat × Bool × Fam)) (rds:List Nat) (b:Nat) (F:Fam):Prop :=
 (∀ k n',τ (nm b k)=some n'→n' % 1000 ∈ rds∧∃ x,h.lookup (n' % 1000)=some x)∧∀ k x,F k=some x→x.cs.all (po1 τ)=true∧(τ (nm b k)=none→x.cs = []∧x.e<100)∧∀ n',τ (nm b k)=some n'→∃ o' F' x',h.lookup (n' % 1000)=some (o',F')∧F' (n' / 1000)=some x'∧BlkW (x.tn τ) x'
def ArgsT (τ:NMap) (h:List (Nat × Bool × Fam)) (rds:List Nat):List (Nat × Bool × Fam)→Prop
 | []=>True
 | (b,_,F) :: hl=>ArgT τ h rds b F∧ArgsT τ h rds hl
theorem argsT_mem {τ:NMap} {h:List (Nat × Bool × Fam)} {rds:List Nat}:∀ {hl:List (Nat × Bool × Fam)},ArgsT τ h rds hl→∀ x ∈ hl,ArgT τ h rds x.1 x.2.2
 | _ :: _,hh,x,hx=>by
  rcases List.mem_cons.1 hx with rfl|hx
  ·exact hh.1
  ·exact argsT_mem hh.2 x hx
theorem flat_po1 {τ:NMap} {v:Value} (h:flat1 v=true):po1 τ v=true:=by
 cases v with
 | pointer a=>cases a <;> first|rfl|cases h
 | _=>rfl
theorem flat_poL {τ:NMap} {cs:List Value} (h:cs.all flat1=true):cs.all (po1 τ)=true:=List.all_eq_true.2 fun v hv=>flat_po1 (List.all_eq_true.1 h v hv)
theorem tn1_flat {τ:NMap} {v:Value} (h:flat1 v=true):tn1 τ v=v:=by
 cases v with
 | pointer a=>cases a <;> first|rfl|cases h
 | slice a n c=>cases a <;> first|rfl|cases h
 | _=>rfl
theorem tnL_flat {τ:NMap} {cs:List Value} (h:cs.all flat1=true):cs.map (tn1 τ)=cs:=by
 rw [List.all_eq_true] at h
 conv=>rhs;rw [← List.map_id cs]
 exact List.map_congr_left fun v hv=>tn1_flat (h v hv)
theorem tnb_flat {τ:NMap} {cs:List Value} {t e:Nat} (h:cs.all flat1=true):Blk.tn τ ⟨cs,t,e⟩=⟨cs,t,e⟩:=by simp [Blk.tn,tnL_flat h]
theorem aRow {ts:List (Nat→Option Nat)} {h:List (Nat × Bool × Fam)} {rds:List Nat} {b t t' e e' B j:Nat} {o':Bool} {F':Fam} {cs:List Value} (hg:ts[b]?=some (nA (nm B j))) (hf:cs.all flat1=true) (hl:h.lookup B=some (o',F')) (hF:F' j=some ⟨cs,t',e'⟩) (ht:e=0∨t'=t) (he:e=0∨e'=e∨(77≤e∧e<100∧e' ≠ 0)) (hb:(Nat.blt b 1000 && Nat.blt B 1000 && rds.contains B && (Nat.ble t capT || (e' == 0 && t' == t)))=true):ArgT (tm ts) h rds b (one ⟨cs,t,e⟩):=by
 simp only [Bool.and_eq_true,Bool.or_eq_true,beq_iff_eq,List.contains_iff_mem] at hb
 have hw:=hb.2
 have hb:=hb.1
 have hb1:=of_blt hb.1.1
 have hB:=of_blt hb.1.2
 refine ⟨fun k n' q=>?_,fun k x hx=>?_⟩
 ·rw [tm_nm hb1 hg] at q
  unfold nA at q
  split at q
  ·cases q
   rw [nm_mod hB]
   exact ⟨hb.2,_,hl⟩
  ·cases q
 ·obtain ⟨rfl,rfl⟩:=one_some hx
  refine ⟨flat_poL hf,fun q=>?_,fun n' q=>?_⟩
  ·rw [tm_nm hb1 hg] at q;cases q
  ·rw [tm_nm hb1 hg] at q
   cases q
   refine ⟨o',F',_,by rw [nm_mod hB];exact hl,by rw [nm_div hB];exact hF,?_⟩
   rw [tnb_flat hf]
   exact ⟨.inl rfl,fun q=>ht.resolve_left q,he,fun _=>hw.symm.imp id Nat.le_of_ble_eq_true⟩
theorem aFam {ts:List (Nat→Option Nat)} {h:List (Nat × Bool × Fam)} {rds:List Nat} {b B:Nat} {o':Bool} {F F':Fam} (hg:ts[b]?=some (nF B)) (hl:h.lookup B=some (o',F')) (hF:∀ k x,F k=some x→x.cs.all (po1 (tm ts))=true∧∃ x',F' k=some x'∧BlkW (x.tn (tm ts)) x') (hb:(Nat.blt b 1000 && Nat.blt B 1000 && rds.contains B)=true):ArgT (tm ts) h rds b F:=by
 simp only [Bool.and_eq_true,List.contains_iff_mem] at hb
 have hb1:=of_blt hb.1.1
 have hB:=of_blt hb.1.2
 refine ⟨fun k n' q=>?_,fun k x hx=>?_⟩
 ·rw [tm_nm hb1 hg] at q
  cases q
  rw [nm_mod hB]
  exact ⟨hb.2,_,hl⟩
 ·obtain ⟨hp,x',f',l⟩:=hF k x hx
  refine ⟨hp,fun q=>(by rw [tm_nm hb1 hg] at q;cases q),fun n' q=>?_⟩
  rw [tm_nm hb1 hg] at q
  cases q
  exact ⟨o',F',x',by rw [nm_mod hB];exact hl,by rw [nm_div hB];exact f',l⟩
theorem aRowN {ts:List (Nat→Option Nat)} {h:List (Nat × Bool × Fam)} {rds:List Nat} {b B j:Nat} {o':Bool} {F':Fam} {x x':Blk} (hg:ts[b]?=some (nA (nm B j))) (hp:x.cs.all (po1 (tm ts))=true) (hl:h.lookup B=some (o',F')) (hF:F' j=some x') (hx:BlkW (x.tn (tm ts)) x') (hb:(Nat.blt b 1000 && Nat.blt B 1000 && rds.contains B)=true):ArgT (tm ts) h rds b (one x):=by
 simp only [Bool.and_eq_true,List.contains_iff_mem] at hb
 have hb1:=of_blt hb.1.1
 have hB:=of_blt hb.1.2
 refine ⟨fun k n' q=>?_,fun k y hy=>?_⟩
 ·rw [tm_nm hb1 hg] at q
  unfold nA at q
  split at q
  ·cases q
   rw [nm_mod hB]
   exact ⟨hb.2,_,hl⟩
  ·cases q
 ·obtain ⟨rfl,rfl⟩:=one_some hy
  refine ⟨hp,fun q=>?_,fun n' q=>?_⟩
  ·rw [tm_nm hb1 hg] at q;cases q
  ·rw [tm_nm hb1 hg] at q
   cases q
   exact ⟨o',F',_,by rw [nm_mod hB];exact hl,by rw [nm_div hB];exact hF,hx⟩
def RnT (ts:List (Nat→Option Nat)):List (Nat × Fam)→List (Nat × Fam)→Prop
 | [],[]=>True
 | (b,F) :: l,(c,G) :: l'=>(ts[b]?=some (nF c)∧∀ k z,G k=some z→∃ z0,F k=some z0∧z=z0.tn (tm ts)∧z0.cs.all (po1 (tm ts))=true)∧RnT ts l l'
 | _,_=>False
theorem rFlatT {ts:List (Nat→Option Nat)} {b c t e:Nat} {cs:List Value} (hf:cs.all flat1=true) (hg:ts[b]?=some (nF c)):ts[b]?=some (nF c)∧∀ k z,one ⟨cs,t,e⟩ k=some z→∃ z0,one ⟨cs,t,e⟩ k=some z0∧z=z0.tn (tm ts)∧z0.cs.all (po1 (tm ts))=true:=by
 refine ⟨hg,fun k z hz=>⟨z,hz,?_,?_⟩⟩
 ·obtain ⟨rfl,rfl⟩:=one_some hz
  rw [tnb_flat hf]
 ·obtain ⟨rfl,rfl⟩:=one_some hz
  exact flat_poL hf
theorem rnT_r {ts:List (Nat→Option Nat)}:∀ {l l':List (Nat × Fam)},RnT ts l l'→∀ y ∈ l',∃ x ∈ l,ts[x.1]?=some (nF y.1)∧∀ k z,y.2 k=some z→∃ z0,x.2 k=some z0∧z=z0.tn (tm ts)∧z0.cs.all (po1 (tm ts))=true
 | [],_ :: _,h,_,_=>h.elim
 | x :: l,y' :: l',h,y,hy=>by
  rcases List.mem_cons.1 hy with rfl|hy
  ·exact ⟨x,.head _,h.1⟩
  ·obtain ⟨x,hx,h2⟩:=rnT_r h.2 y hy
   exact ⟨x,.tail _ hx,h2⟩
theorem rnT_l {ts:List (Nat→Option Nat)}:∀ {l l':List (Nat × Fam)},RnT ts l l'→∀ x ∈ l,∃ y ∈ l',ts[x.1]?=some (nF y.1)
 | _ :: _,[],h,_,_=>h.elim
 | x' :: l,y :: l',h,x,hx=>by
  rcases List.mem_cons.1 hx with rfl|hx
  ·exact ⟨y,.head _,h.1.1⟩
  ·obtain ⟨y,hy,h2⟩:=rnT_l h.2 x hx
   exact ⟨y,.tail _ hy,h2⟩
def mbT (ts:List (Nat→Option Nat)):Nat→Nat:=fun b=>((ts[b]?).bind (· 0)).getD 0 % 1000
def callT (hl:List (Nat × Bool × Fam)) (rd rds:List Nat) (as_ as':List (Nat × Fam)) (u u':Nat):Bool :=
 (rd.all fun b=>hl.any fun x=>x.1 == b) && (rds.all fun b=>Nat.blt b u) && (as_.all fun x=>Nat.blt x.1 1000 && as_.all fun y=>(x.1 == y.1) || true) && (as'.all fun x=>Nat.ble u x.1 && Nat.blt x.1 u') && nodB (as'.map (·.1)) && nodB (as_.map (·.1)) && Nat.ble u u' && Nat.ble u' 1000
theorem nF_inj {b c:Nat} (h:nF b=nF c):b=c:=by
 have:=congrFun h 0
 simpa [nF,nm] using this
section
variable {P:Program} {nt:Nat} {ops:Array Oper} {draw:Bool} {rest:List Oper} {u d:Nat} {t:List (Nat × Value)} {h:List (Nat × Bool × Fam)} {acc:List Eff} {K:St→Prop} {o:Oper}
theorem rnT_inj {ts:List (Nat→Option Nat)}:∀ {l l':List (Nat × Fam)},RnT ts l l'→(l'.map (·.1)).Nodup→∀ x ∈ l,∀ y ∈ l,∀ c,ts[x.1]?=some (nF c)→ts[y.1]?=some (nF c)→x.1=y.1
 | _ :: _,[],h,_,_,_,_,_,_,_,_=>h.elim
 | a :: l,a' :: l',h,hn,x,hx,y,hy,c,hc,hc'=>by
  rw [List.map_cons,List.nodup_cons] at hn
  rcases List.mem_cons.1 hx with ex|hx2
  ·rcases List.mem_cons.1 hy with ey|hy2
   ·rw [ex,ey]
   ·subst ex
    obtain ⟨y',hy',e⟩:=rnT_l h.2 y hy2
    rw [hc'] at e
    have e1:=nF_inj (Option.some.inj e)
    have e2:=h.1.1
    rw [hc] at e2
    have e3:=nF_inj (Option.some.inj e2)
    exact absurd (List.mem_map.2 ⟨y',hy',by rw [← e1,e3]⟩) hn.1
  ·rcases List.mem_cons.1 hy with ey|hy2
   ·subst ey
    obtain ⟨y',hy',e⟩:=rnT_l h.2 x hx2
    rw [hc] at e
    have e1:=nF_inj (Option.some.inj e)
    have e2:=h.1.1
    rw [hc'] at e2
    have e3:=nF_inj (Option.some.inj e2)
    exact absurd (List.mem_map.2 ⟨y',hy',by rw [← e1,e3]⟩) hn.1
   ·exact rnT_inj h.2 hn.2 x hx2 y hy2 c hc hc'
theorem gCcT {f:FuncId} {x:Operand} {fst cap:Array Value} {args:Array Operand} {tys:Array TypeId} {avs vs:List Value} {hl:List (Nat × Bool × Fam)} {v v':Value} {rd:List Nat} {as_ as':List (Nat × Fam)} (u':Nat) (ts:List (Nat→Option Nat)) (rds:List Nat) (hF:FDoes P f vs (hp hl) (mkF v rd [] as_)) (hw:wantT (tl t) ops o) (hop:o.op = .call ⟨.value x,args,tys⟩) (hx:evO (tl t) x=some (.func (.func f) fst cap)) (hc:(fst.toList ++ cap.toList).all plainV=true) (hfn:fnOk P f=true) (ha:evL (tl t) args.toList=some avs) (hv:fst.toList ++ avs ++ cap.toList=vs.map (tn3 (tm ts))) (hpo:vs.all (po3 (tm ts))=true)
  (hr:ArgsT (tm ts) h rds hl) (hra:RnT ts as_ as') (hv':v'=tn3 (tm ts) v∧po3 (tm ts) v=true) (hb:callT hl rd rds as_ as' u u'=true) (hs:o.dst=some d) (hn:Nat.blt d nt=true)
  (kk:RG P nt ops draw rest ⟨u',(d,v') :: t,as'.map (fun x=>(x.1,true,x.2)) ++ h⟩ (acc ++ [mkF v' rds [] as']) K):RG P nt ops draw (o :: rest) ⟨u,t,h⟩ acc K:=by
 simp only [callT,Bool.and_eq_true,List.all_eq_true,List.any_eq_true,beq_iff_eq] at hb
 obtain ⟨⟨⟨⟨⟨⟨⟨b1,b2⟩,b3⟩,b4⟩,b5⟩,b6⟩,b7⟩,b8⟩:=hb
 have hu:u≤u':=Nat.le_of_ble_eq_true b7
 have hu':u'≤1000:=Nat.le_of_ble_eq_true b8
 have hE':(mkF v' rds [] as').nw=as'.map (·.1):=rfl
 have hrd:∀ b,b ∈ (mkF v rd [] as_).rd∨b ∈ (mkF v rd [] as_).wr→b ∈ rd:=fun b hb=>hb.elim id fun q=>by rw [mkF_wr] at q;cases q
 have hnw:∀ c ∈ (mkF v' rds [] as').nw,u≤c∧c<u':=fun c hc=>by
  obtain ⟨y,hy,rfl⟩:=List.mem_map.1 hc
  exact ⟨Nat.le_of_ble_eq_true (b4 y hy).1,of_blt (b4 y hy).2⟩
 have hrds:∀ b ∈ rds,b ∉ (mkF v' rds [] as').nw:=fun b hb hq=>by
  have:=(hnw b hq).1
  have:=of_blt (b2 b hb)
  omega
 have hren:RenT (tm ts) (mbT ts) (hp hl) (hp h) (mkF v rd [] as_) (mkF v' rds [] as'):=by
  refine ⟨fun b hb k n' q=>?_,fun b hb o1 F e k x f=>?_,fun b hb=>?_,fun b hb=>?_,fun b hb b' hb' e=>?_,fun y hy=>?_,fun y hy=>(by cases hy),⟨rfl,rfl⟩,hv'⟩
  ·obtain ⟨x,hx,rfl⟩:=b1 b (hrd b hb)
   obtain ⟨h1,h2⟩:=(argsT_mem hr x hx).1 k n' q
   exact ⟨.inl h1,fun q=>(by rw [mkF_wr] at q;cases q),hrds _ h1,h2⟩
  ·exact (argsT_mem hr _ (mem_of_lookup (show hl.lookup b=some (o1,F) from e))).2 k x f
  ·rw [mkF_wr] at hb;cases hb
  ·obtain ⟨x,hx,rfl⟩:=List.mem_map.1 hb
   obtain ⟨y,hy,e⟩:=rnT_l hra x hx
   have hx1:=of_blt (b3 x hx).1
   have hy1:=hnw y.1 (List.mem_map_of_mem hy)
   have em:mbT ts x.1=y.1:=by
    unfold mbT
    rw [e]
    show (nm y.1 0) % 1000=y.1
    exact nm_mod (by omega)
   rw [em]
   exact ⟨List.mem_map_of_mem hy,by omega,fun k=>tm_nm hx1 e⟩
  ·obtain ⟨x,hx,rfl⟩:=List.mem_map.1 hb
   obtain ⟨y,hy,rfl⟩:=List.mem_map.1 hb'
   obtain ⟨x',hx',ex⟩:=rnT_l hra x hx
   obtain ⟨y',hy',ey⟩:=rnT_l hra y hy
   have hx1:=hnw x'.1 (List.mem_map_of_mem hx')
   have hy1:=hnw y'.1 (List.mem_map_of_mem hy')
   have em:mbT ts x.1=x'.1:=by
    unfold mbT
    rw [ex]
    show (nm x'.1 0) % 1000=x'.1
    exact nm_mod (by omega)
   have em':mbT ts y.1=y'.1:=by
    unfold mbT
    rw [ey]
    show (nm y'.1 0) % 1000=y'.1
    exact nm_mod (by omega)
   rw [em,em'] at e
   exact rnT_inj hra (nod_of b5) x hx y hy x'.1 ex (by rw [e];exact ey)
  ·obtain ⟨x,hx,e,hz⟩:=rnT_r hra y hy
   have hy1:=hnw y.1 (List.mem_map_of_mem hy)
   have em:mbT ts x.1=y.1:=by
    unfold mbT
    rw [e]
    show (nm y.1 0) % 1000=y.1
    exact nm_mod (by omega)
   exact ⟨x,hx,em.symm,hz⟩
 refine rg_cons u' (does_callT hop hw hfn hx hc ha hF hren hpo hv) ⟨⟨fun b hb=>(by rw [mkF_wr] at hb;cases hb),fun x hx=>(by cases hx),fun x hx=>?_,fun x hx=>(by cases hx),fun d' e=>(by rw [hs] at e;cases e;exact of_blt hn)⟩,fun x hx=>?_,hu⟩ ?_
 ·have:=hnw x.1 (List.mem_map_of_mem hx)
  exact ⟨by omega,by simp only [lt];omega⟩
 ·exact (hnw x.1 (List.mem_map_of_mem hx)).2
 ·rw [hs]
  have:St.app ⟨u,t,h⟩ (some d) (mkF v' rds [] as') u'=⟨u',(d,v') :: t,as'.map (fun x=>(x.1,true,x.2)) ++ h⟩:=by
   simp [St.app,putT,Eff.outL,mkF]
  rw [this]
  exact kk
theorem gCT {f:FuncId} {args:Array Operand} {tys:Array TypeId} {avs vs:List Value} {hl:List (Nat × Bool × Fam)} {v v':Value} {rd:List Nat} {as_ as':List (Nat × Fam)} (u':Nat) (ts:List (Nat→Option Nat)) (rds:List Nat) (hF:FDoes P f vs (hp hl) (mkF v rd [] as_)) (hw:wantT (tl t) ops o) (hop:o.op = .call ⟨.value (.func f),args,tys⟩) (hfn:fnOk P f=true) (ha:evL (tl t) args.toList=some avs) (hv:avs=vs.map (tn3 (tm ts))) (hpo:vs.all (po3 (tm ts))=true)
  (hr:ArgsT (tm ts) h rds hl) (hra:RnT ts as_ as') (hv':v'=tn3 (tm ts) v∧po3 (tm ts) v=true) (hb:callT hl rd rds as_ as' u u'=true) (hs:o.dst=some d) (hn:Nat.blt d nt=true)
  (kk:RG P nt ops draw rest ⟨u',(d,v') :: t,as'.map (fun x=>(x.1,true,x.2)) ++ h⟩ (acc ++ [mkF v' rds [] as']) K):RG P nt ops draw (o :: rest) ⟨u,t,h⟩ acc K :=
 gCcT u' ts rds hF hw hop rfl rfl hfn ha (by simpa using hv) hpo hr hra hv' hb hs hn kk
theorem po3_flatT {τ:NMap} {v:Value} (h:flatT v=true):po3 τ v=true∧tn3 τ v=v:=by
 have f2:∀ v:Value,flatV v=true→po2 τ v=true∧tn2 τ v=v:=fun v h=>by
  cases v with
  | agg cs =>
   refine ⟨flat_poL (cs:=cs.toList) h,?_⟩
   show Value.agg (cs.toList.map (tn1 τ)).toArray=_
   rw [tnL_flat (cs:=cs.toList) h]
  | pointer a=>cases a <;> first|exact ⟨rfl,rfl⟩|cases h
  | slice a n c=>cases a <;> first|exact ⟨rfl,rfl⟩|cases h
  | tuple vs=>cases h
  | func f x c=>cases h
  | _=>exact ⟨rfl,rfl⟩
 cases v with
 | tuple vs =>
  have h:vs.toList.all flatV=true:=h
  rw [List.all_eq_true] at h
  refine ⟨List.all_eq_true.2 fun v hv=>(f2 v (h v hv)).1,?_⟩
  show Value.tuple (vs.toList.map (tn2 τ)).toArray=_
  have:vs.toList.map (tn2 τ)=vs.toList:=by
   conv=>rhs;rw [← List.map_id vs.toList]
   exact List.map_congr_left fun v hv=>(f2 v (h v hv)).2
  rw [this]
 | func f x c=>cases h
 | agg cs=>exact f2 (.agg cs) h
 | pointer a=>exact f2 (.pointer a) h
 | slice a n c=>exact f2 (.slice a n c) h
 | _=>exact ⟨rfl,rfl⟩
theorem gCT0 {f:FuncId} {args:Array Operand} {tys:Array TypeId} {avs vs:List Value} {hl:List (Nat × Bool × Fam)} {v:Value} {rd:List Nat} (ts:List (Nat→Option Nat)) (rds:List Nat) (hF:FDoes P f vs (hp hl) { v:=v,rd:=rd }) (hw:wantT (tl t) ops o) (hop:o.op = .call ⟨.value (.func f),args,tys⟩) (hfn:fnOk P f=true) (ha:evL (tl t) args.toList=some avs) (hv:avs=vs.map (tn3 (tm ts))) (hpo:vs.all (po3 (tm ts))=true)
  (hr:ArgsT (tm ts) h rds hl) (hfl:flatT v=true) (hb:callT hl rd rds [] [] u u=true) (hs:o.dst=some d) (hn:Nat.blt d nt=true)
  (kk:RG P nt ops draw rest ⟨u,(d,v) :: t,h⟩ (acc ++ [{ v:=v,rd:=rds }]) K):RG P nt ops draw (o :: rest) ⟨u,t,h⟩ acc K :=
 gCT (as_:=[]) (as':=[]) u ts rds hF hw hop hfn ha hv hpo hr trivial ⟨(po3_flatT hfl).2.symm,(po3_flatT hfl).1⟩ hb hs hn kk
theorem gApi {ty e:TypeId} {s x:Operand} {n len B j k cnt c sz by_ u' n':Nat} {cs cs':List Value} {ow:Bool} {F:Fam} {y:Blk} (hw:wantT (tl t) ops o) (hop:o.op = .call ⟨.builtin .append,#[s,x],#[ty,ty]⟩) (ht:P.underlying ty=some (.slice e)) (hsx:evO (tl t) s=some (.slice (some ⟨n,0,none⟩) len 0)) (hh:hp h n=some (true,one ⟨cs,e,sz⟩)) (hx:ev t x=some (.slice (some ⟨nm B j,k,none⟩) cnt c)) (hB:hp h B=some (ow,F)) (hi:infP P e sz by_=true) (h0:(Nat.blt 0 sz && Nat.blt sz 77 && Nat.blt B 1000)=true) (hu:(Nat.blt u 1000 && Nat.blt n 1000)=true) (hu':u + 1=u') (hs:o.dst=some d) (hn:Nat.blt d nt=true)
  (hF:F j=some y) (hl:cs.length=len * sz) (hk:k + cnt * sz≤y.cs.length) (hlf:((y.cs.drop k).take (cnt * sz)).all leaf=true) (hmax:(len + cnt) * (by_ + 1)≤140737488355328) (hc:cs ++ (y.cs.drop k).take (cnt * sz)=cs') (hln:len + cnt=n')
  (kk:RG P nt ops draw rest ⟨u',(d,.slice (some ⟨u,0,none⟩) n' 0) :: t,(u,true,one ⟨cs',e,sz⟩) :: (n,true,gone) :: h⟩ (acc ++ [{ v:=.slice (some ⟨u,0,none⟩) n' 0,rd:=[B],kill:=[n],asg:=[(u,one ⟨cs',e,sz⟩)] }]) K):RG P nt ops draw (o :: rest) ⟨u,t,h⟩ acc K:=by
 rw [Bool.and_eq_true] at h0
 have hB1:=of_blt h0.2
 have e1:nm B j % 1000=B:=nm_mod hB1
 have:=gAp (P:=P) (nt:=nt) (draw:=draw) (rest:=rest) (acc:=acc) (K:=K) hw hop ht hsx hh hx (y:=y) (by unfold hat;rw [e1,hB,nm_div hB1];exact hF) hi h0.1 hu hu' hs hn hl hk hlf hmax hc hln
 rw [e1] at this
 exact this kk
end
def mF (l:List (Nat × Nat × Fam)):Nat→Nat:=fun b=>match (l.map fun x=>(x.1,x.2.1)).lookup b with|some j=>j|none=>b
theorem mF_of {l:List (Nat × Nat × Fam)} (hn:nodB (l.map (·.1))=true) {x:Nat × Nat × Fam} (hx:x ∈ l):mF l x.1=x.2.1:=by
 have h1:=mA_of (l:=l.map fun y=>(y.1,y.2.1,(⟨[],0,0⟩:Blk))) (by simpa [Function.comp_def] using hn) (x:=(x.1,x.2.1,⟨[],0,0⟩)) (List.mem_map.2 ⟨x,hx,rfl⟩)
 have h2:mA (l.map fun y=>(y.1,y.2.1,(⟨[],0,0⟩:Blk)))=mF l:=by
  funext b
  simp only [mA,mF,List.map_map,Function.comp_def] <;> (cases (l.map fun x=>(x.1,x.2.1)).lookup b <;> rfl)
 rw [h2] at h1
 exact h1
theorem mF_none {l:List (Nat × Nat × Fam)} {b:Nat} (h:b ∉ l.map (·.1)):mF l b=b:=by
 have h1:=mA_none (l:=l.map fun y=>(y.1,y.2.1,(⟨[],0,0⟩:Blk))) (b:=b) (by simpa [List.map_map,Function.comp_def] using h)
 have h2:mA (l.map fun y=>(y.1,y.2.1,(⟨[],0,0⟩:Blk)))=mF l:=by
  funext b
  simp only [mA,mF,List.map_map,Function.comp_def] <;> (cases (l.map fun x=>(x.1,x.2.1)).lookup b <;> rfl)
 rw [h2] at h1
 exact h1
def UpsT (hl h:List (Nat × Bool × Fam)) (m:Nat→Nat) (u:Nat):List (Nat × Fam)→Prop
 | []=>True
 | (b,F) :: ups=>((∃ G,hl.lookup b=some (true,G)∧∀ k,G k ≠ none↔F k ≠ none)∧(∃ o,h.lookup b=some (o,rnF m F))∧∀ k y,F k=some y→DetB (lt u) y)∧UpsT hl h m u ups
theorem upsT_mem {hl h:List (Nat × Bool × Fam)} {m:Nat→Nat} {u:Nat}:∀ {ups:List (Nat × Fam)},UpsT hl h m u ups→∀ x ∈ ups,(∃ G,hl.lookup x.1=some (true,G)∧∀ k,G k ≠ none↔x.2 k ≠ none)∧(∃ o,h.lookup x.1=some (o,rnF m x.2))∧∀ k y,x.2 k=some y→DetB (lt u) y
 | _ :: _,hh,x,hx=>by
  rcases List.mem_cons.1 hx with rfl|hx
  ·exact hh.1
  ·exact upsT_mem hh.2 x hx
def AsT (h:List (Nat × Bool × Fam)) (m:Nat→Nat) (u:Nat):List (Nat × Nat × Fam)→Prop
 | []=>True
 | (b,j,F) :: l=>(h.lookup j=some (true,rnF m F)∧∀ k y,F k=some y→DetB (lt u) y)∧AsT h m u l
theorem asT_mem {h:List (Nat × Bool × Fam)} {m:Nat→Nat} {u:Nat}:∀ {l:List (Nat × Nat × Fam)},AsT h m u l→∀ x ∈ l,h.lookup x.2.1=some (true,rnF m x.2.2)∧∀ k y,x.2.2 k=some y→DetB (lt u) y
 | _ :: _,hh,x,hx=>by
  rcases List.mem_cons.1 hx with rfl|hx
  ·exact hh.1
  ·exact asT_mem hh.2 x hx
def endTB (u0:Nat) (hl:List (Nat × Bool × Fam)) (rd:List Nat) (ups:List (Nat × Fam)) (l:List (Nat × Nat × Fam)):Bool :=
 (rd.all fun b=>(hl.lookup b).isSome) && (hl.all fun x=>if x.2.1 then (ups.map (·.1)).contains x.1 else rd.contains x.1) && (l.all fun x=>Nat.ble u0 x.1 && Nat.blt x.1 1000 && Nat.ble u0 x.2.1 && Nat.blt x.2.1 1000 && l.all fun y=>!(x.2.1 == y.2.1) || x.1 == y.1) && nodB (l.map (·.1)) && ((List.range (u0 + l.length)).all fun b=>rd.contains b || (ups.map (·.1)).contains b || (l.map (·.1)).contains b)
theorem endsT {P:Program} {fn:Func} {u0:Nat} {hl:List (Nat × Bool × Fam)} {v:Value} {vs:List Value} {rd:List Nat} {ups:List (Nat × Fam)} {ex:Exit} {u:Nat} {t:List (Nat × Value)} {h:List (Nat × Bool × Fam)} (l:List (Nat × Nat × Fam)) (he:ex = .normal∨ex = .ret) (hr:ResL P ⟨u,t,h⟩ fn.results.toList vs) (hw:wrapV vs=rn3 (mF l) v) (hdv:ok3 (u0 + l.length) v=true) (hup:UpsT hl h (mF l) (u0 + l.length) ups) (has:AsT h (mF l) (u0 + l.length) l) (hck:endTB u0 hl rd ups l=true) :
  Ends P fn u0 hl (mkF v rd ups (l.map fun x=>(x.1,x.2.2))) (mF l) ex ⟨u,t,h⟩:=by
 simp only [endTB,Bool.and_eq_true,List.all_eq_true,Bool.not_eq_true',List.contains_iff_mem,Option.isSome_iff_exists,Bool.or_eq_true,beq_eq_false_iff_ne,beq_iff_eq] at hck
 obtain ⟨⟨⟨⟨k1,k2⟩,k3⟩,k4⟩,k5⟩:=hck
 have hV:∀ n,lt (u0 + l.length) n→(mkF v rd ups (l.map fun x=>(x.1,x.2.2))).V n:=fun n hn=>by
  rcases k5 n (List.mem_range.2 hn) with (h1|h1)|h1
  ·exact .inl h1
  ·exact .inr (.inl (List.mem_append_left _ h1))
  ·refine .inr (.inr ?_)
   rw [mkF_nw]
   simpa [Function.comp_def] using h1
 refine ⟨he,⟨vs,hr,hw⟩,rfl,k1,fun x hx=>?_,fun x hx=>?_,fun x hx=>?_,fun x hx y hy e=>?_,fun b hb=>mF_none fun hm=>?_,(ok3_det hdv).mono hV,fun x hx k y e=>?_,fun x hx k y e=>?_⟩
 ·have:=k2 x hx
  by_cases ho:x.2.1=true
  ·rw [if_pos ho] at this ⊢
   simpa [mkF] using this
  ·rw [if_neg ho] at this ⊢
   show x.1 ∈ rd
   simpa using this
 ·obtain ⟨⟨G,a1,a2⟩,a3,_⟩:=upsT_mem hup x hx
  exact ⟨⟨G,a1,a2⟩,a3⟩
 ·obtain ⟨z,hz,rfl⟩:=List.mem_map.1 hx
  obtain ⟨a1,a2⟩:=asT_mem has z hz
  obtain ⟨⟨⟨⟨b1,b2⟩,b3⟩,b4⟩,_⟩:=k3 z hz
  have e1:=mF_of k4 hz
  refine ⟨Nat.le_of_ble_eq_true b1,of_blt b2,?_,?_,?_⟩
  ·show u0≤mF l z.1;rw [e1];exact Nat.le_of_ble_eq_true b3
  ·show mF l z.1<1000;rw [e1];exact of_blt b4
  ·show h.lookup (mF l z.1)=_
   rw [e1,a1]
 ·obtain ⟨z1,hz1,rfl⟩:=List.mem_map.1 hx
  obtain ⟨z2,hz2,rfl⟩:=List.mem_map.1 hy
  have e:mF l z1.1=mF l z2.1:=e
  rw [mF_of k4 hz1,mF_of k4 hz2] at e
  exact ((k3 z1 hz1).2 z2 hz2).resolve_left fun h=>h e
 ·obtain ⟨z,hz,he⟩:=List.mem_map.1 hm
  have:=Nat.le_of_ble_eq_true (k3 z hz).1.1.1.1
  omega
 ·obtain ⟨z1,hz1,rfl⟩:=List.mem_map.1 hx
  exact ((asT_mem has z1 hz1).2 k y e).mono hV
 ·exact ((upsT_mem hup x hx).2.2 k y e).mono hV
def KeepTT (τ:NMap) (u2:Nat) (t1:List (Nat × Value)):List (Nat × Value)→Prop
 | []=>True
 | (k,v) :: t2=>((po3 τ v=true∧t1.lookup k=some (tn3 τ v))∧ok3 u2 v=true)∧KeepTT τ u2 t1 t2
theorem keepTT_mem {τ:NMap} {u2:Nat} {t1:List (Nat × Value)}:∀ {t2:List (Nat × Value)},KeepTT τ u2 t1 t2→∀ x ∈ t2,(po3 τ x.2=true∧t1.lookup x.1=some (tn3 τ x.2))∧ok3 u2 x.2=true
 | _ :: _,h,x,hx=>by
  rcases List.mem_cons.1 hx with rfl|hx
  ·exact h.1
  ·exact keepTT_mem h.2 x hx
def KeepBT (τ:NMap) (u2:Nat) (h1:List (Nat × Bool × Fam)) (b:Nat) (o:Bool) (F:Fam):Prop :=
 b<u2∧b<1000∧(∀ k y,F k=some y→y.cs.all (po1 τ)=true∧(τ (nm b k)=none→y.cs = []∧y.e<100)∧∀ n',τ (nm b k)=some n'→∃ o' F' y',h1.lookup (n' % 1000)=some (o',F')∧F' (n' / 1000)=some y'∧BlkW (y.tn τ) y'∧(o=true→o'=true))∧∀ k y,F k=some y→DetB (lt u2) y
def KeepHT (τ:NMap) (u2:Nat) (h1:List (Nat × Bool × Fam)):List (Nat × Bool × Fam)→Prop
 | []=>True
 | (b,o,F) :: h2=>KeepBT τ u2 h1 b o F∧KeepHT τ u2 h1 h2
theorem keepHT_mem {τ:NMap} {u2:Nat} {h1:List (Nat × Bool × Fam)}:∀ {h2:List (Nat × Bool × Fam)},KeepHT τ u2 h1 h2→∀ x ∈ h2,KeepBT τ u2 h1 x.1 x.2.1 x.2.2
 | _ :: _,h,x,hx=>by
  rcases List.mem_cons.1 hx with rfl|hx
  ·exact h.1
  ·exact keepHT_mem h.2 x hx
def tmG (ms:List Nat) (C:Nat) (g:Nat→Option Nat):NMap:=fun n=>if n % 1000=C then g (n / 1000) else some (rnN (mp ms) n)
theorem tmG_C {ms:List Nat} {C k:Nat} {g:Nat→Option Nat} (hC:C<1000):tmG ms C g (nm C k)=g k:=by unfold tmG;rw [nm_mod hC,if_pos rfl,nm_div hC]
theorem tmG_o {ms:List Nat} {C b k:Nat} {g:Nat→Option Nat} (hb:b<1000) (h:b ≠ C):tmG ms C g (nm b k)=some (nm (mp ms b) k):=by unfold tmG;rw [nm_mod hb,if_neg h,rnN_nm hb]
theorem ktFlat {ms:List Nat} {C u2 b t e e':Nat} {g:Nat→Option Nat} {h1:List (Nat × Bool × Fam)} {o o':Bool} {cs:List Value} (hf:cs.all flat1=true) (hl:h1.lookup (mp ms b)=some (o',one ⟨cs,t,e'⟩)) (he:e=0∨e'=e∨(77≤e∧e<100∧e' ≠ 0)) (ho:o=true→o'=true) (hb:(Nat.blt b u2 && Nat.blt b 1000 && Nat.blt (mp ms b) 1000 && !(b == C) && (Nat.ble t capT || e' == 0))=true):KeepBT (tmG ms C g) u2 h1 b o (one ⟨cs,t,e⟩):=by
 simp only [Bool.and_eq_true,Bool.not_eq_true',beq_eq_false_iff_ne,Bool.or_eq_true,beq_iff_eq] at hb
 obtain ⟨⟨⟨⟨b1,b2⟩,b3⟩,b4⟩,b5⟩:=hb
 have b2:=of_blt b2
 have b3:=of_blt b3
 refine ⟨of_blt b1,b2,fun k y hk=>?_,fun k y hk=>?_⟩
 ·obtain ⟨rfl,rfl⟩:=one_some hk
  refine ⟨flat_poL hf,fun q=>(by rw [tmG_o b2 b4] at q;cases q),fun n' q=>?_⟩
  rw [tmG_o b2 b4] at q
  cases q
  refine ⟨o',_,_,by rw [nm_mod b3];exact hl,by rw [nm_div b3];rfl,?_,ho⟩
  rw [tnb_flat hf]
  exact ⟨.inl rfl,fun _=>rfl,he,fun _=>b5.symm.imp (fun q=>⟨q,rfl⟩) Nat.le_of_ble_eq_true⟩
 ·obtain ⟨rfl,rfl⟩:=one_some hk
  exact fun ρ ρ' hρ=>okL_det (flat_okL hf) hρ
theorem ktRow {ms:List Nat} {C u2 b:Nat} {g:Nat→Option Nat} {h1:List (Nat × Bool × Fam)} {o o':Bool} {x x':Blk} (hl:h1.lookup (mp ms b)=some (o',one x')) (hp:x.cs.all (po1 (tmG ms C g))=true) (hk:x.cs.all (ok1 u2)=true) (hx:BlkW (x.tn (tmG ms C g)) x') (ho:o=true→o'=true) (hb:(Nat.blt b u2 && Nat.blt b 1000 && Nat.blt (mp ms b) 1000 && !(b == C))=true):KeepBT (tmG ms C g) u2 h1 b o (one x):=by
 simp only [Bool.and_eq_true,Bool.not_eq_true',beq_eq_false_iff_ne] at hb
 obtain ⟨⟨⟨b1,b2⟩,b3⟩,b4⟩:=hb
 have b2:=of_blt b2
 have b3:=of_blt b3
 refine ⟨of_blt b1,b2,fun k y hy=>?_,fun k y hy=>?_⟩
 ·obtain ⟨rfl,rfl⟩:=one_some hy
  refine ⟨hp,fun q=>(by rw [tmG_o b2 b4] at q;cases q),fun n' q=>?_⟩
  rw [tmG_o b2 b4] at q
  cases q
  exact ⟨o',_,_,by rw [nm_mod b3];exact hl,by rw [nm_div b3];rfl,hx,ho⟩
 ·obtain ⟨rfl,rfl⟩:=one_some hy
  exact fun ρ ρ' hρ=>okL_det hk hρ
theorem ktFam {ms:List Nat} {C u2 b:Nat} {g:Nat→Option Nat} {h1:List (Nat × Bool × Fam)} {o o':Bool} {F:Fam} (hf:∀ k y,F k=some y→y.cs.all flat1=true) (hl:h1.lookup (mp ms b)=some (o',F)) (ho:o=true→o'=true) (hb:(Nat.blt b u2 && Nat.blt b 1000 && Nat.blt (mp ms b) 1000 && !(b == C))=true):KeepBT (tmG ms C g) u2 h1 b o F:=by
 simp only [Bool.and_eq_true,Bool.not_eq_true',beq_eq_false_iff_ne] at hb
 obtain ⟨⟨⟨b1,b2⟩,b3⟩,b4⟩:=hb
 have b2:=of_blt b2
 have b3:=of_blt b3
 refine ⟨of_blt b1,b2,fun k y hy=>?_,fun k y hy=>?_⟩
 ·refine ⟨flat_poL (hf k y hy),fun q=>(by rw [tmG_o b2 b4] at q;cases q),fun n' q=>?_⟩
  rw [tmG_o b2 b4] at q
  cases q
  refine ⟨o',_,_,by rw [nm_mod b3];exact hl,by rw [nm_div b3];exact hy,?_,ho⟩
  obtain ⟨cs,t,e⟩:=y
  rw [tnb_flat (hf k _ hy)]
  exact BlkW.refl _
 ·exact fun ρ ρ' hρ=>okL_det (flat_okL (hf k y hy)) hρ
theorem ktC {ms:List Nat} {C u2:Nat} {g:Nat→Option Nat} {h1:List (Nat × Bool × Fam)} {o:Bool} {F:Fam} (hf:∀ k y,F k=some y→y.cs.all flat1=true) (hn:∀ k y,F k=some y→(g k=none→y.cs = []∧y.e<100)∧∀ n',g k=some n'→∃ o' F' y',h1.lookup (n' % 1000)=some (o',F')∧F' (n' / 1000)=some y'∧BlkW y y'∧(o=true→o'=true)) (hb:(Nat.blt C u2 && Nat.blt C 1000)=true):KeepBT (tmG ms C g) u2 h1 C o F:=by
 simp only [Bool.and_eq_true] at hb
 have b2:=of_blt hb.2
 refine ⟨of_blt hb.1,b2,fun k y hy=>⟨flat_poL (hf k y hy),fun q=>?_,fun n' q=>?_⟩,fun k y hy=>?_⟩
 ·rw [tmG_C b2] at q
  exact (hn k y hy).1 q
 ·rw [tmG_C b2] at q
  obtain ⟨o',F',y',a1,a2,a3,a4⟩:=(hn k y hy).2 n' q
  refine ⟨o',F',y',a1,a2,?_,a4⟩
  obtain ⟨cs,t,e⟩:=y
  rw [tnb_flat (hf k _ hy)]
  exact a3
 ·exact fun ρ ρ' hρ=>okL_det (flat_okL (hf k y hy)) hρ
theorem re_mk {r u1 u2 C:Nat} {ms:List Nat} {g:Nat→Option Nat} {t1 t2:List (Nat × Value)} {h1 h2:List (Nat × Bool × Fam)} (hr:(Nat.ble r u2 && Nat.ble r C && Nat.blt C 1000)=true) (ht:KeepTT (tmG ms C g) u2 t1 t2) (hh:KeepHT (tmG ms C g) u2 h1 h2)
  (hi:(h2.all fun x=>h2.all fun y=>x.1 == C || y.1 == C || !(mp ms x.1 == mp ms y.1) || x.1 == y.1)=true) (hlt:(h2.all fun x=>Nat.blt (mp ms x.1) 1000)=true) (hm:∀ b,b<r→mp ms b=b)
  (hg:∀ x ∈ h2,x.1=C→(∀ k k' n',x.2.2 k ≠ none→x.2.2 k' ≠ none→g k=some n'→g k'=some n'→k=k')∧∀ k n',x.2.2 k ≠ none→g k=some n'→∀ y ∈ h2,y.1 ≠ C→∀ k',y.2.2 k' ≠ none→n' ≠ nm (mp ms y.1) k') (hnd:nodB (h2.map (·.1))=true):Re r ⟨u2,t2,h2⟩ ⟨u1,t1,h1⟩:=by
 simp only [Bool.and_eq_true] at hr
 have hC:=of_blt hr.2
 have hrC:=Nat.le_of_ble_eq_true hr.1.2
 refine re_leT (τ:=tmG ms C g) ⟨fun x hx=>(keepTT_mem ht x hx).1,fun x hx=>?_,fun x hx _ y hy k k' n' l1 l2 q1 q2=>?_,fun x hx=>ok3_det (keepTT_mem ht x hx).2,fun x hx=>(keepHT_mem hh x hx).2.2.2,fun n hn=>?_,Nat.le_of_ble_eq_true hr.1.1⟩
 ·obtain ⟨a1,a2,a3,_⟩:=keepHT_mem hh x hx
  exact ⟨a1,a2,a3⟩
 ·have hx1:=(keepHT_mem hh x hx).2.1
  have hy1:=(keepHT_mem hh y hy).2.1
  have hxl:=of_blt (List.all_eq_true.1 hlt x hx)
  have hyl:=of_blt (List.all_eq_true.1 hlt y hy)
  by_cases ex:x.1=C
  ·rw [ex,tmG_C hC] at q1
   by_cases ey:y.1=C
   ·rw [ey,tmG_C hC] at q2
    have hxy:x=y:=by
     have:=nod_of hnd
     have hp:∀ l:List (Nat × Bool × Fam),(l.map (·.1)).Nodup→x ∈ l→y ∈ l→x=y:=fun l=>by
      induction l with
      | nil=>intro _ h;cases h
      | cons a l ih =>
       intro hn h1 h2
       rw [List.map_cons,List.nodup_cons] at hn
       rcases List.mem_cons.1 h1 with e1|g1
       ·rcases List.mem_cons.1 h2 with e2|g2
        ·rw [e1,e2]
        ·exact absurd (List.mem_map.2 ⟨y,g2,(by rw [ey,← e1,ex]:y.1=a.1)⟩) hn.1
       ·rcases List.mem_cons.1 h2 with e2|g2
        ·exact absurd (List.mem_map.2 ⟨x,g1,(by rw [← e2,ey,ex]:x.1=a.1)⟩) hn.1
        ·exact ih hn.2 g1 g2
     exact hp h2 this hx hy
    subst hxy
    rw [(hg x hx ex).1 k k' n' l1 l2 q1 q2]
   ·rw [tmG_o hy1 ey] at q2
    cases q2
    exact absurd rfl ((hg x hx ex).2 k _ l1 q1 y hy ey k' l2)
  ·rw [tmG_o hx1 ex] at q1
   cases q1
   by_cases ey:y.1=C
   ·rw [ey,tmG_C hC] at q2
    exact absurd rfl ((hg y hy ey).2 k' _ l2 q2 x hx ex k l1)
   ·rw [tmG_o hy1 ey] at q2
    obtain ⟨e1,e2⟩:=nm_inj hyl hxl (Option.some.inj q2)
    have:=List.all_eq_true.1 (List.all_eq_true.1 hi x hx) y hy
    simp only [Bool.or_eq_true,Bool.not_eq_true',beq_eq_false_iff_ne,beq_iff_eq] at this
    rw [e2]
    rcases this with ((h|h)|h)|h
    ·exact absurd h ex
    ·exact absurd h ey
    ·exact absurd e1.symm h
    ·rw [h]
 ·unfold tmG
  rw [if_neg (by omega)]
  unfold rnN
  rw [hm _ hn,nm_eta]
def nX (C i a b:Nat):Nat→Option Nat:=fun j=>if j=i then some a else if j=i + 1 then some b else some (nm C j)
structure Ho where
 r:List Sp
 w:List Sp
deriving Inhabited,DecidableEq
structure Hv where
 a:Value
 b:Value
instance:Inhabited Hv:=⟨⟨.slice none 0 0,.slice none 0 0⟩⟩
def eHv (h:Hv):List Value:=[h.a,h.b]
abbrev rHv (xs:List Hv):List Value:=rowL eHv xs
abbrev zo:Nat→Nat:=fun _=>0
def sel (h:Ho) (j:Nat):List Sp:=if j % 2=0 then h.r else h.w
def sv (n off len:Nat):Value:=.slice (some ⟨n,off,none⟩) len 0
def hv (C:Nat) (off:Nat→Nat) (i:Nat) (h:Ho):Hv:=⟨.slice (some ⟨nm C (2 * i),off (2 * i),none⟩) h.r.length 0,.slice (some ⟨nm C (2 * i + 1),off (2 * i + 1),none⟩) h.w.length 0⟩
def tabV (C:Nat) (off:Nat→Nat) (T:List Ho):List Hv:=(List.range T.length).map fun i=>hv C off i (at_ T (i:Int))
def inF (off:Nat→Nat) (t e:Nat) (T:List Ho):Fam:=fun j=>(T[j / 2]?).map fun h=>⟨hls (off j) (rSp (sel h j)),t,e⟩
theorem tabV_len {C:Nat} {off:Nat→Nat} {T:List Ho}:(tabV C off T).length=T.length:=by simp [tabV]
theorem at_tabV {C:Nat} {off:Nat→Nat} {T:List Ho} {i:Int} (h0:0≤i) (h1:i<T.length):at_ (tabV C off T) i=hv C off i.toNat (at_ T i):=by
 have hi:i.toNat<T.length:=by omega
 have e:((i.toNat:Nat):Int)=i:=by omega
 unfold at_
 rw [List.getD_eq_getElem?_getD,List.getElem?_eq_getElem (by rw [tabV_len];exact hi)]
 simp only [tabV,List.getElem_map,List.getElem_range,Option.getD_some,e]
 rfl
theorem tabV_ne {C:Nat} {off:Nat→Nat} {T:List Ho} (h:0<T.length):rHv (tabV C off T) ≠ []:=row_ne (n:=2) (fun _=>rfl) (by decide) (by rw [tabV_len];exact h)
theorem rHv_nil {xs:List Hv} (h:rHv xs = []):xs.length=0:=row_nil (n:=2) (fun _=>rfl) (by decide) h
theorem tabV_nil {C:Nat} {off:Nat→Nat} {T:List Ho} (h:rHv (tabV C off T) = []):T.length=0:=by have:=rHv_nil h;rw [tabV_len] at this;exact this
theorem lH0 {C:Nat} {off:Nat→Nat} {T:List Ho} {i:Int} (h0:0≤i) (h1:i<T.length):varV false 1 (rHv (tabV C off T)) (0 + i.toNat * 2 + 0)=some (.slice (some ⟨nm C (2 * i.toNat),off (2 * i.toNat),none⟩) (at_ T i).r.length 0) :=
 row_var (f:=0) (n:=2) (fun _=>rfl) (by omega) h0 (by rw [tabV_len];exact h1) (by rw [at_tabV h0 h1];rfl) rfl
theorem lH1 {C:Nat} {off:Nat→Nat} {T:List Ho} {i:Int} (h0:0≤i) (h1:i<T.length):varV false 1 (rHv (tabV C off T)) (0 + i.toNat * 2 + 1)=some (.slice (some ⟨nm C (2 * i.toNat + 1),off (2 * i.toNat + 1),none⟩) (at_ T i).w.length 0) :=
 row_var (f:=1) (n:=2) (fun _=>rfl) (by omega) h0 (by rw [tabV_len];exact h1) (by rw [at_tabV h0 h1];rfl) rfl
theorem aH {C:Nat} {off:Nat→Nat} {T:List Ho} {i:Int} (h0:0≤i) (h1:i<T.length):varV true 2 (rHv (tabV C off T)) (0 + i.toNat * 2)=some (.agg #[.slice (some ⟨nm C (2 * i.toNat),off (2 * i.toNat),none⟩) (at_ T i).r.length 0,.slice (some ⟨nm C (2 * i.toNat + 1),off (2 * i.toNat + 1),none⟩) (at_ T i).w.length 0]):=by
 have:=row_agg (enc:=eHv) (n:=2) (fun _=>rfl) (by decide) (xs:=tabV C off T) (i:=i) (k:=0 + i.toNat * 2) (by omega) h0 (by rw [tabV_len];exact h1) (by rw [at_tabV h0 h1];rfl)
 rw [this,at_tabV h0 h1]
 rfl
theorem lH0k {C k:Nat} {off:Nat→Nat} {T:List Ho} {i:Int} (h0:0≤i) (h1:i<T.length):varV false 1 (hls k (rHv (tabV C off T))) (k + i.toNat * 2 + 0)=some (.slice (some ⟨nm C (2 * i.toNat),off (2 * i.toNat),none⟩) (at_ T i).r.length 0):=wR (j':=i.toNat * 2 + 0) (lH0 h0 h1) (by omega)
theorem lH1k {C k:Nat} {off:Nat→Nat} {T:List Ho} {i:Int} (h0:0≤i) (h1:i<T.length):varV false 1 (hls k (rHv (tabV C off T))) (k + i.toNat * 2 + 1)=some (.slice (some ⟨nm C (2 * i.toNat + 1),off (2 * i.toNat + 1),none⟩) (at_ T i).w.length 0):=wR (j':=i.toNat * 2 + 1) (lH1 h0 h1) (by omega)
theorem aHk {C k:Nat} {off:Nat→Nat} {T:List Ho} {i:Int} (h0:0≤i) (h1:i<T.length):varV true 2 (hls k (rHv (tabV C off T))) (k + i.toNat * 2)=some (.agg #[.slice (some ⟨nm C (2 * i.toNat),off (2 * i.toNat),none⟩) (at_ T i).r.length 0,.slice (some ⟨nm C (2 * i.toNat + 1),off (2 * i.toNat + 1),none⟩) (at_ T i).w.length 0]):=wR (j':=i.toNat * 2) (aH h0 h1) (by omega)
theorem mem_rHv {xs:List Hv} {v:Value} (h:v ∈ rHv xs):∃ x ∈ xs,v=x.a∨v=x.b:=by
 obtain ⟨x,hx,hv⟩:=List.mem_flatMap.1 h
 refine ⟨x,hx,?_⟩
 simpa [eHv] using hv
theorem mem_tabV {C:Nat} {off:Nat→Nat} {T:List Ho} {v:Value} (h:v ∈ rHv (tabV C off T)):∃ k l,v = .slice (some ⟨nm C k,off k,none⟩) l 0:=by
 obtain ⟨x,hx,hv⟩:=mem_rHv h
 obtain ⟨i,_,rfl⟩:=List.mem_map.1 hx
 rcases hv with rfl|rfl
 ·exact ⟨_,_,rfl⟩
 ·exact ⟨_,_,rfl⟩
theorem tabV_po {C:Nat} {off:Nat→Nat} {T:List Ho} {τ:NMap}:(rHv (tabV C off T)).all (po1 τ)=true:=List.all_eq_true.2 fun v hv=>by
 obtain ⟨k,l,rfl⟩:=mem_tabV hv
 rfl
theorem tabV_ok {C u:Nat} {off:Nat→Nat} {T:List Ho} (hC:C<1000) (hu:C<u):(rHv (tabV C off T)).all (ok1 u)=true:=List.all_eq_true.2 fun v hv=>by
 obtain ⟨k,l,rfl⟩:=mem_tabV hv
 show Nat.blt (nm C k % 1000) u=true
 rw [nm_mod hC,Nat.blt_eq]
 exact hu
theorem rHv_map {f:Value→Value} {xs ys:List Hv} (h:xs.length=ys.length) (e:∀ i,i<xs.length→f (at_ xs (i:Int)).a=(at_ ys (i:Int)).a∧f (at_ xs (i:Int)).b=(at_ ys (i:Int)).b):(rHv xs).map f=rHv ys:=by
 induction xs generalizing ys with
 | nil=>cases ys with
  | nil=>rfl
  | cons y ys=>cases h
 | cons x xs ih =>
  cases ys with
  | nil=>cases h
  | cons y ys =>
   have h0:=e 0 (by simp)
   have h0:f x.a=y.a∧f x.b=y.b:=h0
   have:=ih (ys:=ys) (by simpa using h) fun i hi=>by
    have:=e (i + 1) (by simp;omega)
    simpa [at_] using this
   show List.map f (eHv x ++ rHv xs)=eHv y ++ rHv ys
   rw [List.map_append,this]
   simp [eHv,h0.1,h0.2]
theorem tabV_tn {ts:List (Nat→Option Nat)} {c C:Nat} {off:Nat→Nat} {T:List Ho} (hc:c<1000) (hg:ts[c]?=some (nF C)):(rHv (tabV c off T)).map (tn1 (tm ts))=rHv (tabV C off T):=by
 refine rHv_map (by rw [tabV_len,tabV_len]) fun i hi=>?_
 rw [tabV_len] at hi
 rw [at_tabV (by omega) (by omega),at_tabV (by omega) (by omega)]
 have e:∀ k,tm ts (nm c k)=some (nm C k):=fun k=>tm_nm hc hg
 simp [hv,tn1,e]
theorem map_hls {τ:NMap} {k:Nat} {cs:List Value}:(hls k cs).map (tn1 τ)=hls k (cs.map (tn1 τ)):=by
 unfold hls
 rw [List.map_append,List.map_replicate]
 rfl
theorem hls_po {τ:NMap} {k:Nat} {cs:List Value} (h:cs.all (po1 τ)=true):(hls k cs).all (po1 τ)=true:=by
 unfold hls
 rw [List.all_append,h,Bool.and_true]
 induction k with
 | zero=>rfl
 | succ k ih=>rw [List.replicate_succ,List.all_cons,ih];rfl
theorem aTab {ts:List (Nat→Option Nat)} {h:List (Nat × Bool × Fam)} {rds:List Nat} {b c t t' e e' B C j k:Nat} {off:Nat→Nat} {T:List Ho} {o':Bool} {F':Fam} (hg:ts[b]?=some (nA (nm B j))) (hc:ts[c]?=some (nF C)) (hl:h.lookup B=some (o',F')) (hF:F' j=some ⟨hls k (rHv (tabV C off T)),t',e'⟩) (ht:e=0∨t'=t) (he:e=0∨e'=e∨(77≤e∧e<100∧e' ≠ 0)) (hb:(Nat.blt b 1000 && Nat.blt B 1000 && rds.contains B && Nat.ble t capT)=true) (hcc:Nat.blt c 1000=true):ArgT (tm ts) h rds b (one ⟨hls k (rHv (tabV c off T)),t,e⟩):=by
 rw [Bool.and_eq_true] at hb
 refine aRowN hg (hls_po tabV_po) hl hF ⟨.inl ?_,fun q=>ht.resolve_left q,he,fun _=>.inr (Nat.le_of_ble_eq_true hb.2)⟩ hb.1
 show _=(hls k _).map (tn1 (tm ts))
 rw [map_hls,tabV_tn (of_blt hcc) hc]
theorem inF_flat {off:Nat→Nat} {t e:Nat} {T:List Ho} {k:Nat} {y:Blk} (h:inF off t e T k=some y):y.cs.all flat1=true:=by
 unfold inF at h
 simp only [Option.map_eq_some_iff] at h
 obtain ⟨x,_,rfl⟩:=h
 exact hls_flat (rSp_flat _)
theorem aIn {ts:List (Nat→Option Nat)} {h:List (Nat × Bool × Fam)} {rds:List Nat} {c t t' e e' C:Nat} {off:Nat→Nat} {T:List Ho} {o':Bool} (hg:ts[c]?=some (nF C)) (hl:h.lookup C=some (o',inF off t' e' T)) (ht:e=0∨t'=t) (he:e=0∨e'=e∨(77≤e∧e<100∧e' ≠ 0)) (hb:(Nat.blt c 1000 && Nat.blt C 1000 && rds.contains C && Nat.ble t capT)=true):ArgT (tm ts) h rds c (inF off t e T):=by
 rw [Bool.and_eq_true] at hb
 refine aFam hg hl (fun k x hx=>⟨flat_poL (inF_flat hx),?_⟩) hb.1
 have hf:=inF_flat hx
 unfold inF at hx
 simp only [Option.map_eq_some_iff] at hx
 obtain ⟨y,hy,rfl⟩:=hx
 refine ⟨⟨hls (off k) (rSp (sel y k)),t',e'⟩,by unfold inF;rw [hy];rfl,?_⟩
 rw [tnb_flat hf]
 exact ⟨.inl rfl,fun q=>ht.resolve_left q,he,fun _=>.inr (Nat.le_of_ble_eq_true hb.2)⟩
theorem inF_0 {off:Nat→Nat} {t e:Nat} {T:List Ho} {i:Int} (h0:0≤i) (h1:i<T.length):inF off t e T (2 * i.toNat)=some ⟨hls (off (2 * i.toNat)) (rSp (at_ T i).r),t,e⟩:=by
 have hi:i.toNat<T.length:=by omega
 unfold inF
 rw [show 2 * i.toNat / 2=i.toNat by omega,List.getElem?_eq_getElem hi,at_nat h0 h1]
 simp [sel]
theorem inF_1 {off:Nat→Nat} {t e:Nat} {T:List Ho} {i:Int} (h0:0≤i) (h1:i<T.length):inF off t e T (2 * i.toNat + 1)=some ⟨hls (off (2 * i.toNat + 1)) (rSp (at_ T i).w),t,e⟩:=by
 have hi:i.toNat<T.length:=by omega
 unfold inF
 rw [show (2 * i.toNat + 1) / 2=i.toNat by omega,List.getElem?_eq_getElem hi,at_nat h0 h1]
 simp [sel,show (2 * i.toNat + 1) % 2=1 by omega]
theorem nX_C {C i a b k:Nat} (h:k ≠ i) (h':k ≠ i + 1):nX C i a b k=some (nm C k):=by unfold nX;rw [if_neg h,if_neg h']
theorem nX_a {C i a b:Nat}:nX C i a b i=some a:=if_pos rfl
theorem nX_b {C i a b:Nat}:nX C i a b (i + 1)=some b:=by unfold nX;rw [if_neg (by omega),if_pos rfl]
theorem re_fold {r u1 u2 C C' i a b:Nat} {ms:List Nat} {t1 t2:List (Nat × Value)} {h1 h2:List (Nat × Bool × Fam)} (hr:(Nat.ble r u2 && Nat.ble r C && Nat.blt C 1000)=true) (ht:KeepTT (tmG ms C (nX C' i a b)) u2 t1 t2) (hh:KeepHT (tmG ms C (nX C' i a b)) u2 h1 h2)
  (hi:(h2.all fun x=>h2.all fun y=>x.1 == C || y.1 == C || !(mp ms x.1 == mp ms y.1) || x.1 == y.1)=true) (hlt:(h2.all fun x=>Nat.blt (mp ms x.1) 1000)=true) (hm:∀ b,b<r→mp ms b=b) (hnd:nodB (h2.map (·.1))=true)
  (hck:((h2.all fun y=>y.1 == C || (!(mp ms y.1 == a) && !(mp ms y.1 == b) && !(mp ms y.1 == C'))) && !(a == b) && !(a == C') && !(b == C') && Nat.blt a 1000 && Nat.blt b 1000 && Nat.blt C' 1000)=true):Re r ⟨u2,t2,h2⟩ ⟨u1,t1,h1⟩:=by
 simp only [Bool.and_eq_true,List.all_eq_true,Bool.or_eq_true,Bool.not_eq_true',beq_eq_false_iff_ne,beq_iff_eq] at hck
 obtain ⟨⟨⟨⟨⟨⟨c1,c2⟩,c3⟩,c4⟩,c5⟩,c6⟩,c7⟩:=hck
 have c5:=of_blt c5
 have c6:=of_blt c6
 have c7:=of_blt c7
 refine re_mk hr ht hh hi hlt hm (fun x hx ex=>⟨fun k k' n' _ _ q1 q2=>?_,fun k n' _ q y hy hy' k' _ e=>?_⟩) hnd
 ·have na:∀ k,nm C' k ≠ a:=fun k e=>by unfold nm at e;omega
  have nb:∀ k,nm C' k ≠ b:=fun k e=>by unfold nm at e;omega
  unfold nX at q1 q2
  split at q1 <;> split at q2
  ·omega
  ·cases q1
   split at q2
   ·cases q2;exact absurd rfl c2
   ·exact absurd (Option.some.inj q2) (na _)
  ·cases q2
   split at q1
   ·cases q1;exact absurd rfl c2
   ·exact absurd (Option.some.inj q1) (na _)
  ·split at q1 <;> split at q2
   ·omega
   ·cases q1;exact absurd (Option.some.inj q2) (nb _)
   ·cases q2;exact absurd (Option.some.inj q1) (nb _)
   ·rw [← q2] at q1
    exact (nm_inj c7 c7 (Option.some.inj q1)).2
 ·subst e
  obtain ⟨⟨d1,d2⟩,d3⟩:=(c1 y hy).resolve_left hy'
  have hy1:=of_blt (List.all_eq_true.1 hlt y hy)
  unfold nX at q
  split at q
  ·have:=Option.some.inj q;unfold nm at this;omega
  ·split at q
   ·have:=Option.some.inj q;unfold nm at this;omega
   ·exact d3 (nm_inj c7 hy1 (Option.some.inj q)).1.symm
theorem re_nil {r u1 u2 C:Nat} {ms:List Nat} {t1 t2:List (Nat × Value)} {h1 h2:List (Nat × Bool × Fam)} (hr:(Nat.ble r u2 && Nat.ble r C && Nat.blt C 1000)=true) (ht:KeepTT (tmG ms C nN) u2 t1 t2) (hh:KeepHT (tmG ms C nN) u2 h1 h2)
  (hi:(h2.all fun x=>h2.all fun y=>x.1 == C || y.1 == C || !(mp ms x.1 == mp ms y.1) || x.1 == y.1)=true) (hlt:(h2.all fun x=>Nat.blt (mp ms x.1) 1000)=true) (hm:∀ b,b<r→mp ms b=b) (hnd:nodB (h2.map (·.1))=true):Re r ⟨u2,t2,h2⟩ ⟨u1,t1,h1⟩ :=
 re_mk hr ht hh hi hlt hm (fun x hx ex=>⟨fun k k' n' _ _ q1 _=>(by cases q1),fun k n' _ q=>(by cases q)⟩) hnd
theorem kPutC {ms:List Nat} {C C' u2 i a b t e e1 ea eb:Nat} {h1:List (Nat × Bool × Fam)} {o o1 oa ob:Bool} {T1 T2:List Ho} {ra rb:List Sp} (hd:∀ j,j ≠ i→T2[j]? ≠ none→T1[j]?=T2[j]?) (hi:T2[i]?=some ⟨ra,rb⟩)
  (hl:h1.lookup C'=some (o1,inF zo t e1 T1)) (ha:h1.lookup a=some (oa,one ⟨rSp ra,t,ea⟩)) (hb:h1.lookup b=some (ob,one ⟨rSp rb,t,eb⟩)) (he:e=0∨((e1=e∨(77≤e∧e<100∧e1 ≠ 0))∧(ea=e∨(77≤e∧e<100∧ea ≠ 0))∧(eb=e∨(77≤e∧e<100∧eb ≠ 0))))
  (ho:o=true→o1=true∧oa=true∧ob=true) (hck:(Nat.blt C u2 && Nat.blt C 1000 && Nat.blt C' 1000 && Nat.blt a 1000 && Nat.blt b 1000 && Nat.ble t capT)=true):KeepBT (tmG ms C (nX C' (2 * i) a b)) u2 h1 C o (inF zo t e T2):=by
 simp only [Bool.and_eq_true] at hck
 obtain ⟨⟨⟨⟨⟨k1,k2⟩,k3⟩,k4⟩,k5⟩,k6⟩:=hck
 have k3:=of_blt k3
 have k4:=of_blt k4
 have k5:=of_blt k5
 have w:∀ {cs:List Value} {e':Nat},e=0∨e'=e∨(77≤e∧e<100∧e' ≠ 0)→BlkW ⟨cs,t,e⟩ ⟨cs,t,e'⟩:=fun h=>⟨.inl rfl,fun _=>rfl,h,fun _=>.inr (Nat.le_of_ble_eq_true k6)⟩
 refine ktC (fun k y hy=>inF_flat hy) (fun k y hy=>?_) (by rw [k1,k2];rfl)
 have hy0:=hy
 unfold inF at hy
 simp only [Option.map_eq_some_iff] at hy
 obtain ⟨x,hx,rfl⟩:=hy
 refine ⟨fun q=>?_,fun n' q=>?_⟩
 ·unfold nX at q
  split at q
  ·cases q
  ·split at q <;> cases q
 ·unfold nX at q
  split at q
  ·cases q
   rename_i hk
   subst hk
   rw [show 2 * i / 2=i by omega,hi] at hx
   cases hx
   refine ⟨oa,_,_,by rw [Nat.mod_eq_of_lt k4];exact ha,by rw [Nat.div_eq_of_lt k4];rfl,?_,fun q=>(ho q).2.1⟩
   have:sel ⟨ra,rb⟩ (2 * i)=ra:=by simp [sel]
   rw [this]
   exact w (he.imp id fun q=>q.2.1)
  ·split at q
   ·cases q
    rename_i hk
    subst hk
    rw [show (2 * i + 1) / 2=i by omega,hi] at hx
    cases hx
    refine ⟨ob,_,_,by rw [Nat.mod_eq_of_lt k5];exact hb,by rw [Nat.div_eq_of_lt k5];rfl,?_,fun q=>(ho q).2.2⟩
    have:sel ⟨ra,rb⟩ (2 * i + 1)=rb:=by simp [sel]
    rw [this]
    exact w (he.imp id fun q=>q.2.2)
   ·cases q
    rename_i h1 h2
    have hne:k / 2 ≠ i:=fun q=>by omega
    have e1:=hd (k / 2) hne (by rw [hx];exact Option.some_ne_none _)
    rw [hx] at e1
    refine ⟨o1,_,⟨hls (zo k) (rSp (sel x k)),t,_⟩,by rw [nm_mod k3];exact hl,by rw [nm_div k3];unfold inF;rw [e1];rfl,w (he.imp id fun q=>q.1),fun q=>(ho q).1⟩
theorem hls_okL {u k:Nat} {cs:List Value} (h:cs.all (ok1 u)=true):(hls k cs).all (ok1 u)=true:=by
 unfold hls
 rw [List.all_append,h,Bool.and_true]
 induction k with
 | zero=>rfl
 | succ k ih=>rw [List.replicate_succ,List.all_cons,ih];rfl
theorem tabV_rn {m:Nat→Nat} {C:Nat} {off:Nat→Nat} {T:List Ho} (hC:C<1000):(rHv (tabV C off T)).map (rn1 m)=rHv (tabV (m C) off T):=by
 refine rHv_map (by rw [tabV_len,tabV_len]) fun i hi=>?_
 rw [tabV_len] at hi
 rw [at_tabV (by omega) (by omega),at_tabV (by omega) (by omega)]
 simp [hv,rn1,rnN_nm hC]
theorem det_tab {C u k0 t e k:Nat} {off:Nat→Nat} {T:List Ho} {y:Blk} (hC:(Nat.blt C 1000 && Nat.blt C u)=true) (h:one ⟨hls k0 (rHv (tabV C off T)),t,e⟩ k=some y):DetB (lt u) y:=by
 rw [Bool.and_eq_true] at hC
 obtain ⟨rfl,rfl⟩:=one_some h
 exact fun ρ ρ' hρ=>okL_det (hls_okL (tabV_ok (of_blt hC.1) (of_blt hC.2))) hρ
theorem det_in {u t e k:Nat} {off:Nat→Nat} {T:List Ho} {y:Blk} (h:inF off t e T k=some y):DetB (lt u) y:=fun ρ ρ' hρ=>okL_det (flat_okL (inF_flat h)) hρ
theorem asTab {m:Nat→Nat} {u C C' j t e:Nat} {T:List Ho} {h:List (Nat × Bool × Fam)} (hl:h.lookup j=some (true,one ⟨rHv (tabV C' zo T),t,e⟩)) (hm:m C=C') (hC:(Nat.blt C 1000 && Nat.blt C u)=true):h.lookup j=some (true,rnF m (one ⟨rHv (tabV C zo T),t,e⟩))∧∀ k y,one ⟨rHv (tabV C zo T),t,e⟩ k=some y→DetB (lt u) y:=by
 have h1:=hC
 rw [Bool.and_eq_true] at h1
 refine ⟨?_,fun k y h=>det_tab (k0:=0) hC h⟩
 rw [hl,rnF_one]
 simp only [Blk.rn]
 rw [tabV_rn (of_blt h1.1),hm]
theorem rnF_in {m:Nat→Nat} {t e:Nat} {off:Nat→Nat} {T:List Ho}:rnF m (inF off t e T)=inF off t e T:=by
 funext k
 unfold rnF
 cases h:inF off t e T k with
 | none=>rfl
 | some y =>
  obtain ⟨cs,t',e'⟩:=y
  show some _=_
  rw [rnb_flat (inF_flat h)]
theorem asIn {m:Nat→Nat} {u j t e:Nat} {off:Nat→Nat} {T:List Ho} {h:List (Nat × Bool × Fam)} (hl:h.lookup j=some (true,inF off t e T)):h.lookup j=some (true,rnF m (inF off t e T))∧∀ k y,inF off t e T k=some y→DetB (lt u) y:=⟨by rw [rnF_in];exact hl,fun k y h=>det_in h⟩
theorem asFlat {m:Nat→Nat} {u j t e:Nat} {cs:List Value} {h:List (Nat × Bool × Fam)} (hl:h.lookup j=some (true,one ⟨cs,t,e⟩)) (hf:cs.all flat1=true):h.lookup j=some (true,rnF m (one ⟨cs,t,e⟩))∧∀ k y,one ⟨cs,t,e⟩ k=some y→DetB (lt u) y:=⟨by rw [rnF_flat hf];exact hl,fun k y h=>det_row hf h⟩
theorem ktTab {ms:List Nat} {C u2 b D D' k t e e':Nat} {g:Nat→Option Nat} {h1:List (Nat × Bool × Fam)} {o o':Bool} {off:Nat→Nat} {T:List Ho} (hl:h1.lookup (mp ms b)=some (o',one ⟨hls k (rHv (tabV D' off T)),t,e'⟩)) (hD:mp ms D=D') (he:e=0∨e'=e∨(77≤e∧e<100∧e' ≠ 0)) (ho:o=true→o'=true) (hb:(Nat.blt b u2 && Nat.blt b 1000 && Nat.blt (mp ms b) 1000 && !(b == C))=true) (hd:(Nat.blt D u2 && Nat.blt D 1000 && !(D == C) && Nat.ble t capT)=true):KeepBT (tmG ms C g) u2 h1 b o (one ⟨hls k (rHv (tabV D off T)),t,e⟩):=by
 simp only [Bool.and_eq_true,Bool.not_eq_true',beq_eq_false_iff_ne] at hd
 obtain ⟨⟨⟨d1,d2⟩,d3⟩,d4⟩:=hd
 have d2:=of_blt d2
 refine ktRow hl (hls_po tabV_po) (hls_okL (tabV_ok d2 (of_blt d1))) ⟨.inl ?_,fun _=>rfl,he,fun _=>.inr (Nat.le_of_ble_eq_true d4)⟩ ho hb
 show _=(hls k _).map (tn1 _)
 rw [map_hls]
 refine congrArg (hls k) (Eq.symm (rHv_map (by rw [tabV_len,tabV_len]) fun i hi=>?_))
 rw [tabV_len] at hi
 rw [at_tabV (by omega) (by omega),at_tabV (by omega) (by omega)]
 have e:∀ k,tmG ms C g (nm D k)=some (nm D' k):=fun k=>by rw [tmG_o d2 d3,hD]
 simp [hv,tn1,e]
theorem ktTabC {ms:List Nat} {C C' u2 i a b' b t e e':Nat} {h1:List (Nat × Bool × Fam)} {o o':Bool} {T:List Ho} {xs:List Hv} (hl:h1.lookup (mp ms b)=some (o',one ⟨rHv xs,t,e'⟩)) (hx:xs.length=T.length) (hi:i<T.length→at_ xs (i:Int)=⟨.slice (some ⟨a,0,none⟩) (at_ T (i:Int)).r.length 0,.slice (some ⟨b',0,none⟩) (at_ T (i:Int)).w.length 0⟩) (hj:∀ j:Nat,j<T.length→j ≠ i→at_ xs (j:Int)=hv C' zo j (at_ T (j:Int)))
  (he:e=0∨e'=e∨(77≤e∧e<100∧e' ≠ 0)) (ho:o=true→o'=true) (hb:(Nat.blt b u2 && Nat.blt b 1000 && Nat.blt (mp ms b) 1000 && !(b == C))=true) (hd:(Nat.blt C u2 && Nat.blt C 1000 && Nat.ble t capT)=true):KeepBT (tmG ms C (nX C' (2 * i) a b')) u2 h1 b o (one ⟨rHv (tabV C zo T),t,e⟩):=by
 simp only [Bool.and_eq_true] at hd
 obtain ⟨⟨d1,d2⟩,d4⟩:=hd
 have d2:=of_blt d2
 refine ktRow hl tabV_po (tabV_ok d2 (of_blt d1)) ⟨.inl ?_,fun _=>rfl,he,fun _=>.inr (Nat.le_of_ble_eq_true d4)⟩ ho hb
 show _=(rHv _).map (tn1 _)
 symm
 refine rHv_map (by rw [tabV_len,hx]) fun j h=>?_
 rw [tabV_len] at h
 rw [at_tabV (by omega) (by omega)]
 by_cases hji:j=i
 ·subst hji
  rw [hi h]
  have e1:tmG ms C (nX C' (2 * j) a b') (nm C (2 * j))=some a:=by rw [tmG_C d2];exact nX_a
  have e2:tmG ms C (nX C' (2 * j) a b') (nm C (2 * j + 1))=some b':=by rw [tmG_C d2];exact nX_b
  simp [hv,tn1,e1,e2]
 ·rw [hj j h hji]
  have e1:tmG ms C (nX C' (2 * i) a b') (nm C (2 * j))=some (nm C' (2 * j)):=by rw [tmG_C d2];exact nX_C (by omega) (by omega)
  have e2:tmG ms C (nX C' (2 * i) a b') (nm C (2 * j + 1))=some (nm C' (2 * j + 1)):=by rw [tmG_C d2];exact nX_C (by omega) (by omega)
  simp [hv,tn1,e1,e2]
theorem ktTabN {ms:List Nat} {C u2 b n t e e':Nat} {h1:List (Nat × Bool × Fam)} {o o':Bool} {T:List Ho} (hl:h1.lookup (mp ms b)=some (o',one ⟨rHv (List.replicate n default),t,e'⟩)) (hT:T=List.replicate n default) (he:e=0∨e'=e∨(77≤e∧e<100∧e' ≠ 0)) (ho:o=true→o'=true) (hb:(Nat.blt b u2 && Nat.blt b 1000 && Nat.blt (mp ms b) 1000 && !(b == C))=true) (hd:(Nat.blt C u2 && Nat.blt C 1000 && Nat.ble t capT)=true):KeepBT (tmG ms C nN) u2 h1 b o (one ⟨rHv (tabV C zo T),t,e⟩):=by
 subst hT
 simp only [Bool.and_eq_true] at hd
 obtain ⟨⟨d1,d2⟩,d4⟩:=hd
 have d2:=of_blt d2
 refine ktRow hl tabV_po (tabV_ok d2 (of_blt d1)) ⟨.inl ?_,fun _=>rfl,he,fun _=>.inr (Nat.le_of_ble_eq_true d4)⟩ ho hb
 show _=(rHv _).map (tn1 _)
 symm
 refine rHv_map (by rw [tabV_len];simp) fun j h=>?_
 rw [tabV_len,List.length_replicate] at h
 rw [at_tabV (by omega) (by simp;omega)]
 have e1:∀ k,tmG ms C nN (nm C k)=none:=fun k=>tmG_C d2
 have e2:at_ (List.replicate n (default:Hv)) (j:Int)=⟨.slice none 0 0,.slice none 0 0⟩:=by simp only [at_,Int.toNat_natCast,List.getD_eq_getElem?_getD,List.getElem?_replicate,if_pos h];rfl
 rw [e2]
 simp [hv,tn1,e1]
theorem ktInN {ms:List Nat} {C u2 n t e:Nat} {h1:List (Nat × Bool × Fam)} {o:Bool} {T:List Ho} (hT:T=List.replicate n default) (he:e<100) (hd:(Nat.blt C u2 && Nat.blt C 1000)=true):KeepBT (tmG ms C nN) u2 h1 C o (inF zo t e T):=by
 subst hT
 refine ktC (fun k y hy=>inF_flat hy) (fun k y hy=>⟨fun _=>?_,fun n' q=>by cases q⟩) hd
 unfold inF at hy
 simp only [Option.map_eq_some_iff,List.getElem?_replicate] at hy
 obtain ⟨x,hx,rfl⟩:=hy
 split at hx
 ·cases hx
  refine ⟨?_,he⟩
  have:sel (default:Ho) k = []:=by unfold sel;split <;> rfl
  rw [this]
  rfl
 ·cases hx
theorem ktC1 {ms:List Nat} {C u2 t e:Nat} {h1:List (Nat × Bool × Fam)} {o:Bool} {cs:List Value} (hc:cs = []) (he:e<100) (hd:(Nat.blt C u2 && Nat.blt C 1000)=true):KeepBT (tmG ms C nN) u2 h1 C o (one ⟨cs,t,e⟩):=by
 subst hc
 refine ktC (fun k y hy=>?_) (fun k y hy=>⟨fun _=>?_,fun n' q=>(by cases q)⟩) hd
 ·obtain ⟨rfl,rfl⟩:=one_some hy;rfl
 ·obtain ⟨rfl,rfl⟩:=one_some hy;exact ⟨rfl,he⟩
theorem ktIn {ms:List Nat} {C u2 b t e:Nat} {g:Nat→Option Nat} {h1:List (Nat × Bool × Fam)} {o o':Bool} {off:Nat→Nat} {T:List Ho} (hl:h1.lookup (mp ms b)=some (o',inF off t e T)) (ho:o=true→o'=true) (hb:(Nat.blt b u2 && Nat.blt b 1000 && Nat.blt (mp ms b) 1000 && !(b == C))=true):KeepBT (tmG ms C g) u2 h1 b o (inF off t e T):=ktFam (fun k y hy=>inF_flat hy) hl ho hb
theorem rTab {ts:List (Nat→Option Nat)} {b c b' C t e:Nat} {T:List Ho} (hg:ts[b]?=some (nF c)) (hc:ts[b']?=some (nF C)) (hb:Nat.blt b' 1000=true):ts[b]?=some (nF c)∧∀ k z,one ⟨rHv (tabV C zo T),t,e⟩ k=some z→∃ z0,one ⟨rHv (tabV b' zo T),t,e⟩ k=some z0∧z=z0.tn (tm ts)∧z0.cs.all (po1 (tm ts))=true:=by
 refine ⟨hg,fun k z hz=>?_⟩
 obtain ⟨rfl,rfl⟩:=one_some hz
 refine ⟨_,rfl,?_,tabV_po⟩
 show _=Blk.mk ((rHv (tabV b' zo T)).map (tn1 (tm ts))) t e
 rw [tabV_tn (of_blt hb) hc]
theorem rIn {ts:List (Nat→Option Nat)} {b c t e:Nat} {off:Nat→Nat} {T:List Ho} (hg:ts[b]?=some (nF c)):ts[b]?=some (nF c)∧∀ k z,inF off t e T k=some z→∃ z0,inF off t e T k=some z0∧z=z0.tn (tm ts)∧z0.cs.all (po1 (tm ts))=true:=by
 refine ⟨hg,fun k z hz=>⟨z,hz,?_,flat_poL (inF_flat hz)⟩⟩
 obtain ⟨cs,t',e'⟩:=z
 rw [tnb_flat (inF_flat hz)]
theorem tab_put {xs:List Hv} {i k:Nat} {va vb:Value} (hk:k=i * 2) (hi:i<xs.length):putL (rHv xs) k (cellsL (.agg #[va,vb]))=rHv (xs.set i ⟨va,vb⟩):=by
 rw [hk]
 exact rowL_set (enc:=eHv) (n:=2) (fun _=>rfl) xs i ⟨va,vb⟩ hi
theorem at_of {α:Type} [Inhabited α] {xs:List α} {i:Nat} {x:α} (h:xs[i]?=some x):at_ xs (i:Int)=x:=by
 unfold at_
 rw [List.getD_eq_getElem?_getD,Int.toNat_natCast,h]
 rfl
theorem at_set_self {α:Type} [Inhabited α] {xs:List α} {i:Nat} {x:α} (h:i<xs.length):at_ (xs.set i x) (i:Int)=x:=at_of (by rw [List.getElem?_set_self h])
theorem at_set_ne {α:Type} [Inhabited α] {xs:List α} {i j:Nat} {x:α} (h:i ≠ j):at_ (xs.set j x) (i:Int)=at_ xs (i:Int):=by
 unfold at_
 simp only [List.getD_eq_getElem?_getD,Int.toNat_natCast]
 rw [List.getElem?_set_ne (by omega)]
theorem rig_of {m:Nat→Nat} {r:Nat} (h:((List.range r).all fun b=>m b == b)=true):∀ b,b<r→m b=b:=fun b hb=>by
 simpa using List.all_eq_true.1 h b (List.mem_range.2 hb)
theorem row_snoc {α:Type} {enc:α→List Value} {xs:List α} {x:α}:rowL enc xs ++ enc x=rowL enc (xs ++ [x]):=by simp [rowL]
theorem plL_ne {f:Nat→Bool}:plL f ≠ []:=fun e=>by have:=plL_len f;rw [e] at this;cases this
theorem eqSl {a:Addr} {n n' c:Nat} (h:n'=n):some (Value.slice (some a) n c)=some (.slice (some a) n' c):=by rw [h]
def ofStep (f:Nat→Bool) (out:List Sp) (i:Nat):List Sp :=
 if f i=true then (if (out.length:Int) > 0∧(at_ out ((out.length:Int) - 1)).hi=(i:Int) then out.set ((out.length:Int) - 1).toNat ⟨(at_ out ((out.length:Int) - 1)).lo,(i:Int) + 1⟩ else out ++ [⟨(i:Int),(i:Int) + 1⟩]) else out
def l1ofL (f:Nat→Bool):Nat→List Sp
 | 0=>[]
 | j + 1=>ofStep f (l1ofL f j) j
abbrev l1ofP (f:Nat→Bool):List Sp:=l1ofL f 48
theorem ofL_len {f:Nat→Bool}:∀ j,(l1ofL f j).length≤j
 | 0=>Nat.le_refl _
 | j + 1=>by
  have:=ofL_len (f:=f) j
  unfold l1ofL ofStep
  split
  ·split
   ·rw [List.length_set];omega
   ·simp;omega
  ·omega
theorem ofL_a {f:Nat→Bool} {j:Nat} (h:f j=false):l1ofL f (j + 1)=l1ofL f j:=by
 show ofStep f (l1ofL f j) j=_
 unfold ofStep
 rw [if_neg (by rw [h];decide)]
theorem ofL_b {f:Nat→Bool} {j:Nat} (h:f j=true) (h1:((l1ofL f j).length:Int) > 0) (h2:(at_ (l1ofL f j) (((l1ofL f j).length:Int) - 1)).hi=(j:Int)):l1ofL f (j + 1)=(l1ofL f j).set (((l1ofL f j).length:Int) - 1).toNat ⟨(at_ (l1ofL f j) (((l1ofL f j).length:Int) - 1)).lo,(j:Int) + 1⟩:=by
 show ofStep f (l1ofL f j) j=_
 unfold ofStep
 rw [if_pos h,if_pos ⟨h1,h2⟩]
theorem ofL_c {f:Nat→Bool} {j:Nat} (h:f j=true) (h1:¬ (((l1ofL f j).length:Int) > 0∧(at_ (l1ofL f j) (((l1ofL f j).length:Int) - 1)).hi=(j:Int))):l1ofL f (j + 1)=l1ofL f j ++ [⟨(j:Int),(j:Int) + 1⟩]:=by
 show ofStep f (l1ofL f j) j=_
 unfold ofStep
 rw [if_pos h,if_neg h1]
theorem last_snoc {out:List Sp} {x:Sp}:at_ (out ++ [x]) (((out ++ [x]).length:Int) - 1)=x:=by
 have:(((out ++ [x]).length:Int) - 1).toNat=out.length:=by simp
 unfold at_
 rw [this,List.getD_eq_getElem?_getD,List.getElem?_append_right (Nat.le_refl _),Nat.sub_self]
 rfl
theorem set_snoc {out:List Sp} {x y:Sp}:(out ++ [x]).set (((out ++ [x]).length:Int) - 1).toNat y=out ++ [y]:=by
 have:(((out ++ [x]).length:Int) - 1).toNat=out.length:=by simp
 rw [this,List.set_append_right _ _ (Nat.le_refl _),Nat.sub_self]
 rfl
theorem ofL_run {f:Nat→Bool} {a:Nat} (hl:∀ s ∈ l1ofL f a,s.hi<(a:Int)):∀ n,(∀ x,a≤x→x<a + (n + 1)→f x=true)→l1ofL f (a + (n + 1))=l1ofL f a ++ [⟨(a:Int),((a + (n + 1):Nat):Int)⟩]
 | 0,h=>by
  rw [ofL_c (h a (Nat.le_refl _) (by omega)) fun hc=>?_]
  ·rfl
  ·have:at_ (l1ofL f a) (((l1ofL f a).length:Int) - 1) ∈ l1ofL f a:=at_mem (by omega) (by omega)
   have:=hl _ this
   omega
 | n + 1,h=>by
  have ih:=ofL_run hl n fun x h0 h1=>h x h0 (by omega)
  show l1ofL f ((a + (n + 1)) + 1)=_
  rw [ofL_b (h (a + (n + 1)) (by omega) (by omega)) (by rw [ih];simp) (by rw [ih,last_snoc]),ih,last_snoc,set_snoc]
  rfl
theorem l1ofL_congr {f g:Nat→Bool}:∀ j,(∀ i,i<j→f i=g i)→l1ofL f j=l1ofL g j
 | 0,_=>rfl
 | j + 1,h=>by
  unfold l1ofL
  rw [l1ofL_congr j fun i hi=>h i (by omega)]
  unfold ofStep
  rw [h j (by omega)]
def plT (f:Nat→Bool) (j:Nat):List Value:=(List.range j).map fun i=>.bool (f i)
theorem plT_flat (f:Nat→Bool) (j:Nat):(plT f j).all flat1=true:=by simp [plT,flat1]
theorem plT_len {f:Nat→Bool} {j:Nat}:(plT f j).length=j * 1:=by simp [plT]
theorem plT_snoc {f:Nat→Bool} {j:Nat}:plT f j ++ [.bool (f j)]=plT f (j + 1):=by simp [plT,List.range_succ]
theorem cut_end {l:List Sp} {s:Sp} {b:Bool} {i:Int} (hi:¬ i<s.hi) (h0:0≤s.lo):l1ofP (fillTo (fun x=>l1In l (x:Int)) s.lo i s.hi b)=l1ofP (putP (ofP l) (ofP [s]) b):=l1ofL_congr 48 fun x _=>by
 unfold fillTo putP
 have:ofP [s] x=inSp s x:=by simp [ofP]
 rw [this,ofP_in]
 by_cases h:s.lo≤(x:Int)∧(x:Int)<s.hi
 ·rw [if_pos (by omega),if_pos (inSp_of h.1 h.2)]
 ·rw [if_neg (by omega),if_neg (by rw [inSp_no h];decide)]
theorem spans_run {f:Nat→Bool} {i i2:Nat} (hi:i<48) (h2:i2≤48) (hr:∀ x,i≤x→x<i2→f x=true) (hlt:i<i2) (hs:i2=48∨f i2=false) (hl:∀ s ∈ l1ofL f (min i 48),s.hi<(i:Int)):l1ofL f (min (i2 + 1) 48)=l1ofL f (min i 48) ++ [⟨(i:Int),(i2:Int)⟩]:=by
 rw [show min i 48=i by omega] at hl ⊢
 have h:=ofL_run hl (i2 - i - 1) fun x h0 h1=>hr x h0 (by omega)
 rw [show i + (i2 - i - 1 + 1)=i2 by omega] at h
 rcases hs with rfl|hs
 ·exact h
 ·by_cases e:i2=48
  ·subst e;exact h
  ·rw [show min (i2 + 1) 48=i2 + 1 by omega,ofL_a hs,h]
theorem spans_hi {f:Nat→Bool} {i i2:Nat} (hlt:i<i2) (e:l1ofL f (min (i2 + 1) 48)=l1ofL f (min i 48) ++ [⟨(i:Int),(i2:Int)⟩]) (hl:∀ s ∈ l1ofL f (min i 48),s.hi<(i:Int)):∀ s ∈ l1ofL f (min (i2 + 1) 48),s.hi<((i2 + 1:Nat):Int):=fun s hs=>by
 rw [e] at hs
 rcases List.mem_append.1 hs with hs|hs
 ·have:=hl s hs;omega
 ·rw [List.mem_singleton] at hs;subst hs;simp only;omega
theorem spans_skip {f:Nat→Bool} {i:Nat} (hi:(i:Int)<48) (h:f i=false):l1ofL f (min (i + 1) 48)=l1ofL f (min i 48):=by
 rw [show min (i + 1) 48=i + 1 by omega,show min i 48=i by omega,ofL_a h]
theorem spans_more {f:Nat→Bool} {i i2:Nat} (hr:∀ x,i≤x→x<i2→f x=true) (h:f i2=true):∀ x,i≤x→x<i2 + 1→f x=true:=fun x h0 h1=>by
 by_cases e:x=i2
 ·rw [e];exact h
 ·exact hr x h0 (by omega)
section
variable {P:Program} {nt:Nat} {ops:Array Oper} {draw:Bool} {rest:List Oper} {u d:Nat} {t:List (Nat × Value)} {h:List (Nat × Bool × Fam)} {acc:List Eff} {K:St→Prop} {o:Oper}
theorem gEqPn {ty yt e:TypeId} {x y:Operand} {f g:Nat→Bool} (hw:wantT (tl t) ops o) (hop:o.op = .binOp .neq ty x y yt) (hu:P.underlying ty=some (.array 48 e)) (he:P.underlying e=some .bool) (hz:szP P e=some 1) (ha:aggP P e=some false) (hq:P.eqGuardType P.depth ty=false) (hx:ev t x=some (vPl f)) (hy:ev t y=some (vPl g)) (hs:o.dst=some d) (hn:Nat.blt d nt=true)
  (k:RG P nt ops draw rest ⟨u,(d,.bool (!eqP f g)) :: t,h⟩ (acc ++ [{ v:=.bool (!eqP f g) }]) K):RG P nt ops draw (o :: rest) ⟨u,t,h⟩ acc K:=by
 refine gV (does_flat hw rfl fun ρ ac w ht hah=>?_) hs hn k
 have e1:ac.eval x = .agg (plL f).toArray:=(ev_sound (ρ:=ρ) (by rw [hop];simp [Op.operands]) ht hx).trans (r3_flat (vPl_flat f))
 have e2:ac.eval y = .agg (plL g).toArray:=(ev_sound (ρ:=ρ) (by rw [hop];simp [Op.operands]) ht hy).trans (r3_flat (vPl_flat g))
 have e3:=run_eqArr (P:=P) (w:=w) hu he hz ha (plL f).toArray (plL g).toArray (fun i hi=>plL_get hi) (fun i hi=>plL_get hi)
 have e4:(eqGuard .neq ty x y (.agg (plL f).toArray) (.agg (plL g).toArray)).run P w = .ok () w:=by
  simp [eqGuard,program,Sem.run_bind,Sem.run_pure,Sem.run,hq]
 simp only [execOp,hop,e1,e2,Sem.run_bind,e4,Result.andThen_ok,binOp,e3,Sem.run_pure]
 rfl
end
theorem at_ne {α:Type} [Inhabited α] {a b:List α} {j:Nat} (h:at_ a (j:Int) ≠ at_ b (j:Int)):a ≠ b:=fun e=>h (by rw [e])
theorem len_ne {α:Type} {a b:List α} (h:(a.length:Int) ≠ b.length):a ≠ b:=fun e=>h (by rw [e])
end Go.Proofs.Ytbgehlihpkefmaa.A
namespace Go.Proofs.Ytbgehlihpkefmaa.A
open Go Go.RowKit
set_option maxHeartbeats 4000000
theorem impl_SpanOk_c (s:Sp):FDoes Try.prog 52 [vSp s] (hp []) { v:=.bool (spanOk s) }:=by
 have hm:Try.prog.follows .mixedOrders=true:=by kernel_rfl
 have hd_:∀ x ∈ ([]:List (Nat × Bool × Fam)),∀ k y,x.2.2 k=some y→DetB (lt 0) y:=fun x_ hx=>(by cases hx)
 refine fn_exact (u0:=0) Try.func52 rfl rfl (gets rfl rfl rfl hd_ rfl) ?_
 clear hd_
 refine vc_seq ?_
 refine vc_region hm ?_
 refine gB (u':=1) trivial rfl rfl rfl rfl rfl rfl rfl rfl ?_
 refine gM trivial (.inr rfl) rfl rfl rfl ?_
 refine rg_nil nofun ?_
 refine vc_seq ?_
 refine vc_region hm ?_
 refine gF trivial rfl rfl rfl rfl rfl ?_
 refine gL trivial rfl rfl rfl rfl rfl rfl rfl rfl ?_
 refine gI trivial rfl rfl rfl rfl rfl rfl ?_
 refine gM trivial (.inl rfl) rfl rfl rfl ?_
 refine gI2 (d:=6) rfl (fun c6=>?_) (fun c6=>?_)
 ·skip
  have p6:=of_decide_eq_true c6
  refine gF ⟨_,_,rfl,rfl,c6⟩ rfl rfl rfl rfl rfl ?_
  refine gL ⟨_,_,rfl,rfl,c6⟩ rfl rfl rfl rfl rfl rfl rfl rfl ?_
  refine gF ⟨_,_,rfl,rfl,c6⟩ rfl rfl rfl rfl rfl ?_
  refine gL ⟨_,_,rfl,rfl,c6⟩ rfl rfl rfl rfl rfl rfl rfl rfl ?_
  refine gI ⟨_,_,rfl,rfl,c6⟩ rfl rfl rfl rfl rfl rfl ?_
  refine gPT trivial rfl rfl c6 rfl rfl rfl ?_
  refine gM trivial (.inl rfl) rfl rfl rfl ?_
  refine gI2 (d:=13) rfl (fun c13=>?_) (fun c13=>?_)
  ·skip
   have p13:=of_decide_eq_true c13
   refine gF ⟨_,_,rfl,rfl,c13⟩ rfl rfl rfl rfl rfl ?_
   refine gL ⟨_,_,rfl,rfl,c13⟩ rfl rfl rfl rfl rfl rfl rfl rfl ?_
   refine gI ⟨_,_,rfl,rfl,c13⟩ rfl rfl rfl rfl rfl rfl ?_
   refine gPT trivial rfl rfl c13 rfl rfl rfl ?_
   refine gM trivial (.inr rfl) rfl rfl rfl ?_
   refine rg_nil nofun ?_
   refine vc_ret ?_
   exact ⟨idm,ends0 (.inr rfl) rfl (eqB (by first|rfl|exact decide_eq_true (by omega)|exact decide_eq_false (by omega)|exact decide_eq_decide.2 (by omega))) rfl rfl rfl⟩
  ·skip
   have p13:=of_decide_eq_false c13
   refine gO ⟨_,_,rfl,rfl,c13⟩ rfl rfl ?_
   refine gO ⟨_,_,rfl,rfl,c13⟩ rfl rfl ?_
   refine gO ⟨_,_,rfl,rfl,c13⟩ rfl rfl ?_
   refine gPF trivial rfl rfl c13 rfl rfl rfl ?_
   refine gM trivial (.inr rfl) rfl rfl rfl ?_
   refine rg_nil nofun ?_
   refine vc_ret ?_
   exact ⟨idm,ends0 (.inr rfl) rfl (eqB (by first|rfl|exact decide_eq_true (by omega)|exact decide_eq_false (by omega)|exact decide_eq_decide.2 (by omega))) rfl rfl rfl⟩
 ·skip
  have p6:=of_decide_eq_false c6
  refine gO ⟨_,_,rfl,rfl,c6⟩ rfl rfl ?_
  refine gO ⟨_,_,rfl,rfl,c6⟩ rfl rfl ?_
  refine gO ⟨_,_,rfl,rfl,c6⟩ rfl rfl ?_
  refine gO ⟨_,_,rfl,rfl,c6⟩ rfl rfl ?_
  refine gO ⟨_,_,rfl,rfl,c6⟩ rfl rfl ?_
  refine gPF trivial rfl rfl c6 rfl rfl rfl ?_
  refine gM trivial (.inl rfl) rfl rfl rfl ?_
  refine gO ⟨_,_,rfl,rfl,rfl⟩ rfl rfl ?_
  refine gO ⟨_,_,rfl,rfl,rfl⟩ rfl rfl ?_
  refine gO ⟨_,_,rfl,rfl,rfl⟩ rfl rfl ?_
  refine gPF trivial rfl rfl rfl rfl rfl rfl ?_
  refine gM trivial (.inr rfl) rfl rfl rfl ?_
  refine rg_nil nofun ?_
  refine vc_ret ?_
  exact ⟨idm,ends0 (.inr rfl) rfl (eqB (by first|rfl|exact decide_eq_true (by omega)|exact decide_eq_false (by omega)|exact decide_eq_decide.2 (by omega))) rfl rfl rfl⟩
theorem spec_SpanOk_c (s:Sp):FDoes Try.prog 37 [vSp s] (hp []) { v:=.bool (spanOk s) }:=by
 have hm:Try.prog.follows .mixedOrders=true:=by kernel_rfl
 have hd_:∀ x ∈ ([]:List (Nat × Bool × Fam)),∀ k y,x.2.2 k=some y→DetB (lt 0) y:=fun x_ hx=>(by cases hx)
 refine fn_exact (u0:=0) Try.func37 rfl rfl (gets rfl rfl rfl hd_ rfl) ?_
 clear hd_
 refine vc_seq ?_
 refine vc_region hm ?_
 refine gB (u':=1) trivial rfl rfl rfl rfl rfl rfl rfl rfl ?_
 refine gM trivial (.inr rfl) rfl rfl rfl ?_
 refine rg_nil nofun ?_
 refine vc_seq ?_
 refine vc_region hm ?_
 refine gF trivial rfl rfl rfl rfl rfl ?_
 refine gL trivial rfl rfl rfl rfl rfl rfl rfl rfl ?_
 refine gI trivial rfl rfl rfl rfl rfl rfl ?_
 refine gM trivial (.inl rfl) rfl rfl rfl ?_
 refine gI2 (d:=6) rfl (fun c6=>?_) (fun c6=>?_)
 ·skip
  have p6:=of_decide_eq_true c6
  refine gF ⟨_,_,rfl,rfl,c6⟩ rfl rfl rfl rfl rfl ?_
  refine gL ⟨_,_,rfl,rfl,c6⟩ rfl rfl rfl rfl rfl rfl rfl rfl ?_
  refine gF ⟨_,_,rfl,rfl,c6⟩ rfl rfl rfl rfl rfl ?_
  refine gL ⟨_,_,rfl,rfl,c6⟩ rfl rfl rfl rfl rfl rfl rfl rfl ?_
  refine gI ⟨_,_,rfl,rfl,c6⟩ rfl rfl rfl rfl rfl rfl ?_
  refine gPT trivial rfl rfl c6 rfl rfl rfl ?_
  refine gM trivial (.inl rfl) rfl rfl rfl ?_
  refine gI2 (d:=13) rfl (fun c13=>?_) (fun c13=>?_)
  ·skip
   have p13:=of_decide_eq_true c13
   refine gF ⟨_,_,rfl,rfl,c13⟩ rfl rfl rfl rfl rfl ?_
   refine gL ⟨_,_,rfl,rfl,c13⟩ rfl rfl rfl rfl rfl rfl rfl rfl ?_
   refine gI ⟨_,_,rfl,rfl,c13⟩ rfl rfl rfl rfl rfl rfl ?_
   refine gPT trivial rfl rfl c13 rfl rfl rfl ?_
   refine gM trivial (.inr rfl) rfl rfl rfl ?_
   refine rg_nil nofun ?_
   refine vc_ret ?_
   exact ⟨idm,ends0 (.inr rfl) rfl (eqB (by first|rfl|exact decide_eq_true (by omega)|exact decide_eq_false (by omega)|exact decide_eq_decide.2 (by omega))) rfl rfl rfl⟩
  ·skip
   have p13:=of_decide_eq_false c13
   refine gO ⟨_,_,rfl,rfl,c13⟩ rfl rfl ?_
   refine gO ⟨_,_,rfl,rfl,c13⟩ rfl rfl ?_
   refine gO ⟨_,_,rfl,rfl,c13⟩ rfl rfl ?_
   refine gPF trivial rfl rfl c13 rfl rfl rfl ?_
   refine gM trivial (.inr rfl) rfl rfl rfl ?_
   refine rg_nil nofun ?_
   refine vc_ret ?_
   exact ⟨idm,ends0 (.inr rfl) rfl (eqB (by first|rfl|exact decide_eq_true (by omega)|exact decide_eq_false (by omega)|exact decide_eq_decide.2 (by omega))) rfl rfl rfl⟩
 ·skip
  have p6:=of_decide_eq_false c6
  refine gO ⟨_,_,rfl,rfl,c6⟩ rfl rfl ?_
  refine gO ⟨_,_,rfl,rfl,c6⟩ rfl rfl ?_
  refine gO ⟨_,_,rfl,rfl,c6⟩ rfl rfl ?_
  refine gO ⟨_,_,rfl,rfl,c6⟩ rfl rfl ?_
  refine gO ⟨_,_,rfl,rfl,c6⟩ rfl rfl ?_
  refine gPF trivial rfl rfl c6 rfl rfl rfl ?_
  refine gM trivial (.inl rfl) rfl rfl rfl ?_
  refine gO ⟨_,_,rfl,rfl,rfl⟩ rfl rfl ?_
  refine gO ⟨_,_,rfl,rfl,rfl⟩ rfl rfl ?_
  refine gO ⟨_,_,rfl,rfl,rfl⟩ rfl rfl ?_
  refine gPF trivial rfl rfl rfl rfl rfl rfl ?_
  refine gM trivial (.inr rfl) rfl rfl rfl ?_
  refine rg_nil nofun ?_
  refine vc_ret ?_
  exact ⟨idm,ends0 (.inr rfl) rfl (eqB (by first|rfl|exact decide_eq_true (by omega)|exact decide_eq_false (by omega)|exact decide_eq_decide.2 (by omega))) rfl rfl rfl⟩
theorem spec_SpansOk_c {l:List Sp} (hn:l.length≤1048576):FDoes Try.prog 49 [.slice (some ⟨0,0,none⟩) l.length 0] (hp [(0,false,one ⟨rSp l,28,0⟩)]) { v:=.bool (spansOk l),rd:=[0] }:=by
 have hm:Try.prog.follows .mixedOrders=true:=by kernel_rfl
 have hd_:∀ x_ ∈ ([(0,false,one ⟨rSp l,28,0⟩)]:List (Nat × Bool × Fam)),∀ k_ y_,x_.2.2 k_=some y_→DetB (lt 1) y_:=by
  intro x_ hx k_ y_ e
  simp only [List.mem_cons,List.not_mem_nil,or_false] at hx
  subst hx
  exact det_row (rSp_flat l) e
 refine fn_exact (u0:=1) Try.func49 rfl rfl (gets rfl rfl rfl hd_ rfl) ?_
 clear hd_
 refine vc_seq ?_
 refine vc_region hm ?_
 refine gM trivial (.inr rfl) rfl rfl rfl ?_
 refine rg_nil nofun ?_
 refine vc_seq ?_
 refine vc_seq ?_
 refine vc_region hm ?_
 refine gM trivial (.inr rfl) rfl rfl rfl ?_
 refine rg_nil nofun ?_
 refine vc_block ?_
 refine vc_loop' (fun n_ S_=>∃ (j:Nat),j≤l.length∧(List.range j).all (spansAt l)=true∧n_=l.length - j∧S_=⟨1,[(0,.slice (some ⟨0,0,none⟩) l.length 0),(3,.int .i64 j)],[(0,false,one ⟨rSp l,28,0⟩)]⟩) (m0:=idm) ⟨0,Nat.zero_le _,rfl,rfl,rfl⟩ (le_mk rfl ⟨⟨rfl,rfl⟩,⟨rfl,rfl⟩,trivial⟩ ⟨kFlat (rSp_flat l) rfl id rfl,trivial⟩ rfl (fun _ _=>rfl)) ?_
 rintro n_ S_ ⟨j,hj,ha,rfl,rfl⟩
 refine vc_seq ?_
 refine vc_seq ?_
 refine vc_region hm ?_
 refine gM trivial (.inl rfl) rfl rfl rfl ?_
 refine gM trivial (.inl rfl) rfl rfl rfl ?_
 refine gK trivial rfl rfl rfl rfl rfl rfl rSp_nil ?_
 refine gI trivial rfl rfl rfl rfl rfl rfl ?_
 refine rg_nil nofun ?_
 refine cI rfl (fun c7=>?_) (fun c7=>?_)
 ·skip
  have p7:=of_decide_eq_true c7
  refine vc_skip ?_
  refine vc_seq ?_
  refine vc_block ?_
  refine vc_seq ?_
  refine vc_region hm ?_
  refine gM trivial (.inl rfl) rfl rfl rfl ?_
  refine gM trivial (.inl rfl) rfl rfl rfl ?_
  refine gX trivial rfl rfl rfl rfl rfl rfl rfl rfl (by omega) (by omega) rSp_ne ?_
  refine gL trivial rfl rfl rfl rfl rfl rfl rfl (aSp (by omega) (by omega)) ?_
  refine gC0 [] (spec_SpanOk_c (at_ l (j:Int))) trivial rfl rfl rfl rfl (by trivial) rfl rfl rfl rfl rfl ?_
  refine gN trivial rfl rfl rfl rfl ?_
  refine gM trivial (.inl rfl) rfl rfl rfl ?_
  refine gI2 (d:=16) rfl (fun c16=>?_) (fun c16=>?_)
  ·skip
   have n16:=unT c16
   refine gO ⟨_,_,rfl,rfl,c16⟩ rfl rfl ?_
   refine gO ⟨_,_,rfl,rfl,c16⟩ rfl rfl ?_
   refine gO ⟨_,_,rfl,rfl,c16⟩ rfl rfl ?_
   refine gO ⟨_,_,rfl,rfl,trivial⟩ rfl rfl ?_
   refine gO ⟨_,_,rfl,rfl,trivial⟩ rfl rfl ?_
   refine gO ⟨_,_,rfl,rfl,trivial⟩ rfl rfl ?_
   refine gO ⟨_,_,rfl,rfl,trivial⟩ rfl rfl ?_
   refine gO ⟨_,_,rfl,rfl,trivial⟩ rfl rfl ?_
   refine gO ⟨_,_,rfl,rfl,trivial⟩ rfl rfl ?_
   refine gO ⟨_,_,rfl,rfl,trivial⟩ rfl rfl ?_
   refine gO ⟨_,_,rfl,rfl,trivial⟩ rfl rfl ?_
   refine gO ⟨_,_,rfl,rfl,trivial⟩ rfl rfl ?_
   refine gO ⟨_,_,rfl,rfl,trivial⟩ rfl rfl ?_
   refine gO ⟨_,_,rfl,rfl,trivial⟩ rfl rfl ?_
   refine gO ⟨_,_,rfl,rfl,trivial⟩ rfl rfl ?_
   refine gO ⟨_,_,rfl,rfl,c16⟩ rfl rfl ?_
   refine gPT trivial rfl rfl c16 rfl rfl rfl ?_
   refine rg_nil (fun _=>by kernel_rfl) ?_
   refine cT rfl rfl ?_
   refine vc_seq ?_
   refine vc_region hm ?_
   refine gM trivial (.inr rfl) rfl rfl rfl ?_
   refine rg_nil nofun ?_
   refine vc_ret ?_
   exact ⟨idm,ends0 (.inr rfl) rfl (eqB (spansOk_1 p7 (by first|exact spansAt_1 (by assumption)|exact spansAt_2 (by omega)))) rfl rfl rfl⟩
  ·skip
   have n16:=unF c16
   refine gM ⟨_,_,rfl,rfl,c16⟩ (.inl rfl) rfl rfl rfl ?_
   refine gI ⟨_,_,rfl,rfl,c16⟩ rfl rfl rfl rfl rfl rfl ?_
   refine gM ⟨_,_,rfl,rfl,c16⟩ (.inl rfl) rfl rfl rfl ?_
   refine gI2 (d:=19) rfl (fun c19=>?_) (fun c19=>?_)
   ·skip
    have p19:=of_decide_eq_true c19
    refine gM ⟨_,_,rfl,rfl,c19⟩ (.inl rfl) rfl rfl rfl ?_
    refine gM ⟨_,_,rfl,rfl,c19⟩ (.inl rfl) rfl rfl rfl ?_
    refine gA ⟨_,_,rfl,rfl,c19⟩ rfl rfl rfl rfl rfl rfl (by omega) ?_
    refine gX ⟨_,_,rfl,rfl,c19⟩ rfl rfl rfl rfl rfl rfl rfl rfl (by omega) (by omega) rSp_ne ?_
    refine gF ⟨_,_,rfl,rfl,c19⟩ rfl rfl rfl rfl rfl ?_
    refine gL ⟨_,_,rfl,rfl,c19⟩ rfl rfl rfl rfl rfl rfl rfl (lSp1 (by omega) (by omega)) ?_
    refine gM ⟨_,_,rfl,rfl,c19⟩ (.inl rfl) rfl rfl rfl ?_
    refine gM ⟨_,_,rfl,rfl,c19⟩ (.inl rfl) rfl rfl rfl ?_
    refine gX ⟨_,_,rfl,rfl,c19⟩ rfl rfl rfl rfl rfl rfl rfl rfl (by omega) (by omega) rSp_ne ?_
    refine gF ⟨_,_,rfl,rfl,c19⟩ rfl rfl rfl rfl rfl ?_
    refine gL ⟨_,_,rfl,rfl,c19⟩ rfl rfl rfl rfl rfl rfl rfl (lSp0 (by omega) (by omega)) ?_
    refine gI ⟨_,_,rfl,rfl,c19⟩ rfl rfl rfl rfl rfl rfl ?_
    refine gPT ⟨_,_,rfl,rfl,c16⟩ rfl rfl c19 rfl rfl rfl ?_
    refine gPF trivial rfl rfl c16 rfl rfl rfl ?_
    refine rg_nil (fun _=>by kernel_rfl) ?_
    refine cI rfl (fun c33=>?_) (fun c33=>?_)
    ·skip
     have p33:=of_decide_eq_true c33
     refine vc_seq ?_
     refine vc_region hm ?_
     refine gM trivial (.inr rfl) rfl rfl rfl ?_
     refine rg_nil nofun ?_
     refine vc_ret ?_
     exact ⟨idm,ends0 (.inr rfl) rfl (eqB (spansOk_1 p7 (by first|exact spansAt_1 (by assumption)|exact spansAt_2 (by omega)))) rfl rfl rfl⟩
    ·skip
     have p33:=of_decide_eq_false c33
     refine vc_skip ?_
     refine vc_region hm ?_
     refine gM trivial (.inl rfl) rfl rfl rfl ?_
     refine gA trivial rfl rfl rfl rfl rfl rfl (by omega) ?_
     refine gM trivial (.inr rfl) rfl rfl rfl ?_
     refine rg_nil nofun ?_
     exact lp_next (m:=idm) ⟨j + 1,(by omega),(all_step ha (spansAt_3 (by assumption) (by omega))),rfl,rfl⟩ (by omega) (le_mk rfl ⟨⟨rfl,rfl⟩,⟨rfl,rfl⟩,trivial⟩ ⟨kFlat (rSp_flat l) rfl id rfl,trivial⟩ rfl (fun _ _=>rfl))
   ·skip
    have p19:=of_decide_eq_false c19
    refine gO ⟨_,_,rfl,rfl,c19⟩ rfl rfl ?_
    refine gO ⟨_,_,rfl,rfl,c19⟩ rfl rfl ?_
    refine gO ⟨_,_,rfl,rfl,c19⟩ rfl rfl ?_
    refine gO ⟨_,_,rfl,rfl,c19⟩ rfl rfl ?_
    refine gO ⟨_,_,rfl,rfl,c19⟩ rfl rfl ?_
    refine gO ⟨_,_,rfl,rfl,c19⟩ rfl rfl ?_
    refine gO ⟨_,_,rfl,rfl,c19⟩ rfl rfl ?_
    refine gO ⟨_,_,rfl,rfl,c19⟩ rfl rfl ?_
    refine gO ⟨_,_,rfl,rfl,c19⟩ rfl rfl ?_
    refine gO ⟨_,_,rfl,rfl,c19⟩ rfl rfl ?_
    refine gO ⟨_,_,rfl,rfl,c19⟩ rfl rfl ?_
    refine gO ⟨_,_,rfl,rfl,c19⟩ rfl rfl ?_
    refine gPF ⟨_,_,rfl,rfl,c16⟩ rfl rfl c19 rfl rfl rfl ?_
    refine gPF trivial rfl rfl c16 rfl rfl rfl ?_
    refine rg_nil (fun _=>by kernel_rfl) ?_
    refine cF rfl rfl ?_
    refine vc_skip ?_
    refine vc_region hm ?_
    refine gM trivial (.inl rfl) rfl rfl rfl ?_
    refine gA trivial rfl rfl rfl rfl rfl rfl (by omega) ?_
    refine gM trivial (.inr rfl) rfl rfl rfl ?_
    refine rg_nil nofun ?_
    exact lp_next (m:=idm) ⟨j + 1,(by omega),(all_step ha (spansAt_3 (by assumption) (by omega))),rfl,rfl⟩ (by omega) (le_mk rfl ⟨⟨rfl,rfl⟩,⟨rfl,rfl⟩,trivial⟩ ⟨kFlat (rSp_flat l) rfl id rfl,trivial⟩ rfl (fun _ _=>rfl))
 ·skip
  have p7:=of_decide_eq_false c7
  refine vc_exit ?_
  refine vc_seq ?_
  refine vc_region hm ?_
  refine gM trivial (.inl rfl) rfl rfl rfl ?_
  refine gK trivial rfl rfl rfl rfl rfl rfl rSp_nil ?_
  refine gI trivial rfl rfl rfl rfl rfl rfl ?_
  refine gM trivial (.inr rfl) rfl rfl rfl ?_
  refine rg_nil nofun ?_
  refine vc_ret ?_
  exact ⟨idm,ends0 (.inr rfl) rfl (eqB (spansOk_2 hj p7 ha)) rfl rfl rfl⟩
theorem impl_SpansOk_c {l:List Sp} (hn:l.length≤1048576):FDoes Try.prog 45 [.slice (some ⟨0,0,none⟩) l.length 0] (hp [(0,false,one ⟨rSp l,28,0⟩)]) { v:=.bool (spansOk l),rd:=[0] }:=by
 have hm:Try.prog.follows .mixedOrders=true:=by kernel_rfl
 have hd_:∀ x_ ∈ ([(0,false,one ⟨rSp l,28,0⟩)]:List (Nat × Bool × Fam)),∀ k_ y_,x_.2.2 k_=some y_→DetB (lt 1) y_:=by
  intro x_ hx k_ y_ e
  simp only [List.mem_cons,List.not_mem_nil,or_false] at hx
  subst hx
  exact det_row (rSp_flat l) e
 refine fn_exact (u0:=1) Try.func45 rfl rfl (gets rfl rfl rfl hd_ rfl) ?_
 clear hd_
 refine vc_seq ?_
 refine vc_region hm ?_
 refine gM trivial (.inr rfl) rfl rfl rfl ?_
 refine rg_nil nofun ?_
 refine vc_seq ?_
 refine vc_seq ?_
 refine vc_region hm ?_
 refine gM trivial (.inl rfl) rfl rfl rfl ?_
 refine gK trivial rfl rfl rfl rfl rfl rfl rSp_nil ?_
 refine gM trivial (.inl rfl) rfl rfl rfl ?_
 refine rg_nil nofun ?_
 refine vc_block ?_
 refine vc_loop' (fun n_ S_=>∃ (j:Nat),j≤l.length∧(List.range j).all (spansAt l)=true∧n_=l.length - j∧S_=⟨1,[(0,.slice (some ⟨0,0,none⟩) l.length 0),(5,.slice (some ⟨0,0,none⟩) l.length 0),(6,.int .i64 l.length),(7,.int .i64 j)],[(0,false,one ⟨rSp l,28,0⟩)]⟩) (m0:=idm) ⟨0,Nat.zero_le _,rfl,rfl,rfl⟩ (le_mk rfl ⟨⟨rfl,rfl⟩,⟨rfl,rfl⟩,⟨rfl,rfl⟩,⟨rfl,rfl⟩,trivial⟩ ⟨kFlat (rSp_flat l) rfl id rfl,trivial⟩ rfl (fun _ _=>rfl)) ?_
 rintro n_ S_ ⟨j,hj,ha,rfl,rfl⟩
 refine vc_seq ?_
 refine vc_region hm ?_
 refine gI trivial rfl rfl rfl rfl rfl rfl ?_
 refine rg_nil nofun ?_
 refine vc_seq ?_
 refine cI rfl (fun c8=>?_) (fun c8=>?_)
 ·skip
  have p8:=of_decide_eq_true c8
  refine vc_skip ?_
  refine vc_seq ?_
  refine vc_block ?_
  refine vc_seq ?_
  refine vc_region hm ?_
  refine gM trivial (.inl rfl) rfl rfl rfl ?_
  refine gX trivial rfl rfl rfl rfl rfl rfl rfl rfl (by omega) (by omega) rSp_ne ?_
  refine gL trivial rfl rfl rfl rfl rfl rfl rfl (aSp (by omega) (by omega)) ?_
  refine gZ (u':=2) trivial rfl rfl rfl rfl rfl rfl rfl rfl ?_
  refine gM trivial (.inr rfl) rfl rfl rfl ?_
  refine gT trivial rfl rfl rfl rfl rfl rfl rfl rfl rfl rfl (Nat.le_of_ble_eq_true rfl) rfl ?_
  refine rg_nil nofun ?_
  refine vc_seq ?_
  refine vc_region hm ?_
  refine gL trivial rfl rfl rfl rfl rfl rfl rfl rfl ?_
  refine gC0 [] (impl_SpanOk_c (at_ l (j:Int))) trivial rfl rfl rfl rfl (by trivial) rfl rfl rfl rfl rfl ?_
  refine gN trivial rfl rfl rfl rfl ?_
  refine gM trivial (.inl rfl) rfl rfl rfl ?_
  refine gI2 (d:=15) rfl (fun c15=>?_) (fun c15=>?_)
  ·skip
   have n15:=unT c15
   refine gO ⟨_,_,rfl,rfl,c15⟩ rfl rfl ?_
   refine gO ⟨_,_,rfl,rfl,c15⟩ rfl rfl ?_
   refine gO ⟨_,_,rfl,rfl,c15⟩ rfl rfl ?_
   refine gO ⟨_,_,rfl,rfl,trivial⟩ rfl rfl ?_
   refine gO ⟨_,_,rfl,rfl,trivial⟩ rfl rfl ?_
   refine gO ⟨_,_,rfl,rfl,trivial⟩ rfl rfl ?_
   refine gO ⟨_,_,rfl,rfl,trivial⟩ rfl rfl ?_
   refine gO ⟨_,_,rfl,rfl,trivial⟩ rfl rfl ?_
   refine gO ⟨_,_,rfl,rfl,trivial⟩ rfl rfl ?_
   refine gO ⟨_,_,rfl,rfl,trivial⟩ rfl rfl ?_
   refine gO ⟨_,_,rfl,rfl,trivial⟩ rfl rfl ?_
   refine gO ⟨_,_,rfl,rfl,trivial⟩ rfl rfl ?_
   refine gO ⟨_,_,rfl,rfl,c15⟩ rfl rfl ?_
   refine gPT trivial rfl rfl c15 rfl rfl rfl ?_
   refine rg_nil (fun _=>by kernel_rfl) ?_
   refine cT rfl rfl ?_
   refine vc_seq ?_
   refine vc_region hm ?_
   refine gM trivial (.inr rfl) rfl rfl rfl ?_
   refine rg_nil nofun ?_
   refine vc_ret ?_
   exact ⟨idm,ends0 (.inr rfl) rfl (eqB (spansOk_1 p8 (by first|exact spansAt_1 (by assumption)|exact spansAt_2 (by omega)))) rfl rfl rfl⟩
  ·skip
   have n15:=unF c15
   refine gM ⟨_,_,rfl,rfl,c15⟩ (.inl rfl) rfl rfl rfl ?_
   refine gI ⟨_,_,rfl,rfl,c15⟩ rfl rfl rfl rfl rfl rfl ?_
   refine gM ⟨_,_,rfl,rfl,c15⟩ (.inl rfl) rfl rfl rfl ?_
   refine gI2 (d:=18) rfl (fun c18=>?_) (fun c18=>?_)
   ·skip
    have p18:=of_decide_eq_true c18
    refine gM ⟨_,_,rfl,rfl,c18⟩ (.inl rfl) rfl rfl rfl ?_
    refine gM ⟨_,_,rfl,rfl,c18⟩ (.inl rfl) rfl rfl rfl ?_
    refine gA ⟨_,_,rfl,rfl,c18⟩ rfl rfl rfl rfl rfl rfl (by omega) ?_
    refine gX ⟨_,_,rfl,rfl,c18⟩ rfl rfl rfl rfl rfl rfl rfl rfl (by omega) (by omega) rSp_ne ?_
    refine gF ⟨_,_,rfl,rfl,c18⟩ rfl rfl rfl rfl rfl ?_
    refine gL ⟨_,_,rfl,rfl,c18⟩ rfl rfl rfl rfl rfl rfl rfl (lSp1 (by omega) (by omega)) ?_
    refine gF ⟨_,_,rfl,rfl,c18⟩ rfl rfl rfl rfl rfl ?_
    refine gL ⟨_,_,rfl,rfl,c18⟩ rfl rfl rfl rfl rfl rfl rfl rfl ?_
    refine gI ⟨_,_,rfl,rfl,c18⟩ rfl rfl rfl rfl rfl rfl ?_
    refine gPT ⟨_,_,rfl,rfl,c15⟩ rfl rfl c18 rfl rfl rfl ?_
    refine gPF trivial rfl rfl c15 rfl rfl rfl ?_
    refine rg_nil (fun _=>by kernel_rfl) ?_
    refine cI rfl (fun c29=>?_) (fun c29=>?_)
    ·skip
     have p29:=of_decide_eq_true c29
     refine vc_seq ?_
     refine vc_region hm ?_
     refine gM trivial (.inr rfl) rfl rfl rfl ?_
     refine rg_nil nofun ?_
     refine vc_ret ?_
     exact ⟨idm,ends0 (.inr rfl) rfl (eqB (spansOk_1 p8 (by first|exact spansAt_1 (by assumption)|exact spansAt_2 (by omega)))) rfl rfl rfl⟩
    ·skip
     have p29:=of_decide_eq_false c29
     refine vc_skip ?_
     refine vc_region hm ?_
     refine gA trivial rfl rfl rfl rfl rfl rfl (by omega) ?_
     refine gM trivial (.inl rfl) rfl rfl rfl ?_
     refine rg_nil nofun ?_
     exact lp_next (m:=idm) ⟨j + 1,(by omega),(all_step ha (spansAt_3 (by assumption) (by omega))),rfl,rfl⟩ (by omega) (le_mk rfl ⟨⟨rfl,rfl⟩,⟨rfl,rfl⟩,⟨rfl,rfl⟩,⟨rfl,rfl⟩,trivial⟩ ⟨kFlat (rSp_flat l) rfl id rfl,trivial⟩ rfl (fun _ _=>rfl))
   ·skip
    have p18:=of_decide_eq_false c18
    refine gO ⟨_,_,rfl,rfl,c18⟩ rfl rfl ?_
    refine gO ⟨_,_,rfl,rfl,c18⟩ rfl rfl ?_
    refine gO ⟨_,_,rfl,rfl,c18⟩ rfl rfl ?_
    refine gO ⟨_,_,rfl,rfl,c18⟩ rfl rfl ?_
    refine gO ⟨_,_,rfl,rfl,c18⟩ rfl rfl ?_
    refine gO ⟨_,_,rfl,rfl,c18⟩ rfl rfl ?_
    refine gO ⟨_,_,rfl,rfl,c18⟩ rfl rfl ?_
    refine gO ⟨_,_,rfl,rfl,c18⟩ rfl rfl ?_
    refine gO ⟨_,_,rfl,rfl,c18⟩ rfl rfl ?_
    refine gPF ⟨_,_,rfl,rfl,c15⟩ rfl rfl c18 rfl rfl rfl ?_
    refine gPF trivial rfl rfl c15 rfl rfl rfl ?_
    refine rg_nil (fun _=>by kernel_rfl) ?_
    refine cF rfl rfl ?_
    refine vc_skip ?_
    refine vc_region hm ?_
    refine gA trivial rfl rfl rfl rfl rfl rfl (by omega) ?_
    refine gM trivial (.inl rfl) rfl rfl rfl ?_
    refine rg_nil nofun ?_
    exact lp_next (m:=idm) ⟨j + 1,(by omega),(all_step ha (spansAt_3 (by assumption) (by omega))),rfl,rfl⟩ (by omega) (le_mk rfl ⟨⟨rfl,rfl⟩,⟨rfl,rfl⟩,⟨rfl,rfl⟩,⟨rfl,rfl⟩,trivial⟩ ⟨kFlat (rSp_flat l) rfl id rfl,trivial⟩ rfl (fun _ _=>rfl))
 ·skip
  have p8:=of_decide_eq_false c8
  refine vc_exit ?_
  refine vc_seq ?_
  refine vc_region hm ?_
  refine gM trivial (.inl rfl) rfl rfl rfl ?_
  refine gK trivial rfl rfl rfl rfl rfl rfl rSp_nil ?_
  refine gI trivial rfl rfl rfl rfl rfl rfl ?_
  refine gM trivial (.inr rfl) rfl rfl rfl ?_
  refine rg_nil nofun ?_
  refine vc_ret ?_
  exact ⟨idm,ends0 (.inr rfl) rfl (eqB (spansOk_2 hj p8 ha)) rfl rfl rfl⟩
theorem spec_l1In_c {l:List Sp} {a:Int} (hn:l.length≤1048576):FDoes Try.prog 73 [.slice (some ⟨0,0,none⟩) l.length 0,.int .i64 a] (hp [(0,false,one ⟨rSp l,28,0⟩)]) { v:=.bool (l1In l a),rd:=[0] }:=by
 have hm:Try.prog.follows .mixedOrders=true:=by kernel_rfl
 have hd_:∀ x_ ∈ ([(0,false,one ⟨rSp l,28,0⟩)]:List (Nat × Bool × Fam)),∀ k_ y_,x_.2.2 k_=some y_→DetB (lt 1) y_:=by
  intro x_ hx k_ y_ e
  simp only [List.mem_cons,List.not_mem_nil,or_false] at hx
  subst hx
  exact det_row (rSp_flat l) e
 refine fn_exact (u0:=1) Try.func73 rfl rfl (gets rfl rfl rfl hd_ rfl) ?_
 clear hd_
 refine vc_seq ?_
 refine vc_region hm ?_
 refine gM trivial (.inr rfl) rfl rfl rfl ?_
 refine rg_nil nofun ?_
 refine vc_seq ?_
 refine vc_seq ?_
 refine vc_region hm ?_
 refine gM trivial (.inr rfl) rfl rfl rfl ?_
 refine rg_nil nofun ?_
 refine vc_block ?_
 refine vc_loop' (fun n_ S_=>∃ (j:Nat),j≤l.length∧(l.take j).any (inS a)=false∧n_=l.length - j∧S_=⟨1,[(0,.slice (some ⟨0,0,none⟩) l.length 0),(1,.int .i64 a),(5,.int .i64 j)],[(0,false,one ⟨rSp l,28,0⟩)]⟩) (m0:=idm) ⟨0,Nat.zero_le _,rfl,rfl,rfl⟩ (le_mk rfl ⟨⟨rfl,rfl⟩,⟨rfl,rfl⟩,⟨rfl,rfl⟩,trivial⟩ ⟨kFlat (rSp_flat l) rfl id rfl,trivial⟩ rfl (fun _ _=>rfl)) ?_
 rintro n_ S_ ⟨j,hj,ha,rfl,rfl⟩
 refine vc_seq ?_
 refine vc_seq ?_
 refine vc_region hm ?_
 refine gM trivial (.inl rfl) rfl rfl rfl ?_
 refine gM trivial (.inl rfl) rfl rfl rfl ?_
 refine gK trivial rfl rfl rfl rfl rfl rfl rSp_nil ?_
 refine gI trivial rfl rfl rfl rfl rfl rfl ?_
 refine rg_nil nofun ?_
 refine cI rfl (fun c9=>?_) (fun c9=>?_)
 ·skip
  have p9:=of_decide_eq_true c9
  refine vc_skip ?_
  refine vc_seq ?_
  refine vc_block ?_
  refine vc_seq ?_
  refine vc_region hm ?_
  refine gM trivial (.inl rfl) rfl rfl rfl ?_
  refine gM trivial (.inl rfl) rfl rfl rfl ?_
  refine gM trivial (.inl rfl) rfl rfl rfl ?_
  refine gX trivial rfl rfl rfl rfl rfl rfl rfl rfl (by omega) (by omega) rSp_ne ?_
  refine gF trivial rfl rfl rfl rfl rfl ?_
  refine gL trivial rfl rfl rfl rfl rfl rfl rfl (lSp0 (by omega) (by omega)) ?_
  refine gI trivial rfl rfl rfl rfl rfl rfl ?_
  refine gM trivial (.inl rfl) rfl rfl rfl ?_
  refine gI2 (d:=19) rfl (fun c19=>?_) (fun c19=>?_)
  ·skip
   have p19:=of_decide_eq_true c19
   refine gM ⟨_,_,rfl,rfl,c19⟩ (.inl rfl) rfl rfl rfl ?_
   refine gM ⟨_,_,rfl,rfl,c19⟩ (.inl rfl) rfl rfl rfl ?_
   refine gM ⟨_,_,rfl,rfl,c19⟩ (.inl rfl) rfl rfl rfl ?_
   refine gX ⟨_,_,rfl,rfl,c19⟩ rfl rfl rfl rfl rfl rfl rfl rfl (by omega) (by omega) rSp_ne ?_
   refine gF ⟨_,_,rfl,rfl,c19⟩ rfl rfl rfl rfl rfl ?_
   refine gL ⟨_,_,rfl,rfl,c19⟩ rfl rfl rfl rfl rfl rfl rfl (lSp1 (by omega) (by omega)) ?_
   refine gI ⟨_,_,rfl,rfl,c19⟩ rfl rfl rfl rfl rfl rfl ?_
   refine gPT trivial rfl rfl c19 rfl rfl rfl ?_
   refine rg_nil nofun ?_
   refine cI rfl (fun c27=>?_) (fun c27=>?_)
   ·skip
    have p27:=of_decide_eq_true c27
    refine vc_seq ?_
    refine vc_region hm ?_
    refine gM trivial (.inr rfl) rfl rfl rfl ?_
    refine rg_nil nofun ?_
    refine vc_ret ?_
    exact ⟨idm,ends0 (.inr rfl) rfl (eqB (any_of_at (by omega) p9 (decide_eq_true (by omega)))) rfl rfl rfl⟩
   ·skip
    have p27:=of_decide_eq_false c27
    refine vc_skip ?_
    refine vc_region hm ?_
    refine gM trivial (.inl rfl) rfl rfl rfl ?_
    refine gA trivial rfl rfl rfl rfl rfl rfl (by omega) ?_
    refine gM trivial (.inr rfl) rfl rfl rfl ?_
    refine rg_nil nofun ?_
    exact lp_next (m:=idm) ⟨j + 1,(by omega),(any_step p9 ha (decide_eq_false (by omega))),rfl,rfl⟩ (by omega) (le_mk rfl ⟨⟨rfl,rfl⟩,⟨rfl,rfl⟩,⟨rfl,rfl⟩,trivial⟩ ⟨kFlat (rSp_flat l) rfl id rfl,trivial⟩ rfl (fun _ _=>rfl))
  ·skip
   have p19:=of_decide_eq_false c19
   refine gO ⟨_,_,rfl,rfl,c19⟩ rfl rfl ?_
   refine gO ⟨_,_,rfl,rfl,c19⟩ rfl rfl ?_
   refine gO ⟨_,_,rfl,rfl,c19⟩ rfl rfl ?_
   refine gO ⟨_,_,rfl,rfl,c19⟩ rfl rfl ?_
   refine gO ⟨_,_,rfl,rfl,c19⟩ rfl rfl ?_
   refine gO ⟨_,_,rfl,rfl,c19⟩ rfl rfl ?_
   refine gO ⟨_,_,rfl,rfl,c19⟩ rfl rfl ?_
   refine gPF trivial rfl rfl c19 rfl rfl rfl ?_
   refine rg_nil nofun ?_
   refine cF rfl rfl ?_
   refine vc_skip ?_
   refine vc_region hm ?_
   refine gM trivial (.inl rfl) rfl rfl rfl ?_
   refine gA trivial rfl rfl rfl rfl rfl rfl (by omega) ?_
   refine gM trivial (.inr rfl) rfl rfl rfl ?_
   refine rg_nil nofun ?_
   exact lp_next (m:=idm) ⟨j + 1,(by omega),(any_step p9 ha (decide_eq_false (by omega))),rfl,rfl⟩ (by omega) (le_mk rfl ⟨⟨rfl,rfl⟩,⟨rfl,rfl⟩,⟨rfl,rfl⟩,trivial⟩ ⟨kFlat (rSp_flat l) rfl id rfl,trivial⟩ rfl (fun _ _=>rfl))
 ·skip
  have p9:=of_decide_eq_false c9
  refine vc_exit ?_
  refine vc_seq ?_
  refine vc_region hm ?_
  refine gM trivial (.inr rfl) rfl rfl rfl ?_
  refine rg_nil nofun ?_
  refine vc_ret ?_
  exact ⟨idm,ends0 (.inr rfl) rfl (eqB (any_all hj p9 ha)) rfl rfl rfl⟩
theorem of_c {l:List Sp} (hl:inB l) (hn:l.length≤1000000):FDoes Try.prog 46 [.slice (some ⟨0,0,none⟩) l.length 0] (hp [(0,false,one ⟨rSp l,28,0⟩)]) { v:=vPl (ofP l),rd:=[0] }:=by
 have hm:Try.prog.follows .mixedOrders=true:=by kernel_rfl
 have hd_:∀ x_ ∈ ([(0,false,one ⟨rSp l,28,0⟩)]:List (Nat × Bool × Fam)),∀ k_ y_,x_.2.2 k_=some y_→DetB (lt 1) y_:=by
  intro x_ hx k_ y_ e
  simp only [List.mem_cons,List.not_mem_nil,or_false] at hx
  subst hx
  exact det_row (rSp_flat l) e
 refine fn_exact (u0:=1) Try.func46 rfl rfl (gets rfl rfl rfl hd_ rfl) ?_
 clear hd_
 refine vc_seq ?_
 refine vc_region hm ?_
 refine gZ (u':=2) trivial rfl rfl rfl rfl rfl rfl rfl (show cellsL _=plL (fun _=>false) from rfl) ?_
 refine rg_nil nofun ?_
 refine vc_seq ?_
 refine vc_region hm ?_
 refine gZ (u':=3) trivial rfl rfl rfl rfl rfl rfl rfl (show cellsL _=plL (fun _=>false) from rfl) ?_
 refine rg_nil nofun ?_
 refine vc_seq ?_
 refine vc_seq ?_
 refine vc_region hm ?_
 refine gM trivial (.inl rfl) rfl rfl rfl ?_
 refine gK trivial rfl rfl rfl rfl rfl rfl rSp_nil ?_
 refine gM trivial (.inl rfl) rfl rfl rfl ?_
 refine rg_nil nofun ?_
 refine vc_block ?_
 refine vc_loop' (fun n_ S_=>∃ (j:Nat),j≤l.length∧n_=l.length - j∧S_=⟨3,[(2,.pointer (some ⟨1,0,none⟩)),(3,.pointer (some ⟨2,0,none⟩)),(7,.slice (some ⟨0,0,none⟩) l.length 0),(8,.int .i64 l.length),(9,.int .i64 j)],[(0,false,one ⟨rSp l,28,0⟩),(1,true,one ⟨plL (fun _=>false),59,48⟩),(2,true,one ⟨plL (ofP (l.take j)),59,48⟩)]⟩) (m0:=idm) ⟨0,Nat.zero_le _,rfl,rfl⟩ (le_mk rfl ⟨⟨rfl,rfl⟩,⟨rfl,rfl⟩,⟨rfl,rfl⟩,⟨rfl,rfl⟩,⟨rfl,rfl⟩,trivial⟩ ⟨kFlat (rSp_flat l) rfl id rfl,kFlat (plL_flat _) rfl id rfl,kFlat (plL_flat _) rfl id rfl,trivial⟩ rfl (fun _ _=>rfl)) ?_
 rintro n_ S_ ⟨j,hj,rfl,rfl⟩
 refine vc_seq ?_
 refine vc_region hm ?_
 refine gI trivial rfl rfl rfl rfl rfl rfl ?_
 refine rg_nil nofun ?_
 refine vc_seq ?_
 refine cI rfl (fun c10=>?_) (fun c10=>?_)
 ·skip
  have p10:=of_decide_eq_true c10
  refine vc_skip ?_
  refine vc_seq ?_
  refine vc_block ?_
  refine vc_seq ?_
  refine vc_region hm ?_
  refine gX trivial rfl rfl rfl rfl rfl rfl rfl rfl (by omega) p10 rSp_ne ?_
  refine gL trivial rfl rfl rfl rfl rfl rfl rfl (aSp (by omega) p10) ?_
  refine gZ (u':=4) trivial rfl rfl rfl rfl rfl rfl rfl rfl ?_
  refine gT trivial rfl rfl rfl rfl rfl rfl rfl rfl rfl rfl (Nat.le_of_ble_eq_true rfl) rfl ?_
  refine rg_nil nofun ?_
  refine vc_seq ?_
  refine vc_region hm ?_
  refine gF trivial rfl rfl rfl rfl rfl ?_
  refine gL trivial rfl rfl rfl rfl rfl rfl rfl rfl ?_
  refine gM trivial (.inr rfl) rfl rfl rfl ?_
  refine rg_nil nofun ?_
  refine vc_block ?_
  refine vc_loop' (fun n_ S_=>∃ (i:Int),(at_ l (j:Int)).lo≤i∧n_=((at_ l (j:Int)).hi - i).toNat∧S_=⟨4,[(2,.pointer (some ⟨1,0,none⟩)),(3,.pointer (some ⟨2,0,none⟩)),(7,.slice (some ⟨0,0,none⟩) l.length 0),(8,.int .i64 l.length),(9,.int .i64 j),(5,.pointer (some ⟨3,0,none⟩)),(6,.int .i64 i)],[(0,false,one ⟨rSp l,28,0⟩),(1,true,one ⟨plL (fun _=>false),59,48⟩),(2,true,one ⟨plL (fillTo (ofP (l.take j)) (at_ l (j:Int)).lo i (at_ l (j:Int)).hi true),59,48⟩),(3,true,one ⟨[.int .i64 (at_ l (j:Int)).lo,.int .i64 (at_ l (j:Int)).hi],28,2⟩)]⟩) (m0:=idm) ⟨(at_ l (j:Int)).lo,Int.le_refl _,rfl,rfl⟩ (le_mk rfl ⟨⟨rfl,rfl⟩,⟨rfl,rfl⟩,⟨rfl,rfl⟩,⟨rfl,rfl⟩,⟨rfl,rfl⟩,⟨rfl,rfl⟩,⟨rfl,rfl⟩,trivial⟩ ⟨kFlat (rSp_flat l) rfl id rfl,kFlat (plL_flat _) rfl id rfl,kFlat (plL_flat _) (eqH fillTo_start) id rfl,kCells rfl rfl id rfl,trivial⟩ rfl (fun _ _=>rfl)) ?_
  rintro n_ S_ ⟨i,hi,rfl,rfl⟩
  have hb1:=hl _ (at_mem (by omega) p10)
  refine vc_seq ?_
  refine vc_seq ?_
  refine vc_region hm ?_
  refine gM trivial (.inl rfl) rfl rfl rfl ?_
  refine gF trivial rfl rfl rfl rfl rfl ?_
  refine gL trivial rfl rfl rfl rfl rfl rfl rfl rfl ?_
  refine gI trivial rfl rfl rfl rfl rfl rfl ?_
  refine rg_nil nofun ?_
  refine cI rfl (fun c18=>?_) (fun c18=>?_)
  ·skip
   have p18:=of_decide_eq_true c18
   refine vc_skip ?_
   refine vc_seq ?_
   refine vc_block ?_
   refine vc_region hm ?_
   refine gM trivial (.inl rfl) rfl rfl rfl ?_
   refine gXA trivial rfl rfl rfl rfl rfl rfl rfl (by omega) (by omega) ?_
   refine gT trivial rfl rfl rfl rfl rfl rfl rfl rfl rfl rfl (kPl (by omega) (by omega)) (sPl (by omega) (by omega)) ?_
   refine rg_nil nofun ?_
   refine vc_region hm ?_
   refine gM trivial (.inl rfl) rfl rfl rfl ?_
   refine gA trivial rfl rfl rfl rfl rfl rfl (by omega) ?_
   refine gM trivial (.inr rfl) rfl rfl rfl ?_
   refine rg_nil nofun ?_
   exact lp_next (m:=idm) ⟨i + 1,(by omega),rfl,rfl⟩ (by omega) (le_mk rfl ⟨⟨rfl,rfl⟩,⟨rfl,rfl⟩,⟨rfl,rfl⟩,⟨rfl,rfl⟩,⟨rfl,rfl⟩,⟨rfl,rfl⟩,⟨rfl,rfl⟩,trivial⟩ ⟨kFlat (rSp_flat l) rfl id rfl,kFlat (plL_flat _) rfl id rfl,kFlat (plL_flat _) (eqH (fillTo_step (by omega) hi p18)) id rfl,kCells rfl rfl id rfl,trivial⟩ rfl (fun _ _=>rfl))
  ·skip
   have p18:=of_decide_eq_false c18
   refine vc_exit ?_
   refine vc_region hm ?_
   refine gA trivial rfl rfl rfl rfl rfl rfl (by omega) ?_
   refine gM trivial (.inl rfl) rfl rfl rfl ?_
   refine rg_nil nofun ?_
   exact lp_next (m:=idm) ⟨j + 1,(by omega),rfl,rfl⟩ (by omega) (le_mk rfl ⟨⟨rfl,rfl⟩,⟨rfl,rfl⟩,⟨rfl,rfl⟩,⟨rfl,rfl⟩,⟨rfl,rfl⟩,trivial⟩ ⟨kFlat (rSp_flat l) rfl id rfl,kFlat (plL_flat _) rfl id rfl,kFlat (plL_flat _) (eqH (of_step p10 p18)) id rfl,trivial⟩ rfl (fun _ _=>rfl))
 ·skip
  have p10:=of_decide_eq_false c10
  refine vc_exit ?_
  refine vc_seq ?_
  refine vc_region hm ?_
  refine gL trivial rfl rfl rfl rfl rfl rfl rfl wPl ?_
  refine gT trivial rfl rfl rfl rfl rfl rfl rfl rfl rfl rfl zPl pPl ?_
  refine rg_nil nofun ?_
  refine vc_ret ?_
  obtain rfl:j=l.length:=by omega
  rw [List.take_length]
  exact ⟨idm,endsF (.inr rfl) (.cell rfl rfl rfl rfl wPl .nil) rfl (vPl_flat _) rfl⟩

end Go.Proofs.Ytbgehlihpkefmaa.A
namespace Go.Proofs.Ytbgehlihpkefmaa.A
open Go Go.RowKit
def ByL (l:List Int):Prop:=∀ x ∈ l,0≤x∧x≤255
theorem byL_at {l:List Int} (h:ByL l) {i:Int} (h0:0≤i) (h1:i<l.length):0≤at_ l i∧at_ l i≤255:=h _ (at_mem h0 h1)
theorem tmod_in {x n:Int} (hx:0≤x) (hn:1≤n):0≤Int.tmod x n∧Int.tmod x n<n:=by
 rw [Int.tmod_eq_emod_of_nonneg hx]
 exact ⟨Int.emod_nonneg _ (by omega),Int.emod_lt_of_pos _ (by omega)⟩
theorem tdiv_in {x n:Int} (hx:0≤x) (hn:0≤n):0≤Int.tdiv x n∧Int.tdiv x n≤x:=⟨Int.tdiv_nonneg hx hn,Int.tdiv_le_self _ hx⟩
def xorI (a b:Int):Int:=IntKind.i64.wrap (BitVec.ofInt IntKind.i64.bits a ^^^ BitVec.ofInt IntKind.i64.bits b).toNat
theorem xor_nn {a b:Int} (ha:0≤a) (ha2:a<4611686018427387904) (hb:0≤b) (hb2:b<4611686018427387904):0≤xorI a b:=by
 obtain ⟨m,rfl⟩:=Int.eq_ofNat_of_zero_le ha
 obtain ⟨n,rfl⟩:=Int.eq_ofNat_of_zero_le hb
 have h62:(2:Nat) ^ 62=4611686018427387904:=by decide
 have h64:(2:Nat) ^ IntKind.i64.bits=18446744073709551616:=by decide
 have h1:m<2 ^ 62:=by omega
 have h2:n<2 ^ 62:=by omega
 have hm:m % 2 ^ IntKind.i64.bits=m:=Nat.mod_eq_of_lt (by omega)
 have hn:n % 2 ^ IntKind.i64.bits=n:=Nat.mod_eq_of_lt (by omega)
 have hx:=Nat.xor_lt_two_pow h1 h2
 unfold xorI
 simp only [BitVec.ofInt_natCast,BitVec.toNat_xor,BitVec.toNat_ofNat,hm,hn]
 rw [wrap_in (by omega)]
 exact Int.natCast_nonneg _
section
variable {P:Program} {nt:Nat} {ops:Array Oper} {draw:Bool} {rest:List Oper} {u d:Nat} {t:List (Nat × Value)} {h:List (Nat × Bool × Fam)} {acc:List Eff} {K:St→Prop} {o:Oper}
theorem gNilP {x:Operand} {ad:Addr} (hw:wantT (tl t) ops o) (hop:o.op = .nilCheck x) (hx:ev t x=some (.pointer (some ad))) (hs:o.dst=some d) (hn:Nat.blt d nt=true) (k:RG P nt ops draw rest ⟨u,(d,.pointer (some ad)) :: t,h⟩ (acc ++ [{ v:=.pointer (some ad) }]) K):RG P nt ops draw (o :: rest) ⟨u,t,h⟩ acc K:=gV (does_nil hop hw hx) hs hn k
theorem gXor {ty yt:TypeId} {x y:Operand} {a b:Int} (hw:wantT (tl t) ops o) (hop:o.op = .binOp .xor ty x y yt) (hx:ev t x=some (.int .i64 a)) (hy:ev t y=some (.int .i64 b)) (hs:o.dst=some d) (hn:Nat.blt d nt=true) (k:RG P nt ops draw rest ⟨u,(d,.int .i64 (xorI a b)) :: t,h⟩ (acc ++ [{ v:=.int .i64 (xorI a b) }]) K):RG P nt ops draw (o :: rest) ⟨u,t,h⟩ acc K:=gV (does_xor hop hw hx hy) hs hn k
theorem gCvB {sy dy:TypeId} {x:Operand} {kd:IntKind} {a:Int} {ds:TypeDesc} (hw:wantT (tl t) ops o) (hop:o.op = .convert sy dy x) (hs':P.underlying sy=some ds) (hd:P.underlying dy=some (.int .i64)) (hx:ev t x=some (.int kd a)) (hs:o.dst=some d) (hn:Nat.blt d nt=true) (hr:-9223372036854775808≤a∧a≤9223372036854775807)
  (k:RG P nt ops draw rest ⟨u,(d,.int .i64 a) :: t,h⟩ (acc ++ [{ v:=.int .i64 a }]) K):RG P nt ops draw (o :: rest) ⟨u,t,h⟩ acc K:=by
 have:=does_conv (P:=P) (nt:=nt) (ops:=ops) (t:=tl t) (h:=hp h) hop hw hs' hd hx
 rw [wrap_in hr] at this
 exact gV this hs hn k
theorem gHead {ty e:TypeId} {x y:Operand} {n k len m:Nat} {cs:List Value} (hw:wantT (tl t) ops o) (hop:o.op = .slice ty x none (some y) none) (hu:P.underlying ty=some (.slice e)) (hz:szP P e=some 1) (hx:ev t x=some (.slice (some ⟨n,k,none⟩) len 0)) (hy:ev t y=some (.int .i64 (m:Int))) (hb:hat (hp h) n=some ⟨cs,capT + len,0⟩) (hs:o.dst=some d) (hn:Nat.blt d nt=true) (hne:cs ≠ []) (hm:m≤len)
  (kk:RG P nt ops draw rest ⟨u,(d,.slice (some ⟨n,k,none⟩) m 0) :: t,h⟩ (acc ++ [{ v:=.slice (some ⟨n,k,none⟩) m 0,rd:=[n % 1000] }]) K):RG P nt ops draw (o :: rest) ⟨u,t,h⟩ acc K:=by
 refine gV (does_val hw (fun ρ ac w ht hah=>?_) fun U hU=>?_) hs hn kk
 ·have hbl:=hat_at hb hah (.inl (.head _))
  have hnil:=(blkAt_cell hbl hne).1
  have hcap:len≤(ρ n).cap:=by
   unfold blkAt at hbl
   rw [hnil,if_neg (by decide),if_pos rfl] at hbl
   obtain ⟨_,_,_,_,_,h3⟩:=hbl
   have h3:capT + len - capT≤(ρ n).cap:=h3
   omega
  have e1:ac.eval x=r3 ρ (.slice (some ⟨n,k,none⟩) len 0):=ev_sound (ρ:=ρ) (by rw [hop];simp [Op.operands]) ht hx
  have e1:ac.eval x = .slice (some ⟨(ρ n).blk,k,none⟩) len (ρ n).cap:=by rw [e1];show (if (ρ n).nil=true then zv _ else _)=_;rw [if_neg (by rw [hnil];decide)];rfl
  have e2:ac.eval y = .int .i64 (m:Int):=ev_sound (ρ:=ρ) (by rw [hop];simp [Op.operands]) ht hy
  have e3:(Instr.sliceBounds true len (ρ n).cap none (some (.int .i64 (m:Int))) none).run P w = .ok (0,m,(ρ n).cap) w:=by
   simp [Instr.sliceBounds,Instr.sliceBound,asIntOf,show (m:Int)≤((ρ n).cap:Int) by omega,show (0:Int)≤(m:Int) by omega,show ¬ ((ρ n).cap<m) by omega,Sem.run_pure,Sem.run_bind,Result.andThen_ok]
  have e5:r3 ρ (.slice (some ⟨n,k,none⟩) m 0) = .slice (some ⟨(ρ n).blk,k,none⟩) m ((ρ n).cap - 0):=by
   show (if (ρ n).nil=true then zv _ else _)=_
   rw [if_neg (by rw [hnil];decide)]
  rw [e5]
  by_cases hc0:(ρ n).cap=0
  ·rw [hc0] at e3
   simp [execOp,hop,e1,e2,Instr.sliceAt,Instr.slice,run_underlying hu,run_sizeOf hz,e3,add_eq,hc0,Sem.run_pure,Sem.run_bind,Result.andThen_ok]
  ·simp [execOp,hop,e1,e2,Instr.sliceAt,Instr.slice,run_underlying hu,run_sizeOf hz,e3,add_eq,hc0,Sem.run_pure,Sem.run_bind,Result.andThen_ok]
 ·intro ρ ρ' hρ
  have:=hρ n (hat_det hb hU (.inl (.head _))).1
  simp [r3,r2,r1,this]
end
theorem det_ok {u t e k:Nat} {cs:List Value} {y:Blk} (hk:cs.all (ok1 u)=true) (h:one ⟨cs,t,e⟩ k=some y):DetB (lt u) y:=by
 obtain ⟨rfl,rfl⟩:=one_some h
 exact fun ρ ρ' hρ=>okL_det hk hρ
theorem upOne {hl h:List (Nat × Bool × Fam)} {m:Nat→Nat} {u b:Nat} {o:Bool} {x y:Blk} (h0:hl.lookup b=some (true,one y)) (hh:h.lookup b=some (o,one (x.rn m))) (hk:x.cs.all (ok1 u)=true):(∃ G,hl.lookup b=some (true,G)∧∀ k,G k ≠ none↔one x k ≠ none)∧(∃ o,h.lookup b=some (o,rnF m (one x)))∧∀ k y,one x k=some y→DetB (lt u) y:=by
 refine ⟨⟨_,h0,fun k=>?_⟩,⟨o,by rw [rnF_one];exact hh⟩,fun k y e=>det_ok (t:=x.t) (e:=x.e) hk e⟩
 by_cases hk:k=0 <;> simp [one,hk]
def FRn (m:Nat→Nat):List (Nat × Fam)→List (Nat × Fam)→Prop
 | [],[]=>True
 | (b,F) :: l,(c,G) :: l'=>(m b=c∧rnF m F=G)∧FRn m l l'
 | _,_=>False
theorem frn_map {m:Nat→Nat}:∀ {l l':List (Nat × Fam)},FRn m l l'→(l.map fun x=>(m x.1,rnF m x.2))=l'
 | [],[],_=>rfl
 | (b,F) :: l,(c,G) :: l',h=>by
  obtain ⟨⟨rfl,rfl⟩,h2⟩:=h
  rw [List.map_cons,frn_map h2]
 | [],_ :: _,h=>h.elim
 | _ :: _,[],h=>h.elim
theorem frOne {m:Nat→Nat} {b c:Nat} {x y:Blk} (h:m b=c) (e:x.rn m=y):m b=c∧rnF m (one x)=one y:=⟨h,by rw [rnF_one,e]⟩
section
variable {P:Program} {nt:Nat} {ops:Array Oper} {draw:Bool} {rest:List Oper} {u d:Nat} {t:List (Nat × Value)} {h:List (Nat × Bool × Fam)} {acc:List Eff} {K:St→Prop} {o:Oper}
theorem gCF {f:FuncId} {args:Array Operand} {tys:Array TypeId} {avs vs:List Value} {hl:List (Nat × Bool × Fam)} {v v':Value} {rd:List Nat} {ups as_ ups' as':List (Nat × Fam)} (u':Nat) (ms:List Nat) (hF:FDoes P f vs (hp hl) (mkF v rd ups as_)) (hw:wantT (tl t) ops o) (hop:o.op = .call ⟨.value (.func f),args,tys⟩) (hfn:fnOk P f=true) (ha:evL (tl t) args.toList=some avs) (hv:avs=vs.map (rn3 (mp ms)))
  (hr:RenL (mp ms) h hl) (hru:FRn (mp ms) ups ups') (hra:FRn (mp ms) as_ as') (hv':rn3 (mp ms) v=v') (hb:callB (mp ms) (mkF v rd ups as_) u u'=true) (ho:∀ x ∈ ups,Owned (hp h) (mp ms x.1)) (hU:∀ x ∈ ups,∃ F,hl.lookup x.1=some (true,F)∧∀ k,x.2 k ≠ none→F k ≠ none) (hs:o.dst=some d) (hn:Nat.blt d nt=true)
  (kk:RG P nt ops draw rest ⟨u',(d,v') :: t,as'.map (fun x=>(x.1,true,x.2)) ++ (ups'.map (fun x=>(x.1,true,x.2)) ++ h)⟩ (acc ++ [mkF v' (rd.map (mp ms)) ups' as']) K):RG P nt ops draw (o :: rest) ⟨u,t,h⟩ acc K:=by
 subst hv'
 have hE:(mkF v rd ups as_).rn (mp ms)=mkF (rn3 (mp ms) v) (rd.map (mp ms)) ups' as':=by
  unfold Eff.rn mkF
  simp only [List.map_nil]
  rw [frn_map hru,frn_map hra]
 refine gC u' ms hF hw hop hfn ha hv hr hb (fun b hb=>?_) (fun x hx k y e=>?_) rfl hs hn ?_
 ·rw [mkF_wr] at hb
  obtain ⟨x,hx,rfl⟩:=List.mem_map.1 hb
  exact ho x hx
 ·obtain ⟨F,h1,h2⟩:=hU x hx
  have:=h2 k (by rw [e];exact Option.some_ne_none _)
  cases hk:F k with
  | none=>exact absurd hk this
  | some z=>exact ⟨true,F,z,h1,hk⟩
 ·rw [hE]
  have:(mkF (rn3 (mp ms) v) (rd.map (mp ms)) ups' as').outL=as'.map (fun x=>(x.1,true,x.2)) ++ ups'.map (fun x=>(x.1,true,x.2)):=by simp [Eff.outL,mkF]
  rw [this,List.append_assoc]
  exact kk
end
end Go.Proofs.Ytbgehlihpkefmaa.A
namespace Go.Proofs.Ytbgehlihpkefmaa.A
open Go Go.RowKit
set_option maxHeartbeats 4000000
theorem det_code {u k t e n:Nat} {l:List Int} {y:Blk} (h:one ⟨hls k (rY l),t,e⟩ n=some y):DetB (lt u) y:=det_row (hls_flat (rY_flat l)) h
theorem pick_c {l:List Int} {k n t0:Nat} {p:Int} (hl:ByL l) (hn:n≤l.length) (hp0:0≤p) (hp1:p≤1000000) {m:Int} (h1:1≤m) (h2:m≤1000000):∃ E,FDoes Try.prog 56 [.pointer (some ⟨1,0,none⟩),.int .i64 m] (hp [(0,false,one ⟨hls k (rY l),t0,0⟩),(1,true,one ⟨[.slice (some ⟨0,k,none⟩) n 0,.int .i64 (p)],82,2⟩)]) E∧∃ x:Int,0≤x∧x<m∧E=mkF (.int .i64 x) [0] [(1,one ⟨[.slice (some ⟨0,k,none⟩) n 0,.int .i64 (p + 1)],82,2⟩)] []:=by
 have hm:Try.prog.follows .mixedOrders=true:=by kernel_rfl
 have hd_:∀ x_ ∈ ([(0,false,one ⟨hls k (rY l),t0,0⟩),(1,true,one ⟨[.slice (some ⟨0,k,none⟩) n 0,.int .i64 (p)],82,2⟩)]:List (Nat × Bool × Fam)),∀ k_ y_,x_.2.2 k_=some y_→DetB (lt 2) y_:=by
  intro x_ hx k_ y_ e
  simp only [List.mem_cons,List.not_mem_nil,or_false] at hx
  rcases hx with rfl|rfl
  ·exact det_code e
  ·exact det_ok rfl e
 refine fn_some (u0:=2) Try.func56 rfl rfl (gets rfl rfl rfl hd_ rfl) ?_
 clear hd_
 refine vc_seq ?_
 refine vc_region hm ?_
 refine gM trivial (.inr rfl) rfl rfl rfl ?_
 refine rg_nil nofun ?_
 refine vc_seq ?_
 refine vc_region hm ?_
 refine gM trivial (.inl rfl) rfl rfl rfl ?_
 refine gM trivial (.inl rfl) rfl rfl rfl ?_
 refine gNilP trivial rfl rfl rfl rfl ?_
 refine gF trivial rfl rfl rfl rfl rfl ?_
 refine gL trivial rfl rfl rfl rfl rfl rfl rfl rfl ?_
 refine gA trivial rfl rfl rfl rfl rfl rfl (by omega) ?_
 refine gNilP trivial rfl rfl rfl rfl ?_
 refine gF trivial rfl rfl rfl rfl rfl ?_
 refine gT trivial rfl rfl rfl rfl rfl rfl rfl rfl rfl rfl (Nat.le_of_ble_eq_true rfl) rfl ?_
 refine rg_nil nofun ?_
 refine vc_seq ?_
 refine vc_seq ?_
 refine vc_region hm ?_
 refine gM trivial (.inl rfl) rfl rfl rfl ?_
 refine gI trivial rfl rfl rfl rfl rfl rfl ?_
 refine gM trivial (.inl rfl) rfl rfl rfl ?_
 refine gM ⟨_,_,rfl,rfl,(decide_eq_false (by omega))⟩ (.inl rfl) rfl rfl rfl ?_
 refine gNilP ⟨_,_,rfl,rfl,(decide_eq_false (by omega))⟩ rfl rfl rfl rfl ?_
 refine gF ⟨_,_,rfl,rfl,(decide_eq_false (by omega))⟩ rfl rfl rfl rfl rfl ?_
 refine gL ⟨_,_,rfl,rfl,(decide_eq_false (by omega))⟩ rfl rfl rfl rfl rfl rfl rfl rfl ?_
 refine gK ⟨_,_,rfl,rfl,(decide_eq_false (by omega))⟩ rfl rfl rfl rfl rfl rfl (hls_nil fun e=>(by have:=rY_nil e;omega)) ?_
 refine gI ⟨_,_,rfl,rfl,(decide_eq_false (by omega))⟩ rfl rfl rfl rfl rfl rfl ?_
 refine gPF trivial rfl rfl (decide_eq_false (by omega)) rfl rfl rfl ?_
 refine rg_nil nofun ?_
 refine cI rfl (fun c24=>?_) (fun c24=>?_)
 ·skip
  have p24:=eq_of_beq c24
  refine vc_seq ?_
  refine vc_region hm ?_
  refine gM trivial (.inr rfl) rfl rfl rfl ?_
  refine rg_nil nofun ?_
  refine vc_ret ?_
  exact ⟨mkF (.int .i64 (0)) [0] [(1,one ⟨[.slice (some ⟨0,k,none⟩) n 0,.int .i64 (p + 1)],82,2⟩)] [],_,endsT [] (.inr rfl) (.tmp rfl rfl .nil) rfl rfl ⟨upOne rfl rfl rfl,trivial⟩ trivial rfl,_,(by omega),(by omega),rfl⟩
 ·skip
  have p24:=ne_of_beq_false c24
  refine vc_skip ?_
  refine vc_seq ?_
  refine vc_region hm ?_
  refine gM trivial (.inl rfl) rfl rfl rfl ?_
  refine gNilP trivial rfl rfl rfl rfl ?_
  refine gF trivial rfl rfl rfl rfl rfl ?_
  refine gL trivial rfl rfl rfl rfl rfl rfl rfl rfl ?_
  refine gA trivial rfl rfl rfl rfl rfl rfl (by omega) ?_
  refine gM trivial (.inr rfl) rfl rfl rfl ?_
  refine rg_nil nofun ?_
  refine vc_seq ?_
  refine vc_seq ?_
  refine vc_region hm ?_
  refine gM trivial (.inl rfl) rfl rfl rfl ?_
  refine gM trivial (.inl rfl) rfl rfl rfl ?_
  refine gNilP trivial rfl rfl rfl rfl ?_
  refine gF trivial rfl rfl rfl rfl rfl ?_
  refine gL trivial rfl rfl rfl rfl rfl rfl rfl rfl ?_
  refine gK trivial rfl rfl rfl rfl rfl rfl (hls_nil fun e=>(by have:=rY_nil e;omega)) ?_
  refine gI trivial rfl rfl rfl rfl rfl rfl ?_
  refine rg_nil nofun ?_
  refine cI rfl (fun c36=>?_) (fun c36=>?_)
  ·skip
   have p36:=of_decide_eq_true c36
   refine vc_seq ?_
   refine vc_region hm ?_
   refine gM trivial (.inl rfl) rfl rfl rfl ?_
   refine gNilP trivial rfl rfl rfl rfl ?_
   refine gF trivial rfl rfl rfl rfl rfl ?_
   refine gL trivial rfl rfl rfl rfl rfl rfl rfl rfl ?_
   refine gM trivial (.inl rfl) rfl rfl rfl ?_
   refine gX trivial rfl rfl rfl rfl rfl rfl rfl rfl (by omega) p36 (fun h=>hls_ne (rY_ne (by omega))) ?_
   refine gL trivial rfl rfl rfl rfl rfl rfl rfl (wR (lY (by omega) (by omega)) rfl) ?_
   refine gCvB trivial rfl rfl rfl rfl rfl rfl (by have:=byL_at hl (i:=p + 1 - 1) (by omega) (by omega);omega) ?_
   refine gM trivial (.inl rfl) rfl rfl rfl ?_
   refine gRem trivial rfl rfl rfl rfl rfl (by omega) ?_
   refine gM trivial (.inr rfl) rfl rfl rfl ?_
   refine rg_nil nofun ?_
   refine vc_ret ?_
   exact ⟨mkF (.int .i64 (Int.tmod (at_ l (p + 1 - 1)) m)) [0] [(1,one ⟨[.slice (some ⟨0,k,none⟩) n 0,.int .i64 (p + 1)],82,2⟩)] [],_,endsT [] (.inr rfl) (.tmp rfl rfl .nil) rfl rfl ⟨upOne rfl rfl rfl,trivial⟩ trivial rfl,_,(tmod_in (byL_at hl (by omega) (by omega)).1 (by omega)).1,(tmod_in (byL_at hl (by omega) (by omega)).1 (by omega)).2,rfl⟩
  ·skip
   have p36:=of_decide_eq_false c36
   refine vc_skip ?_
   refine vc_seq ?_
   refine vc_region hm ?_
   refine gM trivial (.inl rfl) rfl rfl rfl ?_
   refine gNilP trivial rfl rfl rfl rfl ?_
   refine gF trivial rfl rfl rfl rfl rfl ?_
   refine gL trivial rfl rfl rfl rfl rfl rfl rfl rfl ?_
   refine gM trivial (.inl rfl) rfl rfl rfl ?_
   refine gM trivial (.inl rfl) rfl rfl rfl ?_
   refine gNilP trivial rfl rfl rfl rfl ?_
   refine gF trivial rfl rfl rfl rfl rfl ?_
   refine gL trivial rfl rfl rfl rfl rfl rfl rfl rfl ?_
   refine gK trivial rfl rfl rfl rfl rfl rfl (hls_nil fun e=>(by have:=rY_nil e;omega)) ?_
   refine gRem trivial rfl rfl rfl rfl rfl (by omega) ?_
   refine gX trivial rfl rfl rfl rfl rfl rfl rfl rfl (tmod_in (x:=p + 1 - 1) (n:=n) (by omega) (by omega)).1 (tmod_in (x:=p + 1 - 1) (n:=n) (by omega) (by omega)).2 (fun h=>hls_ne (rY_ne (by omega))) ?_
   refine gL trivial rfl rfl rfl rfl rfl rfl rfl (wR (lY (tmod_in (x:=p + 1 - 1) (n:=n) (by omega) (by omega)).1 (Int.lt_of_lt_of_le (tmod_in (x:=p + 1 - 1) (n:=n) (by omega) (by omega)).2 (by omega))) rfl) ?_
   refine gCvB trivial rfl rfl rfl rfl rfl rfl (by have:=byL_at hl (i:=Int.tmod (p + 1 - 1) n) (tmod_in (x:=p + 1 - 1) (n:=n) (by omega) (by omega)).1 (Int.lt_of_lt_of_le (tmod_in (x:=p + 1 - 1) (n:=n) (by omega) (by omega)).2 (by omega));omega) ?_
   refine gA trivial rfl rfl rfl rfl rfl rfl (by have b1:=byL_at hl (i:=Int.tmod (p + 1 - 1) n) (tmod_in (x:=p + 1 - 1) (n:=n) (by omega) (by omega)).1 (Int.lt_of_lt_of_le (tmod_in (x:=p + 1 - 1) (n:=n) (by omega) (by omega)).2 (by omega));have b2:=byL_at hl (i:=Int.tmod ((p + 1 - 1) * 7 + 3) n) (tmod_in (x:=(p + 1 - 1) * 7 + 3) (n:=n) (by omega) (by omega)).1 (Int.lt_of_lt_of_le (tmod_in (x:=(p + 1 - 1) * 7 + 3) (n:=n) (by omega) (by omega)).2 (by omega));have b3:=tdiv_in (x:=p + 1 - 1) (n:=n) (by omega) (by omega);omega) ?_
   refine gM trivial (.inl rfl) rfl rfl rfl ?_
   refine gNilP trivial rfl rfl rfl rfl ?_
   refine gF trivial rfl rfl rfl rfl rfl ?_
   refine gL trivial rfl rfl rfl rfl rfl rfl rfl rfl ?_
   refine gM trivial (.inl rfl) rfl rfl rfl ?_
   refine gA trivial rfl rfl rfl rfl rfl rfl (by omega) ?_
   refine gA trivial rfl rfl rfl rfl rfl rfl (by omega) ?_
   refine gM trivial (.inl rfl) rfl rfl rfl ?_
   refine gNilP trivial rfl rfl rfl rfl ?_
   refine gF trivial rfl rfl rfl rfl rfl ?_
   refine gL trivial rfl rfl rfl rfl rfl rfl rfl rfl ?_
   refine gK trivial rfl rfl rfl rfl rfl rfl (hls_nil fun e=>(by have:=rY_nil e;omega)) ?_
   refine gRem trivial rfl rfl rfl rfl rfl (by omega) ?_
   refine gX trivial rfl rfl rfl rfl rfl rfl rfl rfl (tmod_in (x:=(p + 1 - 1) * 7 + 3) (n:=n) (by omega) (by omega)).1 (tmod_in (x:=(p + 1 - 1) * 7 + 3) (n:=n) (by omega) (by omega)).2 (fun h=>hls_ne (rY_ne (by omega))) ?_
   refine gL trivial rfl rfl rfl rfl rfl rfl rfl (wR (lY (tmod_in (x:=(p + 1 - 1) * 7 + 3) (n:=n) (by omega) (by omega)).1 (Int.lt_of_lt_of_le (tmod_in (x:=(p + 1 - 1) * 7 + 3) (n:=n) (by omega) (by omega)).2 (by omega))) rfl) ?_
   refine gCvB trivial rfl rfl rfl rfl rfl rfl (by have:=byL_at hl (i:=Int.tmod ((p + 1 - 1) * 7 + 3) n) (tmod_in (x:=(p + 1 - 1) * 7 + 3) (n:=n) (by omega) (by omega)).1 (Int.lt_of_lt_of_le (tmod_in (x:=(p + 1 - 1) * 7 + 3) (n:=n) (by omega) (by omega)).2 (by omega));omega) ?_
   refine gA trivial rfl rfl rfl rfl rfl rfl (by have b1:=byL_at hl (i:=Int.tmod (p + 1 - 1) n) (tmod_in (x:=p + 1 - 1) (n:=n) (by omega) (by omega)).1 (Int.lt_of_lt_of_le (tmod_in (x:=p + 1 - 1) (n:=n) (by omega) (by omega)).2 (by omega));have b2:=byL_at hl (i:=Int.tmod ((p + 1 - 1) * 7 + 3) n) (tmod_in (x:=(p + 1 - 1) * 7 + 3) (n:=n) (by omega) (by omega)).1 (Int.lt_of_lt_of_le (tmod_in (x:=(p + 1 - 1) * 7 + 3) (n:=n) (by omega) (by omega)).2 (by omega));have b3:=tdiv_in (x:=p + 1 - 1) (n:=n) (by omega) (by omega);omega) ?_
   refine gA trivial rfl rfl rfl rfl rfl rfl (by have b1:=byL_at hl (i:=Int.tmod (p + 1 - 1) n) (tmod_in (x:=p + 1 - 1) (n:=n) (by omega) (by omega)).1 (Int.lt_of_lt_of_le (tmod_in (x:=p + 1 - 1) (n:=n) (by omega) (by omega)).2 (by omega));have b2:=byL_at hl (i:=Int.tmod ((p + 1 - 1) * 7 + 3) n) (tmod_in (x:=(p + 1 - 1) * 7 + 3) (n:=n) (by omega) (by omega)).1 (Int.lt_of_lt_of_le (tmod_in (x:=(p + 1 - 1) * 7 + 3) (n:=n) (by omega) (by omega)).2 (by omega));have b3:=tdiv_in (x:=p + 1 - 1) (n:=n) (by omega) (by omega);omega) ?_
   refine gM trivial (.inl rfl) rfl rfl rfl ?_
   refine gA trivial rfl rfl rfl rfl rfl rfl (by omega) ?_
   refine gA trivial rfl rfl rfl rfl rfl rfl (by have b1:=byL_at hl (i:=Int.tmod (p + 1 - 1) n) (tmod_in (x:=p + 1 - 1) (n:=n) (by omega) (by omega)).1 (Int.lt_of_lt_of_le (tmod_in (x:=p + 1 - 1) (n:=n) (by omega) (by omega)).2 (by omega));have b2:=byL_at hl (i:=Int.tmod ((p + 1 - 1) * 7 + 3) n) (tmod_in (x:=(p + 1 - 1) * 7 + 3) (n:=n) (by omega) (by omega)).1 (Int.lt_of_lt_of_le (tmod_in (x:=(p + 1 - 1) * 7 + 3) (n:=n) (by omega) (by omega)).2 (by omega));have b3:=tdiv_in (x:=p + 1 - 1) (n:=n) (by omega) (by omega);omega) ?_
   refine gM trivial (.inl rfl) rfl rfl rfl ?_
   refine gM trivial (.inl rfl) rfl rfl rfl ?_
   refine gNilP trivial rfl rfl rfl rfl ?_
   refine gF trivial rfl rfl rfl rfl rfl ?_
   refine gL trivial rfl rfl rfl rfl rfl rfl rfl rfl ?_
   refine gK trivial rfl rfl rfl rfl rfl rfl (hls_nil fun e=>(by have:=rY_nil e;omega)) ?_
   refine gQuo trivial rfl rfl rfl rfl rfl (by omega) rfl (by have b1:=byL_at hl (i:=Int.tmod (p + 1 - 1) n) (tmod_in (x:=p + 1 - 1) (n:=n) (by omega) (by omega)).1 (Int.lt_of_lt_of_le (tmod_in (x:=p + 1 - 1) (n:=n) (by omega) (by omega)).2 (by omega));have b2:=byL_at hl (i:=Int.tmod ((p + 1 - 1) * 7 + 3) n) (tmod_in (x:=(p + 1 - 1) * 7 + 3) (n:=n) (by omega) (by omega)).1 (Int.lt_of_lt_of_le (tmod_in (x:=(p + 1 - 1) * 7 + 3) (n:=n) (by omega) (by omega)).2 (by omega));have b3:=tdiv_in (x:=p + 1 - 1) (n:=n) (by omega) (by omega);omega) ?_
   refine gA trivial rfl rfl rfl rfl rfl rfl (by have b1:=byL_at hl (i:=Int.tmod (p + 1 - 1) n) (tmod_in (x:=p + 1 - 1) (n:=n) (by omega) (by omega)).1 (Int.lt_of_lt_of_le (tmod_in (x:=p + 1 - 1) (n:=n) (by omega) (by omega)).2 (by omega));have b2:=byL_at hl (i:=Int.tmod ((p + 1 - 1) * 7 + 3) n) (tmod_in (x:=(p + 1 - 1) * 7 + 3) (n:=n) (by omega) (by omega)).1 (Int.lt_of_lt_of_le (tmod_in (x:=(p + 1 - 1) * 7 + 3) (n:=n) (by omega) (by omega)).2 (by omega));have b3:=tdiv_in (x:=p + 1 - 1) (n:=n) (by omega) (by omega);omega) ?_
   refine gA trivial rfl rfl rfl rfl rfl rfl (by have b1:=byL_at hl (i:=Int.tmod (p + 1 - 1) n) (tmod_in (x:=p + 1 - 1) (n:=n) (by omega) (by omega)).1 (Int.lt_of_lt_of_le (tmod_in (x:=p + 1 - 1) (n:=n) (by omega) (by omega)).2 (by omega));have b2:=byL_at hl (i:=Int.tmod ((p + 1 - 1) * 7 + 3) n) (tmod_in (x:=(p + 1 - 1) * 7 + 3) (n:=n) (by omega) (by omega)).1 (Int.lt_of_lt_of_le (tmod_in (x:=(p + 1 - 1) * 7 + 3) (n:=n) (by omega) (by omega)).2 (by omega));have b3:=tdiv_in (x:=p + 1 - 1) (n:=n) (by omega) (by omega);omega) ?_
   refine gM trivial (.inr rfl) rfl rfl rfl ?_
   refine rg_nil (fun _=>by kernel_rfl) ?_
   refine vc_seq ?_
   refine vc_region hm ?_
   refine gM trivial (.inl rfl) rfl rfl rfl ?_
   refine gM trivial (.inl rfl) rfl rfl rfl ?_
   refine gQuo trivial rfl rfl rfl rfl rfl (by decide) rfl (by have b1:=byL_at hl (i:=Int.tmod (p + 1 - 1) n) (tmod_in (x:=p + 1 - 1) (n:=n) (by omega) (by omega)).1 (Int.lt_of_lt_of_le (tmod_in (x:=p + 1 - 1) (n:=n) (by omega) (by omega)).2 (by omega));have b2:=byL_at hl (i:=Int.tmod ((p + 1 - 1) * 7 + 3) n) (tmod_in (x:=(p + 1 - 1) * 7 + 3) (n:=n) (by omega) (by omega)).1 (Int.lt_of_lt_of_le (tmod_in (x:=(p + 1 - 1) * 7 + 3) (n:=n) (by omega) (by omega)).2 (by omega));have b3:=tdiv_in (x:=p + 1 - 1) (n:=n) (by omega) (by omega);have:=tdiv_in (x:=((at_ l (Int.tmod (p + 1 - 1) n)) * 131 + (at_ l (Int.tmod ((p + 1 - 1) * 7 + 3) n)) * 1117 + (p + 1 - 1) * 29 + Int.tdiv (p + 1 - 1) n * 53)) (n:=64) (by omega) (by omega);omega) ?_
   refine gXor trivial rfl rfl rfl rfl rfl ?_
   refine gM trivial (.inr rfl) rfl rfl rfl ?_
   refine rg_nil nofun ?_
   refine vc_seq ?_
   refine vc_region hm ?_
   refine gM trivial (.inl rfl) rfl rfl rfl ?_
   refine gM trivial (.inl rfl) rfl rfl rfl ?_
   refine gRem trivial rfl rfl rfl rfl rfl (by omega) ?_
   refine gM trivial (.inr rfl) rfl rfl rfl ?_
   refine rg_nil nofun ?_
   refine vc_ret ?_
   exact ⟨mkF (.int .i64 (Int.tmod (xorI ((at_ l (Int.tmod (p + 1 - 1) n)) * 131 + (at_ l (Int.tmod ((p + 1 - 1) * 7 + 3) n)) * 1117 + (p + 1 - 1) * 29 + Int.tdiv (p + 1 - 1) n * 53) (Int.tdiv ((at_ l (Int.tmod (p + 1 - 1) n)) * 131 + (at_ l (Int.tmod ((p + 1 - 1) * 7 + 3) n)) * 1117 + (p + 1 - 1) * 29 + Int.tdiv (p + 1 - 1) n * 53) 64)) m)) [0] [(1,one ⟨[.slice (some ⟨0,k,none⟩) n 0,.int .i64 (p + 1)],82,2⟩)] [],_,endsT [] (.inr rfl) (.tmp rfl rfl .nil) rfl rfl ⟨upOne rfl rfl rfl,trivial⟩ trivial rfl,_,(tmod_in (by have b1:=byL_at hl (i:=Int.tmod (p + 1 - 1) n) (tmod_in (x:=p + 1 - 1) (n:=n) (by omega) (by omega)).1 (Int.lt_of_lt_of_le (tmod_in (x:=p + 1 - 1) (n:=n) (by omega) (by omega)).2 (by omega));have b2:=byL_at hl (i:=Int.tmod ((p + 1 - 1) * 7 + 3) n) (tmod_in (x:=(p + 1 - 1) * 7 + 3) (n:=n) (by omega) (by omega)).1 (Int.lt_of_lt_of_le (tmod_in (x:=(p + 1 - 1) * 7 + 3) (n:=n) (by omega) (by omega)).2 (by omega));have b3:=tdiv_in (x:=p + 1 - 1) (n:=n) (by omega) (by omega);have b4:=tdiv_in (x:=((at_ l (Int.tmod (p + 1 - 1) n)) * 131 + (at_ l (Int.tmod ((p + 1 - 1) * 7 + 3) n)) * 1117 + (p + 1 - 1) * 29 + Int.tdiv (p + 1 - 1) n * 53)) (n:=64) (by omega) (by omega);exact xor_nn (by omega) (by omega) b4.1 (by omega)) (by omega)).1,(tmod_in (by have b1:=byL_at hl (i:=Int.tmod (p + 1 - 1) n) (tmod_in (x:=p + 1 - 1) (n:=n) (by omega) (by omega)).1 (Int.lt_of_lt_of_le (tmod_in (x:=p + 1 - 1) (n:=n) (by omega) (by omega)).2 (by omega));have b2:=byL_at hl (i:=Int.tmod ((p + 1 - 1) * 7 + 3) n) (tmod_in (x:=(p + 1 - 1) * 7 + 3) (n:=n) (by omega) (by omega)).1 (Int.lt_of_lt_of_le (tmod_in (x:=(p + 1 - 1) * 7 + 3) (n:=n) (by omega) (by omega)).2 (by omega));have b3:=tdiv_in (x:=p + 1 - 1) (n:=n) (by omega) (by omega);have b4:=tdiv_in (x:=((at_ l (Int.tmod (p + 1 - 1) n)) * 131 + (at_ l (Int.tmod ((p + 1 - 1) * 7 + 3) n)) * 1117 + (p + 1 - 1) * 29 + Int.tdiv (p + 1 - 1) n * 53)) (n:=64) (by omega) (by omega);exact xor_nn (by omega) (by omega) b4.1 (by omega)) (by omega)).2,rfl⟩
end Go.Proofs.Ytbgehlihpkefmaa.A
namespace Go.Proofs.Ytbgehlihpkefmaa.A
open Go Go.RowKit
def mxI (a b:Int):Int:=if a > b then a else b
def mnI (a b:Int):Int:=if a<b then a else b
def metB (a b:Sp):Bool:=!decide (mxI a.lo b.lo ≥ mnI a.hi b.hi)
def metS (a b:Sp):Sp:=if mxI a.lo b.lo ≥ mnI a.hi b.hi then ⟨0,0⟩ else ⟨mxI a.lo b.lo,mnI a.hi b.hi⟩
def clearL (a b:List Sp):Bool:=!(a.any fun x=>b.any fun y=>metB x y)
def rAt (T:List Ho) (i:Nat):List Sp:=(at_ T (i:Int)).r
def wAt (T:List Ho) (i:Nat):List Sp:=(at_ T (i:Int)).w
def holdOk (T:List Ho) (i:Nat):Bool:=spansOk (rAt T i) && (spansOk (wAt T i) && clearL (rAt T i) (wAt T i))
def pairOk (T:List Ho) (i k:Nat):Bool:=decide (k=i) || (clearL (wAt T i) (wAt T k) && clearL (wAt T i) (rAt T k))
def stepS (T:List Ho) (i:Nat):Bool:=holdOk T i && (List.range T.length).all (pairOk T i)
def lockOk (T:List Ho):Bool:=decide (T.length=3) && (List.range T.length).all (stepS T)
def noP:Nat→Bool:=fun _=>false
def anyP (T:List Ho) (j:Nat) (x:Nat):Bool:=(T.take j).any fun h=>ofP h.w x || ofP h.r x
def wrP (T:List Ho) (j:Nat) (x:Nat):Bool:=(T.take j).any fun h=>ofP h.w x
def stepI (T:List Ho) (j:Nat):Bool:=spansOk (rAt T j) && (spansOk (wAt T j) && (eqP (fun i=>ofP (rAt T j) i && ofP (wAt T j) i) noP && (eqP (fun i=>ofP (wAt T j) i && anyP T j i) noP && eqP (fun i=>ofP (rAt T j) i && wrP T j i) noP)))
def lockOkI (T:List Ho):Bool:=decide (T.length=3) && (List.range T.length).all (stepI T)
def Dis (a b:List Sp):Prop:=∀ x,x<48→ofP a x=true→ofP b x=true→False
theorem Dis.symm {a b:List Sp} (h:Dis a b):Dis b a:=fun x hx ha hb=>h x hx hb ha
theorem inSp_iff {s:Sp} {x:Nat}:inSp s x=true↔s.lo≤(x:Int)∧(x:Int)<s.hi:=by simp [inSp]
theorem ofP_iff {l:List Sp} {x:Nat}:ofP l x=true↔∃ s ∈ l,s.lo≤(x:Int)∧(x:Int)<s.hi:=by
 unfold ofP
 rw [List.any_eq_true]
 simp only [inSp_iff]
theorem mx_le {a b c:Int}:mxI a b≤c↔a≤c∧b≤c:=by unfold mxI;split <;> omega
theorem lt_mn {a b c:Int}:c<mnI a b↔c<a∧c<b:=by unfold mnI;split <;> omega
theorem metB_iff {a b:Sp}:metB a b=true↔mxI a.lo b.lo<mnI a.hi b.hi:=by simp [metB]
theorem clear_iff {a b:List Sp} (ha:spansOk a=true) (hb:spansOk b=true):clearL a b=true↔Dis a b:=by
 unfold clearL Dis
 simp only [Bool.not_eq_true',List.any_eq_false,List.any_eq_true,metB_iff,not_exists,not_and]
 constructor
 ·intro h x hx h1 h2
  obtain ⟨s,hs,s1,s2⟩:=ofP_iff.1 h1
  obtain ⟨t,ht,t1,t2⟩:=ofP_iff.1 h2
  exact h s hs t ht (Int.lt_of_le_of_lt (mx_le.2 ⟨s1,t1⟩) (lt_mn.2 ⟨s2,t2⟩))
 ·intro h s hs t ht hlt
  have k1:=spanOk_in (spansOk_at ha s hs)
  have k2:=spanOk_in (spansOk_at hb t ht)
  have e:mxI s.lo t.lo≤mxI s.lo t.lo:=Int.le_refl _
  obtain ⟨e1,e2⟩:=mx_le.1 e
  obtain ⟨e3,e4⟩:=lt_mn.1 hlt
  have hx:((mxI s.lo t.lo).toNat:Int)=mxI s.lo t.lo:=by omega
  exact h (mxI s.lo t.lo).toNat (by omega) (ofP_iff.2 ⟨s,hs,by omega,by omega⟩) (ofP_iff.2 ⟨t,ht,by omega,by omega⟩)
theorem eqP_no {f g:Nat→Bool}:eqP (fun i=>f i && g i) noP=true↔∀ x,x<48→f x=true→g x=true→False:=by
 unfold eqP
 simp only [List.all_eq_true,List.mem_range,beq_iff_eq,noP,Bool.and_eq_false_iff]
 constructor
 ·intro h x hx h1 h2
  rcases h x hx with e|e
  ·rw [h1] at e;cases e
  ·rw [h2] at e;cases e
 ·intro h x hx
  cases h1:f x with
  | false=>exact .inl rfl
  | true =>
   cases h2:g x with
   | false=>exact .inr rfl
   | true=>exact (h x hx h1 h2).elim
theorem any_take_iff {T:List Ho} {j:Nat} (hj:j≤T.length) {p:Ho→Bool}:(T.take j).any p=true↔∃ k,k<j∧p (at_ T (k:Int))=true:=by
 rw [List.any_eq_true]
 constructor
 ·rintro ⟨h,hm,hp⟩
  obtain ⟨k,hk,rfl⟩:=List.getElem_of_mem hm
  rw [List.length_take] at hk
  refine ⟨k,by omega,?_⟩
  rw [← at_get (xs:=T) (i:=k) (by omega)]
  simpa using hp
 ·rintro ⟨k,hk,hp⟩
  refine ⟨at_ T (k:Int),?_,hp⟩
  rw [← at_get (xs:=T) (i:=k) (by omega)]
  exact List.mem_iff_getElem.2 ⟨k,by rw [List.length_take];omega,by simp⟩
theorem stepI_iff {T:List Ho} {j:Nat} (hj:j<T.length):stepI T j=true↔spansOk (rAt T j)=true∧spansOk (wAt T j)=true∧Dis (rAt T j) (wAt T j)∧∀ k,k<j→Dis (wAt T j) (wAt T k)∧Dis (wAt T j) (rAt T k)∧Dis (rAt T j) (wAt T k):=by
 unfold stepI
 simp only [Bool.and_eq_true,eqP_no]
 constructor
 ·rintro ⟨h1,h2,h3,h4,h5⟩
  refine ⟨h1,h2,h3,fun k hk=>⟨fun x hx a b=>h4 x hx a ?_,fun x hx a b=>h4 x hx a ?_,fun x hx a b=>h5 x hx a ?_⟩⟩
  ·exact (any_take_iff (Nat.le_of_lt hj)).2 ⟨k,hk,by rw [show ofP (at_ T (k:Int)).w x=true from b];rfl⟩
  ·exact (any_take_iff (Nat.le_of_lt hj)).2 ⟨k,hk,by rw [show ofP (at_ T (k:Int)).r x=true from b,Bool.or_true]⟩
  ·exact (any_take_iff (Nat.le_of_lt hj)).2 ⟨k,hk,b⟩
 ·rintro ⟨h1,h2,h3,h4⟩
  refine ⟨h1,h2,h3,fun x hx a b=>?_,fun x hx a b=>?_⟩
  ·obtain ⟨k,hk,hp⟩:=(any_take_iff (Nat.le_of_lt hj)).1 b
   rw [Bool.or_eq_true] at hp
   rcases hp with hp|hp
   ·exact (h4 k hk).1 x hx a hp
   ·exact (h4 k hk).2.1 x hx a hp
  ·obtain ⟨k,hk,hp⟩:=(any_take_iff (Nat.le_of_lt hj)).1 b
   exact (h4 k hk).2.2 x hx a hp
theorem lockOk_eq (T:List Ho):lockOkI T=lockOk T:=by
 rw [Bool.eq_iff_iff]
 unfold lockOkI lockOk
 simp only [Bool.and_eq_true,decide_eq_true_eq,List.all_eq_true,List.mem_range]
 refine and_congr_right fun hl=>?_
 constructor
 ·intro h i hi
  have hs:∀ k,k<T.length→spansOk (rAt T k)=true∧spansOk (wAt T k)=true:=fun k hk=>⟨((stepI_iff hk).1 (h k hk)).1,((stepI_iff hk).1 (h k hk)).2.1⟩
  have hi':=(stepI_iff hi).1 (h i hi)
  unfold stepS holdOk
  simp only [Bool.and_eq_true,List.all_eq_true,List.mem_range]
  refine ⟨⟨hi'.1,hi'.2.1,(clear_iff hi'.1 hi'.2.1).2 hi'.2.2.1⟩,fun k hk=>?_⟩
  unfold pairOk
  rcases Nat.lt_trichotomy k i with hlt|rfl|hlt
  ·rw [(clear_iff hi'.2.1 (hs k hk).2).2 (hi'.2.2.2 k hlt).1,(clear_iff hi'.2.1 (hs k hk).1).2 (hi'.2.2.2 k hlt).2.1]
   simp
  ·simp
  ·have hk':=((stepI_iff hk).1 (h k hk)).2.2.2 i hlt
   rw [(clear_iff hi'.2.1 (hs k hk).2).2 hk'.1.symm,(clear_iff hi'.2.1 (hs k hk).1).2 hk'.2.2.symm]
   simp
 ·intro h j hj
  have hS:∀ k,k<T.length→spansOk (rAt T k)=true∧spansOk (wAt T k)=true∧clearL (rAt T k) (wAt T k)=true∧∀ i,i<T.length→i ≠ k→clearL (wAt T k) (wAt T i)=true∧clearL (wAt T k) (rAt T i)=true:=fun k hk=>by
   have:=h k hk
   unfold stepS holdOk pairOk at this
   simp only [Bool.and_eq_true,List.all_eq_true,List.mem_range,Bool.or_eq_true,decide_eq_true_eq] at this
   exact ⟨this.1.1,this.1.2.1,this.1.2.2,fun i hi hne=>(this.2 i hi).resolve_left hne⟩
  obtain ⟨a1,a2,a3,a4⟩:=hS j hj
  refine (stepI_iff hj).2 ⟨a1,a2,(clear_iff a1 a2).1 a3,fun k hk=>?_⟩
  have hk':k<T.length:=by omega
  obtain ⟨b1,b2,_,b4⟩:=hS k hk'
  exact ⟨(clear_iff a2 b2).1 (a4 k hk' (by omega)).1,(clear_iff a2 b1).1 (a4 k hk' (by omega)).2,((clear_iff b2 a1).1 (b4 j hj (by omega)).2).symm⟩
theorem stepI_1 {T:List Ho} {j:Nat} (h:spansOk (at_ T (j:Int)).r=false):stepI T j=false:=and_false_l h
theorem stepI_2 {T:List Ho} {j:Nat} (h:spansOk (at_ T (j:Int)).w=false):stepI T j=false:=and_false_r (and_false_l h)
theorem stepI_3 {T:List Ho} {j:Nat} (h:eqP (fun i=>ofP (at_ T (j:Int)).r i && ofP (at_ T (j:Int)).w i) noP=false):stepI T j=false:=and_false_r (and_false_r (and_false_l h))
theorem stepI_4 {T:List Ho} {j:Nat} (h:eqP (fun i=>ofP (at_ T (j:Int)).w i && anyP T j i) noP=false):stepI T j=false:=and_false_r (and_false_r (and_false_r (and_false_l h)))
theorem stepI_5 {T:List Ho} {j:Nat} (h:eqP (fun i=>ofP (at_ T (j:Int)).r i && wrP T j i) noP=false):stepI T j=false:=and_false_r (and_false_r (and_false_r (and_false_r h)))
theorem stepI_6 {T:List Ho} {j:Nat} (h1:spansOk (at_ T (j:Int)).r=true) (h2:spansOk (at_ T (j:Int)).w=true) (h3:eqP (fun i=>ofP (at_ T (j:Int)).r i && ofP (at_ T (j:Int)).w i) noP=true) (h4:eqP (fun i=>ofP (at_ T (j:Int)).w i && anyP T j i) noP=true) (h5:eqP (fun i=>ofP (at_ T (j:Int)).r i && wrP T j i) noP=true):stepI T j=true:=and_true h1 (and_true h2 (and_true h3 (and_true h4 h5)))
theorem ok_len3 {T:List Ho} (h:(T.length:Int) ≠ 3):lockOk T=false:=and_false_l (decide_eq_false (by omega))
theorem okI_at {T:List Ho} {j:Nat} (hj:(j:Int)<T.length) (h:stepI T j=false):lockOk T=false:=by rw [← lockOk_eq];exact and_false_r (all_range_false (by omega) h)
theorem okI_all {T:List Ho} {j:Nat} (hl:(T.length:Int)=3) (hj:j≤T.length) (h:¬ (j:Int)<T.length) (ha:(List.range j).all (stepI T)=true):lockOk T=true:=by rw [← lockOk_eq];exact and_true (decide_eq_true (by omega)) (all_all hj h ha)
theorem any_0 {T:List Ho}:plL noP=plL (anyP T 0):=plL_congr fun _ _=>rfl
theorem wr_0 {T:List Ho}:plL noP=plL (wrP T 0):=plL_congr fun _ _=>rfl
theorem any_next {T:List Ho} {j:Nat} (hj:(j:Int)<T.length):plL (putP (putP (anyP T j) (ofP (at_ T (j:Int)).w) true) (ofP (at_ T (j:Int)).r) true)=plL (anyP T (j + 1)):=plL_congr fun x _=>by
 show (if ofP (at_ T (j:Int)).r x=true then true else if ofP (at_ T (j:Int)).w x=true then true else (T.take j).any fun h=>ofP h.w x || ofP h.r x)=(T.take (j + 1)).any fun h=>ofP h.w x || ofP h.r x
 rw [any_take (by omega)]
 generalize (T.take j).any (fun h=>ofP h.w x || ofP h.r x)=A
 cases A <;> cases ofP (at_ T (j:Int)).w x <;> cases ofP (at_ T (j:Int)).r x <;> rfl
theorem wr_next {T:List Ho} {j:Nat} (hj:(j:Int)<T.length):plL (putP (wrP T j) (ofP (at_ T (j:Int)).w) true)=plL (wrP T (j + 1)):=plL_congr fun x _=>by
 show (if ofP (at_ T (j:Int)).w x=true then true else (T.take j).any fun h=>ofP h.w x)=(T.take (j + 1)).any fun h=>ofP h.w x
 rw [any_take (by omega)]
 generalize (T.take j).any (fun h=>ofP h.w x)=A
 cases A <;> cases ofP (at_ T (j:Int)).w x <;> rfl
theorem met_F {a b:Sp} (h:mxI a.lo b.lo ≥ mnI a.hi b.hi):Value.tuple #[vSp ⟨0,0⟩,.bool false] = .tuple #[vSp (metS a b),.bool (metB a b)]:=by unfold metS metB;rw [if_pos h,decide_eq_true h];rfl
theorem met_T {a b:Sp} (h:¬ mxI a.lo b.lo ≥ mnI a.hi b.hi):Value.tuple #[vSp ⟨mxI a.lo b.lo,mnI a.hi b.hi⟩,.bool true] = .tuple #[vSp (metS a b),.bool (metB a b)]:=by unfold metS metB;rw [if_neg h,decide_eq_false h];rfl
theorem clr_in {a b:List Sp} {i k:Nat} (hi:(i:Int)<a.length) (hk:(k:Int)<b.length) (h:metB (at_ a (i:Int)) (at_ b (k:Int))=true):clearL a b=false:=by
 unfold clearL
 rw [List.any_eq_true.2 ⟨_,at_mem (by omega) hi,List.any_eq_true.2 ⟨_,at_mem (by omega) hk,h⟩⟩]
 rfl
theorem clr_row {a b:List Sp} {i k:Nat} (hk:k≤b.length) (h:¬ (k:Int)<b.length) (hb:(b.take k).any (metB (at_ a (i:Int)))=false):b.any (metB (at_ a (i:Int)))=false:=any_all hk h hb
theorem clr_end {a b:List Sp} {i:Nat} (hi:i≤a.length) (h:¬ (i:Int)<a.length) (ha:(a.take i).any (fun x=>b.any fun y=>metB x y)=false):clearL a b=true:=by
 unfold clearL
 rw [any_all hi h ha]
 rfl
theorem stepS_1 {T:List Ho} {i:Nat} (h:spansOk (at_ T (i:Int)).r=false):stepS T i=false:=and_false_l (and_false_l h)
theorem stepS_2 {T:List Ho} {i:Nat} (h:spansOk (at_ T (i:Int)).w=false):stepS T i=false:=and_false_l (and_false_r (and_false_l h))
theorem stepS_3 {T:List Ho} {i:Nat} (h:clearL (at_ T (i:Int)).r (at_ T (i:Int)).w=false):stepS T i=false:=and_false_l (and_false_r (and_false_r h))
theorem stepS_4 {T:List Ho} {i k:Nat} (hk:(k:Int)<T.length) (hne:(k:Int) ≠ i) (h:clearL (at_ T (i:Int)).w (at_ T (k:Int)).w=false):stepS T i=false:=and_false_r (all_range_false (j:=k) (by omega) (by unfold pairOk;rw [decide_eq_false (by omega)];exact and_false_l h))
theorem stepS_5 {T:List Ho} {i k:Nat} (hk:(k:Int)<T.length) (hne:(k:Int) ≠ i) (h:clearL (at_ T (i:Int)).w (at_ T (k:Int)).r=false):stepS T i=false:=and_false_r (all_range_false (j:=k) (by omega) (by unfold pairOk;rw [decide_eq_false (by omega)];exact and_false_r h))
theorem pair_eq {T:List Ho} {i k:Nat} (h:(k:Int)=i):pairOk T i k=true:=by unfold pairOk;rw [decide_eq_true (by omega)];rfl
theorem pair_ne {T:List Ho} {i k:Nat} (h1:clearL (at_ T (i:Int)).w (at_ T (k:Int)).w=true) (h2:clearL (at_ T (i:Int)).w (at_ T (k:Int)).r=true):pairOk T i k=true:=by
 unfold pairOk wAt rAt
 rw [h1,h2]
 simp
theorem stepS_6 {T:List Ho} {i k:Nat} (h1:spansOk (at_ T (i:Int)).r=true) (h2:spansOk (at_ T (i:Int)).w=true) (h3:clearL (at_ T (i:Int)).r (at_ T (i:Int)).w=true) (hk:k≤T.length) (h:¬ (k:Int)<T.length) (ha:(List.range k).all (pairOk T i)=true):stepS T i=true:=and_true (and_true h1 (and_true h2 h3)) (all_all hk h ha)
theorem okS_at {T:List Ho} {j:Nat} (hj:(j:Int)<T.length) (h:stepS T j=false):lockOk T=false:=and_false_r (all_range_false (by omega) h)
theorem okS_all {T:List Ho} {j:Nat} (hl:(T.length:Int)=3) (hj:j≤T.length) (h:¬ (j:Int)<T.length) (ha:(List.range j).all (stepS T)=true):lockOk T=true:=and_true (decide_eq_true (by omega)) (all_all hj h ha)
theorem ok_3 {T:List Ho} (h:lockOk T=true):T.length=3:=by
 unfold lockOk at h
 rw [Bool.and_eq_true] at h
 exact of_decide_eq_true h.1
theorem ok_at {T:List Ho} (h:lockOk T=true) {i:Nat} (hi:i<T.length):spansOk (at_ T (i:Int)).r=true∧spansOk (at_ T (i:Int)).w=true∧Dis (at_ T (i:Int)).r (at_ T (i:Int)).w:=by
 rw [← lockOk_eq] at h
 unfold lockOkI at h
 rw [Bool.and_eq_true,List.all_eq_true] at h
 have:=(stepI_iff hi).1 (h.2 i (List.mem_range.2 hi))
 exact ⟨this.1,this.2.1,this.2.2.1⟩
end Go.Proofs.Ytbgehlihpkefmaa.A
namespace Go.Proofs.Ytbgehlihpkefmaa.A
open Go Go.RowKit
set_option maxHeartbeats 4000000
theorem spec_l1Max_c (a b:Int):FDoes Try.prog 86 [.int .i64 a,.int .i64 b] (hp []) { v:=.int .i64 (mxI a b) }:=by
 have hm:Try.prog.follows .mixedOrders=true:=by kernel_rfl
 have hd_:∀ x ∈ ([]:List (Nat × Bool × Fam)),∀ k y,x.2.2 k=some y→DetB (lt 0) y:=fun x_ hx=>(by cases hx)
 refine fn_exact (u0:=0) Try.func86 rfl rfl (gets rfl rfl rfl hd_ rfl) ?_
 clear hd_
 refine vc_seq ?_
 refine vc_region hm ?_
 refine gM trivial (.inr rfl) rfl rfl rfl ?_
 refine rg_nil nofun ?_
 refine vc_seq ?_
 refine vc_seq ?_
 refine vc_region hm ?_
 refine gM trivial (.inl rfl) rfl rfl rfl ?_
 refine gM trivial (.inl rfl) rfl rfl rfl ?_
 refine gI trivial rfl rfl rfl rfl rfl rfl ?_
 refine rg_nil nofun ?_
 refine cI rfl (fun c7=>?_) (fun c7=>?_)
 ·skip
  have p7:=of_decide_eq_true c7
  refine vc_seq ?_
  refine vc_region hm ?_
  refine gM trivial (.inl rfl) rfl rfl rfl ?_
  refine gM trivial (.inr rfl) rfl rfl rfl ?_
  refine rg_nil nofun ?_
  refine vc_ret ?_
  exact ⟨idm,ends0 (.inr rfl) rfl (eqI (by unfold mxI;first|rw [if_pos (by assumption)]|rw [if_neg (by assumption)])) rfl rfl rfl⟩
 ·skip
  have p7:=of_decide_eq_false c7
  refine vc_skip ?_
  refine vc_seq ?_
  refine vc_region hm ?_
  refine gM trivial (.inl rfl) rfl rfl rfl ?_
  refine gM trivial (.inr rfl) rfl rfl rfl ?_
  refine rg_nil nofun ?_
  refine vc_ret ?_
  exact ⟨idm,ends0 (.inr rfl) rfl (eqI (by unfold mxI;first|rw [if_pos (by assumption)]|rw [if_neg (by assumption)])) rfl rfl rfl⟩
theorem spec_l1Min_c (a b:Int):FDoes Try.prog 81 [.int .i64 a,.int .i64 b] (hp []) { v:=.int .i64 (mnI a b) }:=by
 have hm:Try.prog.follows .mixedOrders=true:=by kernel_rfl
 have hd_:∀ x ∈ ([]:List (Nat × Bool × Fam)),∀ k y,x.2.2 k=some y→DetB (lt 0) y:=fun x_ hx=>(by cases hx)
 refine fn_exact (u0:=0) Try.func81 rfl rfl (gets rfl rfl rfl hd_ rfl) ?_
 clear hd_
 refine vc_seq ?_
 refine vc_region hm ?_
 refine gM trivial (.inr rfl) rfl rfl rfl ?_
 refine rg_nil nofun ?_
 refine vc_seq ?_
 refine vc_seq ?_
 refine vc_region hm ?_
 refine gM trivial (.inl rfl) rfl rfl rfl ?_
 refine gM trivial (.inl rfl) rfl rfl rfl ?_
 refine gI trivial rfl rfl rfl rfl rfl rfl ?_
 refine rg_nil nofun ?_
 refine cI rfl (fun c7=>?_) (fun c7=>?_)
 ·skip
  have p7:=of_decide_eq_true c7
  refine vc_seq ?_
  refine vc_region hm ?_
  refine gM trivial (.inl rfl) rfl rfl rfl ?_
  refine gM trivial (.inr rfl) rfl rfl rfl ?_
  refine rg_nil nofun ?_
  refine vc_ret ?_
  exact ⟨idm,ends0 (.inr rfl) rfl (eqI (by unfold mnI;first|rw [if_pos (by assumption)]|rw [if_neg (by assumption)])) rfl rfl rfl⟩
 ·skip
  have p7:=of_decide_eq_false c7
  refine vc_skip ?_
  refine vc_seq ?_
  refine vc_region hm ?_
  refine gM trivial (.inl rfl) rfl rfl rfl ?_
  refine gM trivial (.inr rfl) rfl rfl rfl ?_
  refine rg_nil nofun ?_
  refine vc_ret ?_
  exact ⟨idm,ends0 (.inr rfl) rfl (eqI (by unfold mnI;first|rw [if_pos (by assumption)]|rw [if_neg (by assumption)])) rfl rfl rfl⟩
theorem spec_l1Meet_c (a b:Sp):FDoes Try.prog 78 [vSp a,vSp b] (hp []) { v:=.tuple #[vSp (metS a b),.bool (metB a b)] }:=by
 have hm:Try.prog.follows .mixedOrders=true:=by kernel_rfl
 have hd_:∀ x ∈ ([]:List (Nat × Bool × Fam)),∀ k y,x.2.2 k=some y→DetB (lt 0) y:=fun x_ hx=>(by cases hx)
 refine fn_exact (u0:=0) Try.func78 rfl rfl (gets rfl rfl rfl hd_ rfl) ?_
 clear hd_
 refine vc_seq ?_
 refine vc_region hm ?_
 refine gB (u':=1) trivial rfl rfl rfl rfl rfl rfl rfl rfl ?_
 refine gB (u':=2) trivial rfl rfl rfl rfl rfl rfl rfl rfl ?_
 refine gZ (u':=3) trivial rfl rfl rfl rfl rfl rfl rfl rfl ?_
 refine gM trivial (.inr rfl) rfl rfl rfl ?_
 refine rg_nil nofun ?_
 refine vc_seq ?_
 refine vc_region hm ?_
 refine gF trivial rfl rfl rfl rfl rfl ?_
 refine gL trivial rfl rfl rfl rfl rfl rfl rfl rfl ?_
 refine gF trivial rfl rfl rfl rfl rfl ?_
 refine gL trivial rfl rfl rfl rfl rfl rfl rfl rfl ?_
 refine gC0 [] (spec_l1Max_c a.lo b.lo) trivial rfl rfl rfl rfl (by trivial) rfl rfl rfl rfl rfl ?_
 refine gF trivial rfl rfl rfl rfl rfl ?_
 refine gL trivial rfl rfl rfl rfl rfl rfl rfl rfl ?_
 refine gF trivial rfl rfl rfl rfl rfl ?_
 refine gL trivial rfl rfl rfl rfl rfl rfl rfl rfl ?_
 refine gC0 [] (spec_l1Min_c a.hi b.hi) trivial rfl rfl rfl rfl (by trivial) rfl rfl rfl rfl rfl ?_
 refine gU trivial rfl rfl rfl rfl rfl rfl rfl rfl ?_
 refine gZ (u':=4) trivial rfl rfl rfl rfl rfl rfl rfl rfl ?_
 refine gT trivial rfl rfl rfl rfl rfl rfl rfl rfl rfl rfl (Nat.le_of_ble_eq_true rfl) rfl ?_
 refine rg_nil (fun _=>by kernel_rfl) ?_
 refine vc_seq ?_
 refine vc_seq ?_
 refine vc_region hm ?_
 refine gF trivial rfl rfl rfl rfl rfl ?_
 refine gL trivial rfl rfl rfl rfl rfl rfl rfl rfl ?_
 refine gF trivial rfl rfl rfl rfl rfl ?_
 refine gL trivial rfl rfl rfl rfl rfl rfl rfl rfl ?_
 refine gI trivial rfl rfl rfl rfl rfl rfl ?_
 refine rg_nil nofun ?_
 refine cI rfl (fun c22=>?_) (fun c22=>?_)
 ·skip
  have p22:=of_decide_eq_true c22
  refine vc_seq ?_
  refine vc_region hm ?_
  refine gU trivial rfl rfl rfl rfl rfl rfl rfl rfl ?_
  refine gT trivial rfl rfl rfl rfl rfl rfl rfl rfl rfl rfl (Nat.le_of_ble_eq_true rfl) rfl ?_
  refine gM trivial (.inr rfl) rfl rfl rfl ?_
  refine rg_nil nofun ?_
  refine vc_ret ?_
  exact ⟨idm,endsF (.inr rfl) (.cell rfl rfl rfl rfl rfl (.tmp rfl rfl .nil)) (met_F p22) rfl rfl⟩
 ·skip
  have p22:=of_decide_eq_false c22
  refine vc_skip ?_
  refine vc_seq ?_
  refine vc_region hm ?_
  refine gL trivial rfl rfl rfl rfl rfl rfl rfl rfl ?_
  refine gT trivial rfl rfl rfl rfl rfl rfl rfl rfl rfl rfl (Nat.le_of_ble_eq_true rfl) rfl ?_
  refine gM trivial (.inr rfl) rfl rfl rfl ?_
  refine rg_nil nofun ?_
  refine vc_ret ?_
  exact ⟨idm,endsF (.inr rfl) (.cell rfl rfl rfl rfl rfl (.tmp rfl rfl .nil)) (met_T p22) rfl rfl⟩
theorem spec_l4Clear_c {a b:List Sp} (hn:a.length≤1048576) (hm:b.length≤1048576):FDoes Try.prog 50 [.slice (some ⟨0,0,none⟩) a.length 0,.slice (some ⟨1,0,none⟩) b.length 0] (hp [(0,false,one ⟨rSp a,28,0⟩),(1,false,one ⟨rSp b,28,0⟩)]) { v:=.bool (clearL a b),rd:=[0,1] }:=by
 have hm:Try.prog.follows .mixedOrders=true:=by kernel_rfl
 have hd_:∀ x_ ∈ ([(0,false,one ⟨rSp a,28,0⟩),(1,false,one ⟨rSp b,28,0⟩)]:List (Nat × Bool × Fam)),∀ k_ y_,x_.2.2 k_=some y_→DetB (lt 2) y_:=by
  intro x_ hx k_ y_ e
  simp only [List.mem_cons,List.not_mem_nil,or_false] at hx
  rcases hx with rfl|rfl
  ·exact det_row (rSp_flat a) e
  ·exact det_row (rSp_flat b) e
 refine fn_exact (u0:=2) Try.func50 rfl rfl (gets rfl rfl rfl hd_ rfl) ?_
 clear hd_
 refine vc_seq ?_
 refine vc_region hm ?_
 refine gM trivial (.inr rfl) rfl rfl rfl ?_
 refine rg_nil nofun ?_
 refine vc_seq ?_
 refine vc_seq ?_
 refine vc_region hm ?_
 refine gM trivial (.inr rfl) rfl rfl rfl ?_
 refine rg_nil nofun ?_
 refine vc_block ?_
 refine vc_loop' (fun n_ S_=>∃ (i:Nat),i≤a.length∧(a.take i).any (fun x=>b.any fun y=>metB x y)=false∧n_=a.length - i∧S_=⟨2,[(0,.slice (some ⟨0,0,none⟩) a.length 0),(1,.slice (some ⟨1,0,none⟩) b.length 0),(5,.int .i64 i)],[(0,false,one ⟨rSp a,28,0⟩),(1,false,one ⟨rSp b,28,0⟩)]⟩) (m0:=idm) ⟨0,Nat.zero_le _,rfl,rfl,rfl⟩ (le_mk rfl ⟨⟨rfl,rfl⟩,⟨rfl,rfl⟩,⟨rfl,rfl⟩,trivial⟩ ⟨kFlat (rSp_flat a) rfl id rfl,kFlat (rSp_flat b) rfl id rfl,trivial⟩ rfl (fun _ _=>rfl)) ?_
 rintro n_ S_ ⟨i,hi,ha,rfl,rfl⟩
 refine vc_seq ?_
 refine vc_seq ?_
 refine vc_region hm ?_
 refine gM trivial (.inl rfl) rfl rfl rfl ?_
 refine gM trivial (.inl rfl) rfl rfl rfl ?_
 refine gK trivial rfl rfl rfl rfl rfl rfl rSp_nil ?_
 refine gI trivial rfl rfl rfl rfl rfl rfl ?_
 refine rg_nil nofun ?_
 refine cI rfl (fun c12=>?_) (fun c12=>?_)
 ·skip
  have p12:=of_decide_eq_true c12
  refine vc_skip ?_
  refine vc_seq ?_
  refine vc_block ?_
  refine vc_seq ?_
  refine vc_region hm ?_
  refine gM trivial (.inr rfl) rfl rfl rfl ?_
  refine rg_nil nofun ?_
  refine vc_block ?_
  refine vc_loop' (fun n_ S_=>∃ (k:Nat),k≤b.length∧(b.take k).any (metB (at_ a (i:Int)))=false∧n_=b.length - k∧S_=⟨2,[(0,.slice (some ⟨0,0,none⟩) a.length 0),(1,.slice (some ⟨1,0,none⟩) b.length 0),(5,.int .i64 i),(6,.int .i64 k)],[(0,false,one ⟨rSp a,28,0⟩),(1,false,one ⟨rSp b,28,0⟩)]⟩) (m0:=idm) ⟨0,Nat.zero_le _,rfl,rfl,rfl⟩ (le_mk rfl ⟨⟨rfl,rfl⟩,⟨rfl,rfl⟩,⟨rfl,rfl⟩,⟨rfl,rfl⟩,trivial⟩ ⟨kFlat (rSp_flat a) rfl id rfl,kFlat (rSp_flat b) rfl id rfl,trivial⟩ rfl (fun _ _=>rfl)) ?_
  rintro n_ S_ ⟨k,hk,hb,rfl,rfl⟩
  refine vc_seq ?_
  refine vc_seq ?_
  refine vc_region hm ?_
  refine gM trivial (.inl rfl) rfl rfl rfl ?_
  refine gM trivial (.inl rfl) rfl rfl rfl ?_
  refine gK trivial rfl rfl rfl rfl rfl rfl rSp_nil ?_
  refine gI trivial rfl rfl rfl rfl rfl rfl ?_
  refine rg_nil nofun ?_
  refine cI rfl (fun c18=>?_) (fun c18=>?_)
  ·skip
   have p18:=of_decide_eq_true c18
   refine vc_skip ?_
   refine vc_seq ?_
   refine vc_block ?_
   refine vc_seq ?_
   refine vc_region hm ?_
   refine gM trivial (.inl rfl) rfl rfl rfl ?_
   refine gM trivial (.inl rfl) rfl rfl rfl ?_
   refine gX trivial rfl rfl rfl rfl rfl rfl rfl rfl (by omega) p12 rSp_ne ?_
   refine gL trivial rfl rfl rfl rfl rfl rfl rfl (aSp (by omega) p12) ?_
   refine gM trivial (.inl rfl) rfl rfl rfl ?_
   refine gM trivial (.inl rfl) rfl rfl rfl ?_
   refine gX trivial rfl rfl rfl rfl rfl rfl rfl rfl (by omega) p18 rSp_ne ?_
   refine gL trivial rfl rfl rfl rfl rfl rfl rfl (aSp (by omega) p18) ?_
   refine gC0 [] (spec_l1Meet_c (at_ a (i:Int)) (at_ b (k:Int))) trivial rfl rfl rfl rfl (by trivial) rfl rfl rfl rfl rfl ?_
   refine gM trivial (.inl rfl) rfl rfl rfl ?_
   refine gE trivial rfl rfl rfl rfl rfl rfl ?_
   refine gE trivial rfl rfl rfl rfl rfl rfl ?_
   refine gZ (u':=3) trivial rfl rfl rfl rfl rfl rfl rfl rfl ?_
   refine gT trivial rfl rfl rfl rfl rfl rfl rfl rfl rfl rfl (Nat.le_of_ble_eq_true rfl) rfl ?_
   refine gM trivial (.inr rfl) rfl rfl rfl ?_
   refine rg_nil (fun _=>by kernel_rfl) ?_
   refine vc_seq ?_
   refine vc_region hm ?_
   refine gM trivial (.inl rfl) rfl rfl rfl ?_
   refine rg_nil nofun ?_
   refine cI rfl (fun c33=>?_) (fun c33=>?_)
   ·skip
    refine vc_seq ?_
    refine vc_region hm ?_
    refine gM trivial (.inr rfl) rfl rfl rfl ?_
    refine rg_nil nofun ?_
    refine vc_ret ?_
    exact ⟨idm,ends0 (.inr rfl) rfl (eqB (clr_in p12 p18 c33)) rfl rfl rfl⟩
   ·skip
    refine vc_skip ?_
    refine vc_region hm ?_
    refine gM trivial (.inl rfl) rfl rfl rfl ?_
    refine gA trivial rfl rfl rfl rfl rfl rfl (by omega) ?_
    refine gM trivial (.inr rfl) rfl rfl rfl ?_
    refine rg_nil nofun ?_
    exact lp_next (m:=idm) ⟨k + 1,(by omega),(any_step p18 hb c33),rfl,rfl⟩ (by omega) (le_mk rfl ⟨⟨rfl,rfl⟩,⟨rfl,rfl⟩,⟨rfl,rfl⟩,⟨rfl,rfl⟩,trivial⟩ ⟨kFlat (rSp_flat a) rfl id rfl,kFlat (rSp_flat b) rfl id rfl,trivial⟩ rfl (fun _ _=>rfl))
  ·skip
   have p18:=of_decide_eq_false c18
   refine vc_exit ?_
   refine vc_region hm ?_
   refine gM trivial (.inl rfl) rfl rfl rfl ?_
   refine gA trivial rfl rfl rfl rfl rfl rfl (by omega) ?_
   refine gM trivial (.inr rfl) rfl rfl rfl ?_
   refine rg_nil nofun ?_
   exact lp_next (m:=idm) ⟨i + 1,(by omega),(any_step p12 ha (clr_row hk p18 hb)),rfl,rfl⟩ (by omega) (le_mk rfl ⟨⟨rfl,rfl⟩,⟨rfl,rfl⟩,⟨rfl,rfl⟩,trivial⟩ ⟨kFlat (rSp_flat a) rfl id rfl,kFlat (rSp_flat b) rfl id rfl,trivial⟩ rfl (fun _ _=>rfl))
 ·skip
  have p12:=of_decide_eq_false c12
  refine vc_exit ?_
  refine vc_seq ?_
  refine vc_region hm ?_
  refine gM trivial (.inr rfl) rfl rfl rfl ?_
  refine rg_nil nofun ?_
  refine vc_ret ?_
  exact ⟨idm,ends0 (.inr rfl) rfl (eqB (clr_end hi p12 ha)) rfl rfl rfl⟩
theorem rCode {m:Nat→Nat} {hc:List (Nat × Bool × Fam)} {b k t:Nat} {o':Bool} {l:List Int} (hl:hc.lookup (m b)=some (o',one ⟨hls k (rY l),t,0⟩)) (hb:Nat.blt (m b) 1000=true):m b<1000∧∃ o' F',hc.lookup (m b)=some (o',F')∧FamLe (rnF m (one ⟨hls k (rY l),t,0⟩)) F':=rFlat (hls_flat (rY_flat l)) hl (.inl rfl) (by rw [hb,Bool.true_and,Bool.or_eq_true];exact .inr rfl)
theorem ho1 {h:Nat→Option (Bool × Fam)} {m:Nat→Nat} {b:Nat} {F:Fam} (ho:Owned h (m b)):∀ x ∈ [(b,F)],Owned h (m x.1):=fun x hx=>by
 obtain rfl:=List.mem_singleton.1 hx
 exact ho
theorem hu1 {hl:List (Nat × Bool × Fam)} {b:Nat} {x y:Blk} (h:hl.lookup b=some (true,one y)):∀ z ∈ [(b,one x)],∃ F,hl.lookup z.1=some (true,F)∧∀ k,z.2 k ≠ none→F k ≠ none:=fun z hz=>by
 obtain rfl:=List.mem_singleton.1 hz
 refine ⟨_,h,fun k hk=>?_⟩
 by_cases e:k=0 <;> simp_all [one]
theorem num_c {l:List Int} {k n t0:Nat} {p:Int} (hl:ByL l) (hn:n≤l.length) (hp0:0≤p) (hp1:p≤999000) {L:List Int} {a b:Int} (hL:1≤L.length∧L.length≤1000) (hb:∀ x ∈ L,a≤x∧x≤b):∃ E,FDoes Try.prog 77 [.pointer (some ⟨1,0,none⟩),.slice (some ⟨2,0,none⟩) L.length 0] (hp [(0,false,one ⟨hls k (rY l),t0,0⟩),(1,true,one ⟨[.slice (some ⟨0,k,none⟩) n 0,.int .i64 (p)],82,2⟩),(2,false,one ⟨rI L,3,0⟩)]) E∧∃ x:Int,a≤x∧x≤b∧E=mkF (.int .i64 x) [0,2] [(1,one ⟨[.slice (some ⟨0,k,none⟩) n 0,.int .i64 (p + 1)],82,2⟩)] []:=by
 have hm:Try.prog.follows .mixedOrders=true:=by kernel_rfl
 have hd_:∀ x_ ∈ ([(0,false,one ⟨hls k (rY l),t0,0⟩),(1,true,one ⟨[.slice (some ⟨0,k,none⟩) n 0,.int .i64 (p)],82,2⟩),(2,false,one ⟨rI L,3,0⟩)]:List (Nat × Bool × Fam)),∀ k_ y_,x_.2.2 k_=some y_→DetB (lt 3) y_:=by
  intro x_ hx k_ y_ e
  simp only [List.mem_cons,List.not_mem_nil,or_false] at hx
  rcases hx with rfl|rfl|rfl
  ·exact det_code e
  ·exact det_ok rfl e
  ·exact det_row (rI_flat L) e
 refine fn_some (u0:=3) Try.func77 rfl rfl (gets rfl rfl rfl hd_ rfl) ?_
 clear hd_
 refine vc_seq ?_
 refine vc_region hm ?_
 refine gM trivial (.inr rfl) rfl rfl rfl ?_
 refine rg_nil nofun ?_
 refine vc_seq ?_
 refine vc_region hm ?_
 refine gM trivial (.inl rfl) rfl rfl rfl ?_
 refine gM trivial (.inl rfl) rfl rfl rfl ?_
 refine gM trivial (.inl rfl) rfl rfl rfl ?_
 refine gK trivial rfl rfl rfl rfl rfl rfl rI_nil ?_
 obtain ⟨E1,hE1,x1,x1a,x1b,rfl⟩:=pick_c (k:=k) (t0:=t0) (p:=p) hl hn (by omega) (by omega) (m:=L.length) (by omega) (by omega)
 refine gCF (ups':=[(1,one ⟨[.slice (some ⟨0,k,none⟩) n 0,.int .i64 (p + 1)],82,2⟩)]) (as':=[]) (v':=.int .i64 x1) 3 [0,1] hE1 trivial rfl rfl rfl rfl ⟨rCode rfl rfl,rCells rfl ⟨rfl,rfl,.inr rfl⟩ rfl,trivial⟩ ⟨frOne rfl rfl,trivial⟩ trivial rfl rfl (ho1 ⟨_,rfl⟩) (hu1 rfl) rfl rfl ?_
 refine gX trivial rfl rfl rfl rfl rfl rfl rfl rfl (by omega) (by omega) rI_ne ?_
 refine gL trivial rfl rfl rfl rfl rfl rfl rfl (lI (by omega) (by omega)) ?_
 refine gM trivial (.inr rfl) rfl rfl rfl ?_
 refine rg_nil nofun ?_
 refine vc_ret ?_
 exact ⟨mkF (.int .i64 (at_ L x1)) [0,2] [(1,one ⟨[.slice (some ⟨0,k,none⟩) n 0,.int .i64 (p + 1)],82,2⟩)] [],_,endsT [] (.inr rfl) (.tmp rfl rfl .nil) rfl rfl ⟨upOne rfl rfl rfl,trivial⟩ trivial rfl,_,(hb _ (at_mem (by omega) (by omega))).1,(hb _ (at_mem (by omega) (by omega))).2,rfl⟩
theorem span_c {l:List Int} {k n t0:Nat} {p:Int} (hl:ByL l) (hn:n≤l.length) (hp0:0≤p) (hp1:p≤998000):∃ E,FDoes Try.prog 57 [.pointer (some ⟨1,0,none⟩)] (hp [(0,false,one ⟨hls k (rY l),t0,0⟩),(1,true,one ⟨[.slice (some ⟨0,k,none⟩) n 0,.int .i64 (p)],82,2⟩)]) E∧∃ (s:Sp) (p2:Int),0≤s.lo∧s.lo<s.hi∧s.hi≤48∧p≤p2∧p2≤p + 2∧E=mkF (vSp s) [0] [(1,one ⟨[.slice (some ⟨0,k,none⟩) n 0,.int .i64 (p2)],82,2⟩)] []:=by
 have hm:Try.prog.follows .mixedOrders=true:=by kernel_rfl
 have hd_:∀ x_ ∈ ([(0,false,one ⟨hls k (rY l),t0,0⟩),(1,true,one ⟨[.slice (some ⟨0,k,none⟩) n 0,.int .i64 (p)],82,2⟩)]:List (Nat × Bool × Fam)),∀ k_ y_,x_.2.2 k_=some y_→DetB (lt 2) y_:=by
  intro x_ hx k_ y_ e
  simp only [List.mem_cons,List.not_mem_nil,or_false] at hx
  rcases hx with rfl|rfl
  ·exact det_code e
  ·exact det_ok rfl e
 refine fn_some (u0:=2) Try.func57 rfl rfl (gets rfl rfl rfl hd_ rfl) ?_
 clear hd_
 refine vc_seq ?_
 refine vc_region hm ?_
 refine gZ (u':=3) trivial rfl rfl rfl rfl rfl rfl rfl rfl ?_
 refine rg_nil nofun ?_
 refine vc_seq ?_
 refine vc_region hm ?_
 refine gM trivial (.inl rfl) rfl rfl rfl ?_
 obtain ⟨E1,hE1,x1,x1a,x1b,rfl⟩:=pick_c (k:=k) (t0:=t0) (p:=p) hl hn (by omega) (by omega) (m:=47) (by omega) (by omega)
 refine gCF (ups':=[(1,one ⟨[.slice (some ⟨0,k,none⟩) n 0,.int .i64 (p + 1)],82,2⟩)]) (as':=[]) (v':=.int .i64 x1) 3 [0,1] hE1 trivial rfl rfl rfl rfl ⟨rCode rfl rfl,rCells rfl ⟨rfl,rfl,.inr rfl⟩ rfl,trivial⟩ ⟨frOne rfl rfl,trivial⟩ trivial rfl rfl (ho1 ⟨_,rfl⟩) (hu1 rfl) rfl rfl ?_
 refine gM trivial (.inr rfl) rfl rfl rfl ?_
 refine rg_nil nofun ?_
 refine vc_seq ?_
 refine vc_region hm ?_
 refine gM trivial (.inl rfl) rfl rfl rfl ?_
 refine gM trivial (.inl rfl) rfl rfl rfl ?_
 refine gA trivial rfl rfl rfl rfl rfl rfl (by omega) ?_
 refine gM trivial (.inl rfl) rfl rfl rfl ?_
 refine gR (u':=4) (out:=rI [0,1,3,5,9,20,47]) trivial rfl rfl rfl rfl rfl rfl rfl rfl rfl rfl rfl rfl rfl rfl ?_
 obtain ⟨E2,hE2,x2,x2a,x2b,rfl⟩:=num_c (k:=k) (t0:=t0) (p:=p + 1) hl hn (by omega) (by omega) (L:=[0,1,3,5,9,20,47]) (a:=0) (b:=47) (by decide) (by decide)
 refine gCF (ups':=[(1,one ⟨[.slice (some ⟨0,k,none⟩) n 0,.int .i64 (p + 1 + 1)],82,2⟩)]) (as':=[]) (v':=.int .i64 x2) 4 [0,1,3] hE2 trivial rfl rfl rfl rfl ⟨rCode rfl rfl,rCells rfl ⟨rfl,rfl,.inr rfl⟩ rfl,rFlat (rI_flat _) rfl (.inl rfl) rfl,trivial⟩ ⟨frOne rfl rfl,trivial⟩ trivial rfl rfl (ho1 ⟨_,rfl⟩) (hu1 rfl) rfl rfl ?_
 refine gA trivial rfl rfl rfl rfl rfl rfl (by omega) ?_
 refine gC0 [] (spec_l1Min_c 48 (x1 + 1 + x2)) trivial rfl rfl rfl rfl (by trivial) rfl rfl rfl rfl rfl ?_
 refine gU trivial rfl rfl rfl rfl rfl rfl rfl rfl ?_
 refine gT trivial rfl rfl rfl rfl rfl rfl rfl rfl rfl rfl (Nat.le_of_ble_eq_true rfl) rfl ?_
 refine rg_nil nofun ?_
 refine vc_ret ?_
 exact ⟨mkF (vSp ⟨x1,mnI 48 (x1 + 1 + x2)⟩) [0] [(1,one ⟨[.slice (some ⟨0,k,none⟩) n 0,.int .i64 (p + 1 + 1)],82,2⟩)] [],_,endsT [] (.inr rfl) (.cell rfl rfl rfl rfl rfl .nil) rfl rfl ⟨upOne rfl rfl rfl,trivial⟩ trivial rfl,⟨x1,mnI 48 (x1 + 1 + x2)⟩,_,by omega,(by show x1<mnI 48 _;unfold mnI;split <;> omega),(by show mnI 48 _≤48;unfold mnI;split <;> omega),(by omega),(by omega),rfl⟩
theorem some_c {l:List Int} {k n t0:Nat} {p:Int} (hl:ByL l) (hn:n≤l.length) (hp0:0≤p) (hp1:p≤997000):∃ E,FDoes Try.prog 85 [.pointer (some ⟨1,0,none⟩)] (hp [(0,false,one ⟨hls k (rY l),t0,0⟩),(1,true,one ⟨[.slice (some ⟨0,k,none⟩) n 0,.int .i64 (p)],82,2⟩)]) E∧∃ (s:Sp) (p2:Int),p≤p2∧p2≤p + 3∧E=mkF (vSp s) [0] [(1,one ⟨[.slice (some ⟨0,k,none⟩) n 0,.int .i64 (p2)],82,2⟩)] []:=by
 have hm:Try.prog.follows .mixedOrders=true:=by kernel_rfl
 have hd_:∀ x_ ∈ ([(0,false,one ⟨hls k (rY l),t0,0⟩),(1,true,one ⟨[.slice (some ⟨0,k,none⟩) n 0,.int .i64 (p)],82,2⟩)]:List (Nat × Bool × Fam)),∀ k_ y_,x_.2.2 k_=some y_→DetB (lt 2) y_:=by
  intro x_ hx k_ y_ e
  simp only [List.mem_cons,List.not_mem_nil,or_false] at hx
  rcases hx with rfl|rfl
  ·exact det_code e
  ·exact det_ok rfl e
 refine fn_some (u0:=2) Try.func85 rfl rfl (gets rfl rfl rfl hd_ rfl) ?_
 clear hd_
 refine vc_seq ?_
 refine vc_region hm ?_
 refine gZ (u':=3) trivial rfl rfl rfl rfl rfl rfl rfl rfl ?_
 refine rg_nil nofun ?_
 refine vc_seq ?_
 refine vc_region hm ?_
 refine gM trivial (.inl rfl) rfl rfl rfl ?_
 obtain ⟨E1,hE1,s1,p1,s1a,s1b,s1c,q1a,q1b,rfl⟩:=span_c (k:=k) (t0:=t0) (p:=p) hl hn (by omega) (by omega) 
 refine gCF (ups':=[(1,one ⟨[.slice (some ⟨0,k,none⟩) n 0,.int .i64 (p1)],82,2⟩)]) (as':=[]) (v':=vSp s1) 3 [0,1] hE1 trivial rfl rfl rfl rfl ⟨rCode rfl rfl,rCells rfl ⟨rfl,rfl,.inr rfl⟩ rfl,trivial⟩ ⟨frOne rfl rfl,trivial⟩ trivial rfl rfl (ho1 ⟨_,rfl⟩) (hu1 rfl) rfl rfl ?_
 refine gZ (u':=4) trivial rfl rfl rfl rfl rfl rfl rfl rfl ?_
 refine gT trivial rfl rfl rfl rfl rfl rfl rfl rfl rfl rfl (Nat.le_of_ble_eq_true rfl) rfl ?_
 refine rg_nil nofun ?_
 refine vc_seq ?_
 refine vc_seq ?_
 refine vc_region hm ?_
 refine gM trivial (.inl rfl) rfl rfl rfl ?_
 obtain ⟨E2,hE2,x2,x2a,x2b,rfl⟩:=pick_c (k:=k) (t0:=t0) (p:=p1) hl hn (by omega) (by omega) (m:=48) (by omega) (by omega)
 refine gCF (ups':=[(1,one ⟨[.slice (some ⟨0,k,none⟩) n 0,.int .i64 (p1 + 1)],82,2⟩)]) (as':=[]) (v':=.int .i64 x2) 4 [0,1] hE2 trivial rfl rfl rfl rfl ⟨rCode rfl rfl,rCells rfl ⟨rfl,rfl,.inr rfl⟩ rfl,trivial⟩ ⟨frOne rfl rfl,trivial⟩ trivial rfl rfl (ho1 ⟨_,rfl⟩) (hu1 rfl) rfl rfl ?_
 refine rg_nil nofun ?_
 refine vc_block ?_
 refine vc_seq ?_
 refine vc_region hm ?_
 refine gI trivial rfl rfl rfl rfl rfl rfl ?_
 refine gM trivial (.inr rfl) rfl rfl rfl ?_
 refine rg_nil nofun ?_
 refine cI rfl (fun c8=>?_) (fun c8=>?_)
 ·skip
  have p8:=eq_of_beq c8
  refine vc_region hm ?_
  refine gF trivial rfl rfl rfl rfl rfl ?_
  refine gL trivial rfl rfl rfl rfl rfl rfl rfl rfl ?_
  refine gF trivial rfl rfl rfl rfl rfl ?_
  refine gT trivial rfl rfl rfl rfl rfl rfl rfl rfl rfl rfl (Nat.le_of_ble_eq_true rfl) rfl ?_
  refine rg_nil nofun ?_
  refine vc_seq ?_
  refine vc_region hm ?_
  refine gL trivial rfl rfl rfl rfl rfl rfl rfl rfl ?_
  refine gT trivial rfl rfl rfl rfl rfl rfl rfl rfl rfl rfl (Nat.le_of_ble_eq_true rfl) rfl ?_
  refine rg_nil nofun ?_
  refine vc_ret ?_
  exact ⟨mkF (vSp ⟨s1.lo,s1.lo⟩) [0] [(1,one ⟨[.slice (some ⟨0,k,none⟩) n 0,.int .i64 (p1 + 1)],82,2⟩)] [],_,endsT [] (.inr rfl) (.cell rfl rfl rfl rfl rfl .nil) rfl rfl ⟨upOne rfl rfl rfl,trivial⟩ trivial rfl,⟨s1.lo,s1.lo⟩,_,(by omega),(by omega),rfl⟩
 ·skip
  have p8:=ne_of_beq_false c8
  refine vc_seq ?_
  refine vc_region hm ?_
  refine gI trivial rfl rfl rfl rfl rfl rfl ?_
  refine gM trivial (.inr rfl) rfl rfl rfl ?_
  refine rg_nil nofun ?_
  refine cI rfl (fun c13=>?_) (fun c13=>?_)
  ·skip
   have p13:=eq_of_beq c13
   refine vc_region hm ?_
   refine gF trivial rfl rfl rfl rfl rfl ?_
   refine gT trivial rfl rfl rfl rfl rfl rfl rfl rfl rfl rfl (Nat.le_of_ble_eq_true rfl) rfl ?_
   refine rg_nil nofun ?_
   refine vc_seq ?_
   refine vc_region hm ?_
   refine gL trivial rfl rfl rfl rfl rfl rfl rfl rfl ?_
   refine gT trivial rfl rfl rfl rfl rfl rfl rfl rfl rfl rfl (Nat.le_of_ble_eq_true rfl) rfl ?_
   refine rg_nil nofun ?_
   refine vc_ret ?_
   exact ⟨mkF (vSp ⟨-1,s1.hi⟩) [0] [(1,one ⟨[.slice (some ⟨0,k,none⟩) n 0,.int .i64 (p1 + 1)],82,2⟩)] [],_,endsT [] (.inr rfl) (.cell rfl rfl rfl rfl rfl .nil) rfl rfl ⟨upOne rfl rfl rfl,trivial⟩ trivial rfl,⟨-1,s1.hi⟩,_,(by omega),(by omega),rfl⟩
  ·skip
   have p13:=ne_of_beq_false c13
   refine vc_seq ?_
   refine vc_region hm ?_
   refine gI trivial rfl rfl rfl rfl rfl rfl ?_
   refine gM trivial (.inr rfl) rfl rfl rfl ?_
   refine rg_nil nofun ?_
   refine cI rfl (fun c16=>?_) (fun c16=>?_)
   ·skip
    have p16:=eq_of_beq c16
    refine vc_region hm ?_
    refine gF trivial rfl rfl rfl rfl rfl ?_
    refine gT trivial rfl rfl rfl rfl rfl rfl rfl rfl rfl rfl (Nat.le_of_ble_eq_true rfl) rfl ?_
    refine rg_nil nofun ?_
    refine vc_seq ?_
    refine vc_region hm ?_
    refine gL trivial rfl rfl rfl rfl rfl rfl rfl rfl ?_
    refine gT trivial rfl rfl rfl rfl rfl rfl rfl rfl rfl rfl (Nat.le_of_ble_eq_true rfl) rfl ?_
    refine rg_nil nofun ?_
    refine vc_ret ?_
    exact ⟨mkF (vSp ⟨s1.lo,49⟩) [0] [(1,one ⟨[.slice (some ⟨0,k,none⟩) n 0,.int .i64 (p1 + 1)],82,2⟩)] [],_,endsT [] (.inr rfl) (.cell rfl rfl rfl rfl rfl .nil) rfl rfl ⟨upOne rfl rfl rfl,trivial⟩ trivial rfl,⟨s1.lo,49⟩,_,(by omega),(by omega),rfl⟩
   ·skip
    have p16:=ne_of_beq_false c16
    refine vc_seq ?_
    refine vc_region hm ?_
    refine gI trivial rfl rfl rfl rfl rfl rfl ?_
    refine gM trivial (.inr rfl) rfl rfl rfl ?_
    refine rg_nil nofun ?_
    refine cI rfl (fun c19=>?_) (fun c19=>?_)
    ·skip
     have p19:=eq_of_beq c19
     refine vc_seq ?_
     refine vc_region hm ?_
     refine gU trivial rfl rfl rfl rfl rfl rfl rfl rfl ?_
     refine gT trivial rfl rfl rfl rfl rfl rfl rfl rfl rfl rfl (Nat.le_of_ble_eq_true rfl) rfl ?_
     refine rg_nil nofun ?_
     refine vc_ret ?_
     exact ⟨mkF (vSp ⟨9223372036854775807,-9223372036854775808⟩) [0] [(1,one ⟨[.slice (some ⟨0,k,none⟩) n 0,.int .i64 (p1 + 1)],82,2⟩)] [],_,endsT [] (.inr rfl) (.cell rfl rfl rfl rfl rfl .nil) rfl rfl ⟨upOne rfl rfl rfl,trivial⟩ trivial rfl,⟨9223372036854775807,-9223372036854775808⟩,_,(by omega),(by omega),rfl⟩
    ·skip
     have p19:=ne_of_beq_false c19
     refine vc_skip ?_
     refine vc_seq ?_
     refine vc_region hm ?_
     refine gL trivial rfl rfl rfl rfl rfl rfl rfl rfl ?_
     refine gT trivial rfl rfl rfl rfl rfl rfl rfl rfl rfl rfl (Nat.le_of_ble_eq_true rfl) rfl ?_
     refine rg_nil nofun ?_
     refine vc_ret ?_
     exact ⟨mkF (vSp s1) [0] [(1,one ⟨[.slice (some ⟨0,k,none⟩) n 0,.int .i64 (p1 + 1)],82,2⟩)] [],_,endsT [] (.inr rfl) (.cell rfl rfl rfl rfl rfl .nil) rfl rfl ⟨upOne rfl rfl rfl,trivial⟩ trivial rfl,s1,_,(by omega),(by omega),rfl⟩
theorem whoDraw_c {l:List Int} {k n t0:Nat} {p:Int} (hl:ByL l) (hn:n≤l.length) (hp0:0≤p) (hp1:p≤997000):∃ E,FDoes Try.prog 79 [.pointer (some ⟨1,0,none⟩)] (hp [(0,false,one ⟨hls k (rY l),t0,0⟩),(1,true,one ⟨[.slice (some ⟨0,k,none⟩) n 0,.int .i64 (p)],82,2⟩)]) E∧∃ (who p2:Int),p≤p2∧p2≤p + 2∧E=mkF (.int .i64 who) [0] [(1,one ⟨[.slice (some ⟨0,k,none⟩) n 0,.int .i64 (p2)],82,2⟩)] []:=by
 have hm:Try.prog.follows .mixedOrders=true:=by kernel_rfl
 have hd_:∀ x_ ∈ ([(0,false,one ⟨hls k (rY l),t0,0⟩),(1,true,one ⟨[.slice (some ⟨0,k,none⟩) n 0,.int .i64 (p)],82,2⟩)]:List (Nat × Bool × Fam)),∀ k_ y_,x_.2.2 k_=some y_→DetB (lt 2) y_:=by
  intro x_ hx k_ y_ e
  simp only [List.mem_cons,List.not_mem_nil,or_false] at hx
  rcases hx with rfl|rfl
  ·exact det_code e
  ·exact det_ok rfl e
 refine fn_some (u0:=2) Try.func79 rfl rfl (gets rfl rfl rfl hd_ rfl) ?_
 clear hd_
 refine vc_seq ?_
 refine vc_region hm ?_
 refine gM trivial (.inr rfl) rfl rfl rfl ?_
 refine rg_nil nofun ?_
 refine vc_seq ?_
 refine vc_seq ?_
 refine vc_region hm ?_
 refine gM trivial (.inl rfl) rfl rfl rfl ?_
 obtain ⟨E1,hE1,x1,x1a,x1b,rfl⟩:=pick_c (k:=k) (t0:=t0) (p:=p) hl hn (by omega) (by omega) (m:=20) (by omega) (by omega)
 refine gCF (ups':=[(1,one ⟨[.slice (some ⟨0,k,none⟩) n 0,.int .i64 (p + 1)],82,2⟩)]) (as':=[]) (v':=.int .i64 x1) 2 [0,1] hE1 trivial rfl rfl rfl rfl ⟨rCode rfl rfl,rCells rfl ⟨rfl,rfl,.inr rfl⟩ rfl,trivial⟩ ⟨frOne rfl rfl,trivial⟩ trivial rfl rfl (ho1 ⟨_,rfl⟩) (hu1 rfl) rfl rfl ?_
 refine gI trivial rfl rfl rfl rfl rfl rfl ?_
 refine rg_nil nofun ?_
 refine cI rfl (fun c5=>?_) (fun c5=>?_)
 ·skip
  have p5:=eq_of_beq c5
  refine vc_seq ?_
  refine vc_region hm ?_
  refine gM trivial (.inl rfl) rfl rfl rfl ?_
  refine gR (u':=3) (out:=rI [-1,3,9223372036854775807]) trivial rfl rfl rfl rfl rfl rfl rfl rfl rfl rfl rfl rfl rfl rfl ?_
  obtain ⟨E3,hE3,x3,x3a,x3b,rfl⟩:=num_c (k:=k) (t0:=t0) (p:=p + 1) hl hn (by omega) (by omega) (L:=[-1,3,9223372036854775807]) (a:=-1) (b:=9223372036854775807) (by decide) (by decide)
  refine gCF (ups':=[(1,one ⟨[.slice (some ⟨0,k,none⟩) n 0,.int .i64 (p + 1 + 1)],82,2⟩)]) (as':=[]) (v':=.int .i64 x3) 3 [0,1,2] hE3 trivial rfl rfl rfl rfl ⟨rCode rfl rfl,rCells rfl ⟨rfl,rfl,.inr rfl⟩ rfl,rFlat (rI_flat _) rfl (.inl rfl) rfl,trivial⟩ ⟨frOne rfl rfl,trivial⟩ trivial rfl rfl (ho1 ⟨_,rfl⟩) (hu1 rfl) rfl rfl ?_
  refine gM trivial (.inr rfl) rfl rfl rfl ?_
  refine rg_nil nofun ?_
  refine vc_ret ?_
  exact ⟨mkF (.int .i64 x3) [0] [(1,one ⟨[.slice (some ⟨0,k,none⟩) n 0,.int .i64 (p + 1 + 1)],82,2⟩)] [],_,endsT [] (.inr rfl) (.tmp rfl rfl .nil) rfl rfl ⟨upOne rfl rfl rfl,trivial⟩ trivial rfl,x3,_,(by omega),(by omega),rfl⟩
 ·skip
  have p5:=ne_of_beq_false c5
  refine vc_skip ?_
  refine vc_seq ?_
  refine vc_region hm ?_
  refine gM trivial (.inl rfl) rfl rfl rfl ?_
  obtain ⟨E4,hE4,x4,x4a,x4b,rfl⟩:=pick_c (k:=k) (t0:=t0) (p:=p + 1) hl hn (by omega) (by omega) (m:=3) (by omega) (by omega)
  refine gCF (ups':=[(1,one ⟨[.slice (some ⟨0,k,none⟩) n 0,.int .i64 (p + 1 + 1)],82,2⟩)]) (as':=[]) (v':=.int .i64 x4) 2 [0,1] hE4 trivial rfl rfl rfl rfl ⟨rCode rfl rfl,rCells rfl ⟨rfl,rfl,.inr rfl⟩ rfl,trivial⟩ ⟨frOne rfl rfl,trivial⟩ trivial rfl rfl (ho1 ⟨_,rfl⟩) (hu1 rfl) rfl rfl ?_
  refine gM trivial (.inr rfl) rfl rfl rfl ?_
  refine rg_nil nofun ?_
  refine vc_ret ?_
  exact ⟨mkF (.int .i64 x4) [0] [(1,one ⟨[.slice (some ⟨0,k,none⟩) n 0,.int .i64 (p + 1 + 1)],82,2⟩)] [],_,endsT [] (.inr rfl) (.tmp rfl rfl .nil) rfl rfl ⟨upOne rfl rfl rfl,trivial⟩ trivial rfl,x4,_,(by omega),(by omega),rfl⟩
theorem meet_c (f g:Nat→Bool):FDoes Try.prog 47 [vPl f,vPl g] (hp []) { v:=vPl fun i=>f i && g i }:=by
 have hm:Try.prog.follows .mixedOrders=true:=by kernel_rfl
 have hd_:∀ x ∈ ([]:List (Nat × Bool × Fam)),∀ k y,x.2.2 k=some y→DetB (lt 0) y:=fun x_ hx=>(by cases hx)
 refine fn_exact (u0:=0) Try.func47 rfl rfl (gets rfl rfl rfl hd_ rfl) ?_
 clear hd_
 refine vc_seq ?_
 refine vc_region hm ?_
 refine gB (u':=1) trivial rfl rfl rfl rfl rfl rfl rfl (show cellsL _=plL f from rfl) ?_
 refine gB (u':=2) trivial rfl rfl rfl rfl rfl rfl rfl (show cellsL _=plL g from rfl) ?_
 refine gZ (u':=3) trivial rfl rfl rfl rfl rfl rfl rfl (show cellsL _=plL (fun _=>false) from rfl) ?_
 refine rg_nil nofun ?_
 refine vc_seq ?_
 refine vc_seq ?_
 refine vc_region hm ?_
 refine gL trivial rfl rfl rfl rfl rfl rfl rfl wPl ?_
 refine gM trivial (.inl rfl) rfl rfl rfl ?_
 refine rg_nil nofun ?_
 refine vc_block ?_
 refine vc_loop' (fun n_ S_=>∃ (j:Nat),j≤48∧n_=48 - j∧S_=⟨3,[(2,.pointer (some ⟨0,0,none⟩)),(4,.pointer (some ⟨2,0,none⟩)),(7,vPl g),(8,.int .i64 j)],[(0,true,one ⟨plL (meetTo f g j),59,48⟩),(2,true,one ⟨plL (fun _=>false),59,48⟩)]⟩) (m0:=idm) ⟨0,Nat.zero_le _,rfl,rfl⟩ (le_mk rfl ⟨⟨rfl,rfl⟩,⟨rfl,rfl⟩,⟨rfl,rfl⟩,⟨rfl,rfl⟩,trivial⟩ ⟨kFlat (plL_flat _) (eqH meet_0) id rfl,kFlat (plL_flat _) rfl id rfl,trivial⟩ rfl (fun _ _=>rfl)) ?_
 rintro n_ S_ ⟨j,hj,rfl,rfl⟩
 refine vc_seq ?_
 refine vc_region hm ?_
 refine gI trivial rfl rfl rfl rfl rfl rfl ?_
 refine rg_nil nofun ?_
 refine vc_seq ?_
 refine cI rfl (fun c9=>?_) (fun c9=>?_)
 ·skip
  have p9:=of_decide_eq_true c9
  refine vc_skip ?_
  refine vc_seq ?_
  refine vc_block ?_
  refine vc_seq ?_
  refine vc_region hm ?_
  refine gM trivial (.inl rfl) rfl rfl rfl ?_
  refine gIV trivial rfl rfl rfl rfl rfl rfl rfl rfl (by omega) (by omega) ?_
  refine gM trivial (.inr rfl) rfl rfl rfl ?_
  refine gM trivial (.inr rfl) rfl rfl rfl ?_
  refine rg_nil nofun ?_
  refine vc_region hm ?_
  refine gM trivial (.inl rfl) rfl rfl rfl ?_
  refine gM trivial (.inl rfl) rfl rfl rfl ?_
  refine gXA trivial rfl rfl rfl rfl rfl rfl rfl (by omega) (by omega) ?_
  refine gL trivial rfl rfl rfl rfl rfl rfl rfl (lPl (by omega) (by omega)) ?_
  refine gM trivial (.inl rfl) rfl rfl rfl ?_
  refine gI2 (d:=16) rfl (fun c16=>?_) (fun c16=>?_)
  ·skip
   refine gM ⟨_,_,rfl,rfl,c16⟩ (.inl rfl) rfl rfl rfl ?_
   refine gPT trivial rfl rfl c16 rfl rfl rfl ?_
   refine gXA trivial rfl rfl rfl rfl rfl rfl rfl (by omega) (by omega) ?_
   refine gT trivial rfl rfl rfl rfl rfl rfl rfl rfl rfl rfl (kPl (by omega) (by omega)) (sPl (by omega) (by omega)) ?_
   refine rg_nil nofun ?_
   refine vc_region hm ?_
   refine gA trivial rfl rfl rfl rfl rfl rfl (by omega) ?_
   refine gM trivial (.inl rfl) rfl rfl rfl ?_
   refine rg_nil nofun ?_
   exact lp_next (m:=idm) ⟨j + 1,(by omega),rfl,rfl⟩ (by omega) (le_mk rfl ⟨⟨rfl,rfl⟩,⟨rfl,rfl⟩,⟨rfl,rfl⟩,⟨rfl,rfl⟩,trivial⟩ ⟨kFlat (plL_flat _) (eqH (meet_step (by first|exact meet_b1 c16|exact meet_b2 c16))) id rfl,kFlat (plL_flat _) rfl id rfl,trivial⟩ rfl (fun _ _=>rfl))
  ·skip
   refine gO ⟨_,_,rfl,rfl,c16⟩ rfl rfl ?_
   refine gPF trivial rfl rfl c16 rfl rfl rfl ?_
   refine gXA trivial rfl rfl rfl rfl rfl rfl rfl (by omega) (by omega) ?_
   refine gT trivial rfl rfl rfl rfl rfl rfl rfl rfl rfl rfl (kPl (by omega) (by omega)) (sPl (by omega) (by omega)) ?_
   refine rg_nil nofun ?_
   refine vc_region hm ?_
   refine gA trivial rfl rfl rfl rfl rfl rfl (by omega) ?_
   refine gM trivial (.inl rfl) rfl rfl rfl ?_
   refine rg_nil nofun ?_
   exact lp_next (m:=idm) ⟨j + 1,(by omega),rfl,rfl⟩ (by omega) (le_mk rfl ⟨⟨rfl,rfl⟩,⟨rfl,rfl⟩,⟨rfl,rfl⟩,⟨rfl,rfl⟩,trivial⟩ ⟨kFlat (plL_flat _) (eqH (meet_step (by first|exact meet_b1 c16|exact meet_b2 c16))) id rfl,kFlat (plL_flat _) rfl id rfl,trivial⟩ rfl (fun _ _=>rfl))
 ·skip
  have p9:=of_decide_eq_false c9
  refine vc_exit ?_
  refine vc_seq ?_
  refine vc_region hm ?_
  refine gL trivial rfl rfl rfl rfl rfl rfl rfl wPl ?_
  refine gT trivial rfl rfl rfl rfl rfl rfl rfl rfl rfl rfl zPl pPl ?_
  refine rg_nil nofun ?_
  refine vc_ret ?_
  exact ⟨idm,endsF (.inr rfl) (.cell rfl rfl rfl rfl wPl .nil) (meet_48 (by omega)) (vPl_flat _) rfl⟩
theorem put_c (f g:Nat→Bool) (b:Bool):FDoes Try.prog 48 [vPl f,vPl g,.bool b] (hp []) { v:=vPl (putP f g b) }:=by
 have hm:Try.prog.follows .mixedOrders=true:=by kernel_rfl
 have hd_:∀ x ∈ ([]:List (Nat × Bool × Fam)),∀ k y,x.2.2 k=some y→DetB (lt 0) y:=fun x_ hx=>(by cases hx)
 refine fn_exact (u0:=0) Try.func48 rfl rfl (gets rfl rfl rfl hd_ rfl) ?_
 clear hd_
 refine vc_seq ?_
 refine vc_region hm ?_
 refine gB (u':=1) trivial rfl rfl rfl rfl rfl rfl rfl (show cellsL _=plL f from rfl) ?_
 refine gB (u':=2) trivial rfl rfl rfl rfl rfl rfl rfl (show cellsL _=plL g from rfl) ?_
 refine gZ (u':=3) trivial rfl rfl rfl rfl rfl rfl rfl (show cellsL _=plL (fun _=>false) from rfl) ?_
 refine rg_nil nofun ?_
 refine vc_seq ?_
 refine vc_seq ?_
 refine vc_region hm ?_
 refine gL trivial rfl rfl rfl rfl rfl rfl rfl wPl ?_
 refine gM trivial (.inl rfl) rfl rfl rfl ?_
 refine rg_nil nofun ?_
 refine vc_block ?_
 refine vc_loop' (fun n_ S_=>∃ (j:Nat),j≤48∧n_=48 - j∧S_=⟨3,[(2,.bool b),(3,.pointer (some ⟨0,0,none⟩)),(6,.pointer (some ⟨2,0,none⟩)),(9,vPl g),(10,.int .i64 j)],[(0,true,one ⟨plL (putTo f g b j),59,48⟩),(2,true,one ⟨plL (fun _=>false),59,48⟩)]⟩) (m0:=idm) ⟨0,Nat.zero_le _,rfl,rfl⟩ (le_mk rfl ⟨⟨rfl,rfl⟩,⟨rfl,rfl⟩,⟨rfl,rfl⟩,⟨rfl,rfl⟩,⟨rfl,rfl⟩,trivial⟩ ⟨kFlat (plL_flat _) (eqH put_0) id rfl,kFlat (plL_flat _) rfl id rfl,trivial⟩ rfl (fun _ _=>rfl)) ?_
 rintro n_ S_ ⟨j,hj,rfl,rfl⟩
 refine vc_seq ?_
 refine vc_region hm ?_
 refine gI trivial rfl rfl rfl rfl rfl rfl ?_
 refine rg_nil nofun ?_
 refine vc_seq ?_
 refine cI rfl (fun c11=>?_) (fun c11=>?_)
 ·skip
  have p11:=of_decide_eq_true c11
  refine vc_skip ?_
  refine vc_seq ?_
  refine vc_block ?_
  refine vc_seq ?_
  refine vc_region hm ?_
  refine gM trivial (.inl rfl) rfl rfl rfl ?_
  refine gIV trivial rfl rfl rfl rfl rfl rfl rfl rfl (by omega) (by omega) ?_
  refine gM trivial (.inr rfl) rfl rfl rfl ?_
  refine gM trivial (.inr rfl) rfl rfl rfl ?_
  refine rg_nil nofun ?_
  refine vc_seq ?_
  refine vc_region hm ?_
  refine gM trivial (.inl rfl) rfl rfl rfl ?_
  refine rg_nil nofun ?_
  refine cI rfl (fun c14=>?_) (fun c14=>?_)
  ·skip
   refine vc_region hm ?_
   refine gM trivial (.inl rfl) rfl rfl rfl ?_
   refine gM trivial (.inl rfl) rfl rfl rfl ?_
   refine gXA trivial rfl rfl rfl rfl rfl rfl rfl (by omega) (by omega) ?_
   refine gT trivial rfl rfl rfl rfl rfl rfl rfl rfl rfl rfl (kPl (by omega) (by omega)) (sPl (by omega) (by omega)) ?_
   refine rg_nil nofun ?_
   refine vc_region hm ?_
   refine gA trivial rfl rfl rfl rfl rfl rfl (by omega) ?_
   refine gM trivial (.inl rfl) rfl rfl rfl ?_
   refine rg_nil nofun ?_
   exact lp_next (m:=idm) ⟨j + 1,(by omega),rfl,rfl⟩ (by omega) (le_mk rfl ⟨⟨rfl,rfl⟩,⟨rfl,rfl⟩,⟨rfl,rfl⟩,⟨rfl,rfl⟩,⟨rfl,rfl⟩,trivial⟩ ⟨kFlat (plL_flat _) (eqH (by first|exact put_s1 c14|exact put_s2 c14)) id rfl,kFlat (plL_flat _) rfl id rfl,trivial⟩ rfl (fun _ _=>rfl))
  ·skip
   refine vc_skip ?_
   refine vc_region hm ?_
   refine gA trivial rfl rfl rfl rfl rfl rfl (by omega) ?_
   refine gM trivial (.inl rfl) rfl rfl rfl ?_
   refine rg_nil nofun ?_
   exact lp_next (m:=idm) ⟨j + 1,(by omega),rfl,rfl⟩ (by omega) (le_mk rfl ⟨⟨rfl,rfl⟩,⟨rfl,rfl⟩,⟨rfl,rfl⟩,⟨rfl,rfl⟩,⟨rfl,rfl⟩,trivial⟩ ⟨kFlat (plL_flat _) (eqH (by first|exact put_s1 c14|exact put_s2 c14)) id rfl,kFlat (plL_flat _) rfl id rfl,trivial⟩ rfl (fun _ _=>rfl))
 ·skip
  have p11:=of_decide_eq_false c11
  refine vc_exit ?_
  refine vc_seq ?_
  refine vc_region hm ?_
  refine gL trivial rfl rfl rfl rfl rfl rfl rfl wPl ?_
  refine gT trivial rfl rfl rfl rfl rfl rfl rfl rfl rfl rfl zPl pPl ?_
  refine rg_nil nofun ?_
  refine vc_ret ?_
  exact ⟨idm,endsF (.inr rfl) (.cell rfl rfl rfl rfl wPl .nil) (put_48 (by omega)) (vPl_flat _) rfl⟩
theorem spec_l1Of_c (f:Nat→Bool):FDoes Try.prog 74 [.slice (some ⟨0,0,none⟩) 48 0] (hp [(0,false,one ⟨plL f,4,0⟩)]) (mkE (.slice (some ⟨1,0,none⟩) (l1ofP f).length 0) [0] [] [(1,⟨rSp (l1ofP f),28,2⟩)]):=by
 have hm:Try.prog.follows .mixedOrders=true:=by kernel_rfl
 have hd_:∀ x_ ∈ ([(0,false,one ⟨plL f,4,0⟩)]:List (Nat × Bool × Fam)),∀ k_ y_,x_.2.2 k_=some y_→DetB (lt 1) y_:=by
  intro x_ hx k_ y_ e
  simp only [List.mem_cons,List.not_mem_nil,or_false] at hx
  subst hx
  exact det_row (plL_flat f) e
 refine fn_exact (u0:=1) Try.func74 rfl rfl (gets rfl rfl rfl hd_ rfl) ?_
 clear hd_
 refine vc_seq ?_
 refine vc_region hm ?_
 refine gM trivial (.inr rfl) rfl rfl rfl ?_
 refine rg_nil nofun ?_
 refine vc_seq ?_
 refine vc_region hm ?_
 refine gR (u':=2) trivial rfl rfl rfl rfl rfl rfl rfl rfl rfl rfl rfl rfl rfl rfl ?_
 refine gM trivial (.inr rfl) rfl rfl rfl ?_
 refine rg_nil nofun ?_
 refine vc_seq ?_
 refine vc_seq ?_
 refine vc_region hm ?_
 refine gM trivial (.inr rfl) rfl rfl rfl ?_
 refine rg_nil nofun ?_
 refine vc_block ?_
 refine vc_loop' (fun n_ S_=>∃ (j:Nat),j≤48∧(l1ofL f j).length≤j∧n_=48 - j∧S_=⟨2,[(0,.slice (some ⟨0,0,none⟩) 48 0),(3,.slice (some ⟨1,0,none⟩) (l1ofL f j).length 0),(4,.int .i64 j)],[(0,false,one ⟨plL f,4,0⟩),(1,true,one ⟨rSp (l1ofL f j),28,2⟩)]⟩) (m0:=idm) ⟨0,Nat.zero_le _,Nat.le_refl _,rfl,rfl⟩ (le_mk rfl ⟨⟨rfl,rfl⟩,⟨rfl,rfl⟩,⟨rfl,rfl⟩,trivial⟩ ⟨kFlat (plL_flat f) rfl id rfl,kFlat (rSp_flat _) rfl id rfl,trivial⟩ rfl (rig_of rfl)) ?_
 rintro n_ S_ ⟨j,hj,hq,rfl,rfl⟩
 refine vc_seq ?_
 refine vc_seq ?_
 refine vc_region hm ?_
 refine gM trivial (.inl rfl) rfl rfl rfl ?_
 refine gM trivial (.inl rfl) rfl rfl rfl ?_
 refine gK trivial rfl rfl rfl rfl rfl rfl (fun h=>absurd h plL_ne) ?_
 refine gI trivial rfl rfl rfl rfl rfl rfl ?_
 refine rg_nil nofun ?_
 refine cI rfl (fun c10=>?_) (fun c10=>?_)
 ·skip
  have p10:=of_decide_eq_true c10
  refine vc_skip ?_
  refine vc_seq ?_
  refine vc_block ?_
  refine vc_seq ?_
  refine vc_region hm ?_
  refine gM trivial (.inl rfl) rfl rfl rfl ?_
  refine gK trivial rfl rfl rfl rfl rfl rfl rSp_nil ?_
  refine gM trivial (.inr rfl) rfl rfl rfl ?_
  refine rg_nil nofun ?_
  refine vc_block ?_
  refine vc_seq ?_
  refine vc_region hm ?_
  refine gM trivial (.inl rfl) rfl rfl rfl ?_
  refine gM trivial (.inl rfl) rfl rfl rfl ?_
  refine gX trivial rfl rfl rfl rfl rfl rfl rfl rfl (by omega) (by omega) (fun _=>plL_ne) ?_
  refine gL trivial rfl rfl rfl rfl rfl rfl rfl (lPl (by omega) (by omega)) ?_
  refine gN trivial rfl rfl rfl rfl ?_
  refine gM trivial (.inr rfl) rfl rfl rfl ?_
  refine rg_nil nofun ?_
  refine cI rfl (fun c22=>?_) (fun c22=>?_)
  ·skip
   have n22:=unT c22
   refine vc_exit ?_
   refine vc_region hm ?_
   refine gM trivial (.inl rfl) rfl rfl rfl ?_
   refine gA trivial rfl rfl rfl rfl rfl rfl (by omega) ?_
   refine gM trivial (.inr rfl) rfl rfl rfl ?_
   refine rg_nil nofun ?_
   exact lp_next (m:=idm) ⟨j + 1,(by omega),(ofL_len _),rfl,rfl⟩ (by omega) (le_mk rfl ⟨⟨rfl,rfl⟩,⟨eqSl (by rw [(ofL_a (f:=f) (j:=j) n22)];skip),rfl⟩,⟨rfl,rfl⟩,trivial⟩ ⟨kFlat (plL_flat f) rfl id rfl,kFlat (rSp_flat _) (eqH (congrArg _ (ofL_a (f:=f) (j:=j) n22).symm)) id rfl,trivial⟩ rfl (rig_of rfl))
  ·skip
   have n22:=unF c22
   refine vc_seq ?_
   refine vc_region hm ?_
   refine gM trivial (.inl rfl) rfl rfl rfl ?_
   refine gI trivial rfl rfl rfl rfl rfl rfl ?_
   refine gM trivial (.inl rfl) rfl rfl rfl ?_
   refine gI2 (d:=31) rfl (fun c31=>?_) (fun c31=>?_)
   ·skip
    have p31:=of_decide_eq_true c31
    refine gM ⟨_,_,rfl,rfl,c31⟩ (.inl rfl) rfl rfl rfl ?_
    refine gM ⟨_,_,rfl,rfl,c31⟩ (.inl rfl) rfl rfl rfl ?_
    refine gA ⟨_,_,rfl,rfl,c31⟩ rfl rfl rfl rfl rfl rfl (by omega) ?_
    refine gX ⟨_,_,rfl,rfl,c31⟩ rfl rfl rfl rfl rfl rfl rfl rfl (by omega) (by omega) rSp_ne ?_
    refine gF ⟨_,_,rfl,rfl,c31⟩ rfl rfl rfl rfl rfl ?_
    refine gL ⟨_,_,rfl,rfl,c31⟩ rfl rfl rfl rfl rfl rfl rfl (lSp1 (by omega) (by omega)) ?_
    refine gM ⟨_,_,rfl,rfl,c31⟩ (.inl rfl) rfl rfl rfl ?_
    refine gI ⟨_,_,rfl,rfl,c31⟩ rfl rfl rfl rfl rfl rfl ?_
    refine gPT trivial rfl rfl c31 rfl rfl rfl ?_
    refine gM trivial (.inr rfl) rfl rfl rfl ?_
    refine rg_nil nofun ?_
    refine cI rfl (fun c28=>?_) (fun c28=>?_)
    ·skip
     have p28:=eq_of_beq c28
     refine vc_region hm ?_
     refine gM trivial (.inl rfl) rfl rfl rfl ?_
     refine gM trivial (.inl rfl) rfl rfl rfl ?_
     refine gA trivial rfl rfl rfl rfl rfl rfl (by omega) ?_
     refine gM trivial (.inl rfl) rfl rfl rfl ?_
     refine gA trivial rfl rfl rfl rfl rfl rfl (by omega) ?_
     refine gX trivial rfl rfl rfl rfl rfl rfl rfl rfl (by omega) (by omega) rSp_ne ?_
     refine gF trivial rfl rfl rfl rfl rfl ?_
     refine gT trivial rfl rfl rfl rfl rfl rfl rfl rfl rfl rfl (kSp1 (by omega) (by omega)) (sSp1 (by omega) (by omega)) ?_
     refine rg_nil nofun ?_
     refine vc_region hm ?_
     refine gM trivial (.inl rfl) rfl rfl rfl ?_
     refine gA trivial rfl rfl rfl rfl rfl rfl (by omega) ?_
     refine gM trivial (.inr rfl) rfl rfl rfl ?_
     refine rg_nil nofun ?_
     exact lp_next (m:=idm) ⟨j + 1,(by omega),(ofL_len _),rfl,rfl⟩ (by omega) (le_mk rfl ⟨⟨rfl,rfl⟩,⟨eqSl (by rw [(ofL_b (f:=f) (j:=j) n22 p31 p28)];simp),rfl⟩,⟨rfl,rfl⟩,trivial⟩ ⟨kFlat (plL_flat f) rfl id rfl,kFlat (rSp_flat _) (eqH (congrArg _ (ofL_b (f:=f) (j:=j) n22 p31 p28).symm)) id rfl,trivial⟩ rfl (rig_of rfl))
    ·skip
     have p28:=ne_of_beq_false c28
     refine vc_region hm ?_
     refine gM trivial (.inl rfl) rfl rfl rfl ?_
     refine gM trivial (.inl rfl) rfl rfl rfl ?_
     refine gM trivial (.inl rfl) rfl rfl rfl ?_
     refine gA trivial rfl rfl rfl rfl rfl rfl (by omega) ?_
     refine gU trivial rfl rfl rfl rfl rfl rfl rfl rfl ?_
     refine gR (u':=3) trivial rfl rfl rfl rfl rfl rfl rfl rfl rfl rfl rfl rfl rfl rfl ?_
     refine gAp (u':=4) trivial rfl rfl rfl rfl rfl rfl rfl rfl rfl rfl rfl rfl (by rw [rowL_len (n:=2) (fun _=>rfl)]) (Nat.le_refl _) rfl (show ((l1ofL f j).length + 1) * (16 + 1)≤140737488355328 by omega) (row_snoc (enc:=eSp) (x:=⟨(j:Int),(j:Int) + 1⟩)) rfl ?_
     refine gM trivial (.inr rfl) rfl rfl rfl ?_
     refine rg_nil nofun ?_
     refine vc_region hm ?_
     refine gM trivial (.inl rfl) rfl rfl rfl ?_
     refine gA trivial rfl rfl rfl rfl rfl rfl (by omega) ?_
     refine gM trivial (.inr rfl) rfl rfl rfl ?_
     refine rg_nil nofun ?_
     exact lp_next (m:=(mp [0,3])) ⟨j + 1,(by omega),(ofL_len _),rfl,rfl⟩ (by omega) (le_mk rfl ⟨⟨rfl,rfl⟩,⟨eqSl (by rw [(ofL_c (f:=f) (j:=j) n22 (fun hc=>by first|exact p31 hc.1|exact p28 hc.2))];simp),rfl⟩,⟨rfl,rfl⟩,trivial⟩ ⟨kFlat (plL_flat f) rfl id rfl,kFlat (rSp_flat _) (eqH (congrArg _ (ofL_c (f:=f) (j:=j) n22 (fun hc=>by first|exact p31 hc.1|exact p28 hc.2)).symm)) id rfl,trivial⟩ rfl (rig_of rfl))
   ·skip
    have p31:=of_decide_eq_false c31
    refine gO ⟨_,_,rfl,rfl,c31⟩ rfl rfl ?_
    refine gO ⟨_,_,rfl,rfl,c31⟩ rfl rfl ?_
    refine gO ⟨_,_,rfl,rfl,c31⟩ rfl rfl ?_
    refine gO ⟨_,_,rfl,rfl,c31⟩ rfl rfl ?_
    refine gO ⟨_,_,rfl,rfl,c31⟩ rfl rfl ?_
    refine gO ⟨_,_,rfl,rfl,c31⟩ rfl rfl ?_
    refine gO ⟨_,_,rfl,rfl,c31⟩ rfl rfl ?_
    refine gO ⟨_,_,rfl,rfl,c31⟩ rfl rfl ?_
    refine gPF trivial rfl rfl c31 rfl rfl rfl ?_
    refine gM trivial (.inr rfl) rfl rfl rfl ?_
    refine rg_nil nofun ?_
    refine cF rfl rfl ?_
    refine vc_region hm ?_
    refine gM trivial (.inl rfl) rfl rfl rfl ?_
    refine gM trivial (.inl rfl) rfl rfl rfl ?_
    refine gM trivial (.inl rfl) rfl rfl rfl ?_
    refine gA trivial rfl rfl rfl rfl rfl rfl (by omega) ?_
    refine gU trivial rfl rfl rfl rfl rfl rfl rfl rfl ?_
    refine gR (u':=3) trivial rfl rfl rfl rfl rfl rfl rfl rfl rfl rfl rfl rfl rfl rfl ?_
    refine gAp (u':=4) trivial rfl rfl rfl rfl rfl rfl rfl rfl rfl rfl rfl rfl (by rw [rowL_len (n:=2) (fun _=>rfl)]) (Nat.le_refl _) rfl (show ((l1ofL f j).length + 1) * (16 + 1)≤140737488355328 by omega) (row_snoc (enc:=eSp) (x:=⟨(j:Int),(j:Int) + 1⟩)) rfl ?_
    refine gM trivial (.inr rfl) rfl rfl rfl ?_
    refine rg_nil nofun ?_
    refine vc_region hm ?_
    refine gM trivial (.inl rfl) rfl rfl rfl ?_
    refine gA trivial rfl rfl rfl rfl rfl rfl (by omega) ?_
    refine gM trivial (.inr rfl) rfl rfl rfl ?_
    refine rg_nil nofun ?_
    exact lp_next (m:=(mp [0,3])) ⟨j + 1,(by omega),(ofL_len _),rfl,rfl⟩ (by omega) (le_mk rfl ⟨⟨rfl,rfl⟩,⟨eqSl (by rw [(ofL_c (f:=f) (j:=j) n22 (fun hc=>by first|exact p31 hc.1|exact p28 hc.2))];simp),rfl⟩,⟨rfl,rfl⟩,trivial⟩ ⟨kFlat (plL_flat f) rfl id rfl,kFlat (rSp_flat _) (eqH (congrArg _ (ofL_c (f:=f) (j:=j) n22 (fun hc=>by first|exact p31 hc.1|exact p28 hc.2)).symm)) id rfl,trivial⟩ rfl (rig_of rfl))
 ·skip
  have p10:=of_decide_eq_false c10
  refine vc_exit ?_
  refine vc_seq ?_
  refine vc_region hm ?_
  refine gM trivial (.inl rfl) rfl rfl rfl ?_
  refine gM trivial (.inr rfl) rfl rfl rfl ?_
  refine rg_nil nofun ?_
  refine vc_ret ?_
  obtain rfl:j=48:=by omega
  exact ⟨_,endsG [(1,1,⟨rSp (l1ofP f),28,2⟩)] (.inr rfl) (.tmp rfl rfl .nil) rfl rfl trivial ⟨⟨rfl,rSp_flat _⟩,trivial⟩ rfl⟩
theorem spec_l1Places_c {l:List Sp} (hn:l.length≤1048576):FDoes Try.prog 72 [.slice (some ⟨0,0,none⟩) l.length 0] (hp [(0,false,one ⟨rSp l,28,0⟩)]) (mkE (.slice (some ⟨1,0,none⟩) 48 0) [0] [] [(1,⟨plL (fun x=>l1In l (x:Int)),4,1⟩)]):=by
 have hm:Try.prog.follows .mixedOrders=true:=by kernel_rfl
 have hd_:∀ x_ ∈ ([(0,false,one ⟨rSp l,28,0⟩)]:List (Nat × Bool × Fam)),∀ k_ y_,x_.2.2 k_=some y_→DetB (lt 1) y_:=by
  intro x_ hx k_ y_ e
  simp only [List.mem_cons,List.not_mem_nil,or_false] at hx
  subst hx
  exact det_row (rSp_flat l) e
 refine fn_exact (u0:=1) Try.func72 rfl rfl (gets rfl rfl rfl hd_ rfl) ?_
 clear hd_
 refine vc_seq ?_
 refine vc_region hm ?_
 refine gM trivial (.inr rfl) rfl rfl rfl ?_
 refine rg_nil nofun ?_
 refine vc_seq ?_
 refine vc_region hm ?_
 refine gR (u':=2) trivial rfl rfl rfl rfl rfl rfl rfl rfl rfl rfl rfl rfl rfl rfl ?_
 refine gM trivial (.inr rfl) rfl rfl rfl ?_
 refine rg_nil nofun ?_
 refine vc_seq ?_
 refine vc_seq ?_
 refine vc_region hm ?_
 refine gM trivial (.inr rfl) rfl rfl rfl ?_
 refine rg_nil nofun ?_
 refine vc_block ?_
 refine vc_loop' (fun n_ S_=>∃ (j:Nat),j≤48∧n_=48 - j∧S_=⟨2,[(0,.slice (some ⟨0,0,none⟩) l.length 0),(3,.slice (some ⟨1,0,none⟩) j 0),(4,.int .i64 j)],[(0,false,one ⟨rSp l,28,0⟩),(1,true,one ⟨plT (fun x=>l1In l (x:Int)) j,4,1⟩)]⟩) (m0:=idm) ⟨0,Nat.zero_le _,rfl,rfl⟩ (le_mk rfl ⟨⟨rfl,rfl⟩,⟨rfl,rfl⟩,⟨rfl,rfl⟩,trivial⟩ ⟨kFlat (rSp_flat l) rfl id rfl,kFlat (plT_flat _ _) rfl id rfl,trivial⟩ rfl (rig_of rfl)) ?_
 rintro n_ S_ ⟨j,hj,rfl,rfl⟩
 refine vc_seq ?_
 refine vc_seq ?_
 refine vc_region hm ?_
 refine gM trivial (.inl rfl) rfl rfl rfl ?_
 refine gI trivial rfl rfl rfl rfl rfl rfl ?_
 refine rg_nil nofun ?_
 refine cI rfl (fun c7=>?_) (fun c7=>?_)
 ·skip
  have p7:=of_decide_eq_true c7
  refine vc_skip ?_
  refine vc_seq ?_
  refine vc_block ?_
  refine vc_region hm ?_
  refine gM trivial (.inl rfl) rfl rfl rfl ?_
  refine gM trivial (.inl rfl) rfl rfl rfl ?_
  refine gM trivial (.inl rfl) rfl rfl rfl ?_
  refine gC0 [0] (spec_l1In_c (l:=l) (a:=j) hn) trivial rfl rfl rfl rfl ⟨rFlat (rSp_flat l) rfl (.inl rfl) rfl,trivial⟩ rfl rfl rfl rfl rfl ?_
  refine gR (u':=3) trivial rfl rfl rfl rfl rfl rfl rfl rfl rfl rfl rfl rfl rfl rfl ?_
  refine gAp (u':=4) trivial rfl rfl rfl rfl rfl rfl rfl rfl rfl rfl rfl rfl plT_len (Nat.le_refl _) rfl (show (j + 1) * (1 + 1)≤140737488355328 by omega) (plT_snoc (f:=(fun x=>l1In l (x:Int)))) rfl ?_
  refine gM trivial (.inr rfl) rfl rfl rfl ?_
  refine rg_nil nofun ?_
  refine vc_region hm ?_
  refine gM trivial (.inl rfl) rfl rfl rfl ?_
  refine gA trivial rfl rfl rfl rfl rfl rfl (by omega) ?_
  refine gM trivial (.inr rfl) rfl rfl rfl ?_
  refine rg_nil nofun ?_
  exact lp_next (m:=(mp [0,3])) ⟨j + 1,(by omega),rfl,rfl⟩ (by omega) (le_mk rfl ⟨⟨rfl,rfl⟩,⟨rfl,rfl⟩,⟨rfl,rfl⟩,trivial⟩ ⟨kFlat (rSp_flat l) rfl id rfl,kFlat (plT_flat _ _) rfl id rfl,trivial⟩ rfl (rig_of rfl))
 ·skip
  have p7:=of_decide_eq_false c7
  refine vc_exit ?_
  refine vc_seq ?_
  refine vc_region hm ?_
  refine gM trivial (.inl rfl) rfl rfl rfl ?_
  refine gM trivial (.inr rfl) rfl rfl rfl ?_
  refine rg_nil nofun ?_
  refine vc_ret ?_
  obtain rfl:j=48:=by omega
  exact ⟨_,endsG [(1,1,⟨plL (fun x=>l1In l (x:Int)),4,1⟩)] (.inr rfl) (.tmp rfl rfl .nil) rfl rfl trivial ⟨⟨rfl,plL_flat _⟩,trivial⟩ rfl⟩
theorem spec_l1Cut_c {l:List Sp} {s:Sp} (hn:l.length≤1048576) (h0:0≤s.lo∧s.lo<s.hi∧s.hi≤48):FDoes Try.prog 66 [.slice (some ⟨0,0,none⟩) l.length 0,vSp s] (hp [(0,false,one ⟨rSp l,28,0⟩)]) (mkE (.slice (some ⟨1,0,none⟩) (l1ofP (putP (ofP l) (ofP [s]) false)).length 0) [0] [] [(1,⟨rSp (l1ofP (putP (ofP l) (ofP [s]) false)),28,2⟩)]):=by
 have hm:Try.prog.follows .mixedOrders=true:=by kernel_rfl
 have hd_:∀ x_ ∈ ([(0,false,one ⟨rSp l,28,0⟩)]:List (Nat × Bool × Fam)),∀ k_ y_,x_.2.2 k_=some y_→DetB (lt 1) y_:=by
  intro x_ hx k_ y_ e
  simp only [List.mem_cons,List.not_mem_nil,or_false] at hx
  subst hx
  exact det_row (rSp_flat l) e
 refine fn_exact (u0:=1) Try.func66 rfl rfl (gets rfl rfl rfl hd_ rfl) ?_
 clear hd_
 refine vc_seq ?_
 refine vc_region hm ?_
 refine gB (u':=2) trivial rfl rfl rfl rfl rfl rfl rfl rfl ?_
 refine gM trivial (.inr rfl) rfl rfl rfl ?_
 refine rg_nil nofun ?_
 refine vc_seq ?_
 refine vc_region hm ?_
 refine gM trivial (.inl rfl) rfl rfl rfl ?_
 refine gCn 3 [0,2] (spec_l1Places_c (l:=l) hn) trivial rfl rfl rfl rfl ⟨rFlat (rSp_flat l) rfl (.inl rfl) rfl,trivial⟩ ⟨plL_flat _,trivial⟩ rfl rfl rfl rfl ?_
 refine gM trivial (.inr rfl) rfl rfl rfl ?_
 refine rg_nil nofun ?_
 refine vc_seq ?_
 refine vc_seq ?_
 refine vc_region hm ?_
 refine gF trivial rfl rfl rfl rfl rfl ?_
 refine gL trivial rfl rfl rfl rfl rfl rfl rfl rfl ?_
 refine gM trivial (.inr rfl) rfl rfl rfl ?_
 refine rg_nil nofun ?_
 refine vc_block ?_
 refine vc_loop' (fun n_ S_=>∃ (i:Int),s.lo≤i∧i≤s.hi∧n_=(s.hi - i).toNat∧S_=⟨3,[(0,.slice (some ⟨0,0,none⟩) l.length 0),(3,.pointer (some ⟨1,0,none⟩)),(5,.slice (some ⟨2,0,none⟩) 48 0),(6,.int .i64 i)],[(0,false,one ⟨rSp l,28,0⟩),(1,true,one ⟨[.int .i64 s.lo,.int .i64 s.hi],28,2⟩),(2,true,one ⟨plL (fillTo (fun x=>l1In l (x:Int)) s.lo i s.hi false),4,1⟩)]⟩) (m0:=idm) ⟨s.lo,Int.le_refl _,(by omega),rfl,rfl⟩ (le_mk rfl ⟨⟨rfl,rfl⟩,⟨rfl,rfl⟩,⟨rfl,rfl⟩,⟨rfl,rfl⟩,trivial⟩ ⟨kFlat (rSp_flat l) rfl id rfl,kCells rfl rfl id rfl,kFlat (plL_flat _) (eqH fillTo_start) id rfl,trivial⟩ rfl (fun _ _=>rfl)) ?_
 rintro n_ S_ ⟨i,hi,hj,rfl,rfl⟩
 refine vc_seq ?_
 refine vc_seq ?_
 refine vc_region hm ?_
 refine gM trivial (.inl rfl) rfl rfl rfl ?_
 refine gF trivial rfl rfl rfl rfl rfl ?_
 refine gL trivial rfl rfl rfl rfl rfl rfl rfl rfl ?_
 refine gI trivial rfl rfl rfl rfl rfl rfl ?_
 refine rg_nil nofun ?_
 refine cI rfl (fun c14=>?_) (fun c14=>?_)
 ·skip
  have p14:=of_decide_eq_true c14
  refine vc_skip ?_
  refine vc_seq ?_
  refine vc_block ?_
  refine vc_region hm ?_
  refine gM trivial (.inl rfl) rfl rfl rfl ?_
  refine gM trivial (.inl rfl) rfl rfl rfl ?_
  refine gX trivial rfl rfl rfl rfl rfl rfl rfl rfl (by omega) (by omega) (fun _=>plL_ne) ?_
  refine gT trivial rfl rfl rfl rfl rfl rfl rfl rfl rfl rfl (kPl (by omega) (by omega)) (sPl (by omega) (by omega)) ?_
  refine rg_nil nofun ?_
  refine vc_region hm ?_
  refine gM trivial (.inl rfl) rfl rfl rfl ?_
  refine gA trivial rfl rfl rfl rfl rfl rfl (by omega) ?_
  refine gM trivial (.inr rfl) rfl rfl rfl ?_
  refine rg_nil nofun ?_
  exact lp_next (m:=idm) ⟨i + 1,(by omega),(by omega),rfl,rfl⟩ (by omega) (le_mk rfl ⟨⟨rfl,rfl⟩,⟨rfl,rfl⟩,⟨rfl,rfl⟩,⟨rfl,rfl⟩,trivial⟩ ⟨kFlat (rSp_flat l) rfl id rfl,kCells rfl rfl id rfl,kFlat (plL_flat _) (eqH (fillTo_step (by omega) hi p14)) id rfl,trivial⟩ rfl (fun _ _=>rfl))
 ·skip
  have p14:=of_decide_eq_false c14
  refine vc_exit ?_
  refine vc_seq ?_
  refine vc_region hm ?_
  refine gM trivial (.inl rfl) rfl rfl rfl ?_
  refine gCn 4 [2,3] (spec_l1Of_c (fillTo (fun x=>l1In l (x:Int)) s.lo i s.hi false)) trivial rfl rfl rfl rfl ⟨rFlat (plL_flat _) rfl (.inl rfl) rfl,trivial⟩ ⟨rSp_flat _,trivial⟩ rfl rfl rfl rfl ?_
  refine gM trivial (.inr rfl) rfl rfl rfl ?_
  refine rg_nil nofun ?_
  refine vc_ret ?_
  rw [cut_end p14 h0.1]
  exact ⟨_,endsG [(1,3,⟨rSp (l1ofP (putP (ofP l) (ofP [s]) false)),28,2⟩)] (.inr rfl) (.tmp rfl rfl .nil) rfl rfl trivial ⟨⟨rfl,rSp_flat _⟩,trivial⟩ rfl⟩
theorem spec_l1Add_c {l:List Sp} {s:Sp} (hn:l.length≤1048576) (h0:0≤s.lo∧s.lo<s.hi∧s.hi≤48):FDoes Try.prog 69 [.slice (some ⟨0,0,none⟩) l.length 0,vSp s] (hp [(0,false,one ⟨rSp l,28,0⟩)]) (mkE (.slice (some ⟨1,0,none⟩) (l1ofP (putP (ofP l) (ofP [s]) true)).length 0) [0] [] [(1,⟨rSp (l1ofP (putP (ofP l) (ofP [s]) true)),28,2⟩)]):=by
 have hm:Try.prog.follows .mixedOrders=true:=by kernel_rfl
 have hd_:∀ x_ ∈ ([(0,false,one ⟨rSp l,28,0⟩)]:List (Nat × Bool × Fam)),∀ k_ y_,x_.2.2 k_=some y_→DetB (lt 1) y_:=by
  intro x_ hx k_ y_ e
  simp only [List.mem_cons,List.not_mem_nil,or_false] at hx
  subst hx
  exact det_row (rSp_flat l) e
 refine fn_exact (u0:=1) Try.func69 rfl rfl (gets rfl rfl rfl hd_ rfl) ?_
 clear hd_
 refine vc_seq ?_
 refine vc_region hm ?_
 refine gB (u':=2) trivial rfl rfl rfl rfl rfl rfl rfl rfl ?_
 refine gM trivial (.inr rfl) rfl rfl rfl ?_
 refine rg_nil nofun ?_
 refine vc_seq ?_
 refine vc_region hm ?_
 refine gM trivial (.inl rfl) rfl rfl rfl ?_
 refine gCn 3 [0,2] (spec_l1Places_c (l:=l) hn) trivial rfl rfl rfl rfl ⟨rFlat (rSp_flat l) rfl (.inl rfl) rfl,trivial⟩ ⟨plL_flat _,trivial⟩ rfl rfl rfl rfl ?_
 refine gM trivial (.inr rfl) rfl rfl rfl ?_
 refine rg_nil nofun ?_
 refine vc_seq ?_
 refine vc_seq ?_
 refine vc_region hm ?_
 refine gF trivial rfl rfl rfl rfl rfl ?_
 refine gL trivial rfl rfl rfl rfl rfl rfl rfl rfl ?_
 refine gM trivial (.inr rfl) rfl rfl rfl ?_
 refine rg_nil nofun ?_
 refine vc_block ?_
 refine vc_loop' (fun n_ S_=>∃ (i:Int),s.lo≤i∧i≤s.hi∧n_=(s.hi - i).toNat∧S_=⟨3,[(0,.slice (some ⟨0,0,none⟩) l.length 0),(3,.pointer (some ⟨1,0,none⟩)),(5,.slice (some ⟨2,0,none⟩) 48 0),(6,.int .i64 i)],[(0,false,one ⟨rSp l,28,0⟩),(1,true,one ⟨[.int .i64 s.lo,.int .i64 s.hi],28,2⟩),(2,true,one ⟨plL (fillTo (fun x=>l1In l (x:Int)) s.lo i s.hi true),4,1⟩)]⟩) (m0:=idm) ⟨s.lo,Int.le_refl _,(by omega),rfl,rfl⟩ (le_mk rfl ⟨⟨rfl,rfl⟩,⟨rfl,rfl⟩,⟨rfl,rfl⟩,⟨rfl,rfl⟩,trivial⟩ ⟨kFlat (rSp_flat l) rfl id rfl,kCells rfl rfl id rfl,kFlat (plL_flat _) (eqH fillTo_start) id rfl,trivial⟩ rfl (fun _ _=>rfl)) ?_
 rintro n_ S_ ⟨i,hi,hj,rfl,rfl⟩
 refine vc_seq ?_
 refine vc_seq ?_
 refine vc_region hm ?_
 refine gM trivial (.inl rfl) rfl rfl rfl ?_
 refine gF trivial rfl rfl rfl rfl rfl ?_
 refine gL trivial rfl rfl rfl rfl rfl rfl rfl rfl ?_
 refine gI trivial rfl rfl rfl rfl rfl rfl ?_
 refine rg_nil nofun ?_
 refine cI rfl (fun c14=>?_) (fun c14=>?_)
 ·skip
  have p14:=of_decide_eq_true c14
  refine vc_skip ?_
  refine vc_seq ?_
  refine vc_block ?_
  refine vc_region hm ?_
  refine gM trivial (.inl rfl) rfl rfl rfl ?_
  refine gM trivial (.inl rfl) rfl rfl rfl ?_
  refine gX trivial rfl rfl rfl rfl rfl rfl rfl rfl (by omega) (by omega) (fun _=>plL_ne) ?_
  refine gT trivial rfl rfl rfl rfl rfl rfl rfl rfl rfl rfl (kPl (by omega) (by omega)) (sPl (by omega) (by omega)) ?_
  refine rg_nil nofun ?_
  refine vc_region hm ?_
  refine gM trivial (.inl rfl) rfl rfl rfl ?_
  refine gA trivial rfl rfl rfl rfl rfl rfl (by omega) ?_
  refine gM trivial (.inr rfl) rfl rfl rfl ?_
  refine rg_nil nofun ?_
  exact lp_next (m:=idm) ⟨i + 1,(by omega),(by omega),rfl,rfl⟩ (by omega) (le_mk rfl ⟨⟨rfl,rfl⟩,⟨rfl,rfl⟩,⟨rfl,rfl⟩,⟨rfl,rfl⟩,trivial⟩ ⟨kFlat (rSp_flat l) rfl id rfl,kCells rfl rfl id rfl,kFlat (plL_flat _) (eqH (fillTo_step (by omega) hi p14)) id rfl,trivial⟩ rfl (fun _ _=>rfl))
 ·skip
  have p14:=of_decide_eq_false c14
  refine vc_exit ?_
  refine vc_seq ?_
  refine vc_region hm ?_
  refine gM trivial (.inl rfl) rfl rfl rfl ?_
  refine gCn 4 [2,3] (spec_l1Of_c (fillTo (fun x=>l1In l (x:Int)) s.lo i s.hi true)) trivial rfl rfl rfl rfl ⟨rFlat (plL_flat _) rfl (.inl rfl) rfl,trivial⟩ ⟨rSp_flat _,trivial⟩ rfl rfl rfl rfl ?_
  refine gM trivial (.inr rfl) rfl rfl rfl ?_
  refine rg_nil nofun ?_
  refine vc_ret ?_
  rw [cut_end p14 h0.1]
  exact ⟨_,endsG [(1,3,⟨rSp (l1ofP (putP (ofP l) (ofP [s]) true)),28,2⟩)] (.inr rfl) (.tmp rfl rfl .nil) rfl rfl trivial ⟨⟨rfl,rSp_flat _⟩,trivial⟩ rfl⟩
theorem spans_c (f:Nat→Bool):FDoes Try.prog 83 [vPl f] (hp []) (mkE (.slice (some ⟨0,0,none⟩) (l1ofP f).length 0) [] [] [(0,⟨rSp (l1ofP f),28,2⟩)]):=by
 have hm:Try.prog.follows .mixedOrders=true:=by kernel_rfl
 have hd_:∀ x ∈ ([]:List (Nat × Bool × Fam)),∀ k y,x.2.2 k=some y→DetB (lt 0) y:=fun x_ hx=>(by cases hx)
 refine fn_exact (u0:=0) Try.func83 rfl rfl (gets rfl rfl rfl hd_ rfl) ?_
 clear hd_
 refine vc_seq ?_
 refine vc_region hm ?_
 refine gB (u':=1) trivial rfl rfl rfl rfl rfl rfl rfl (show cellsL _=plL f from rfl) ?_
 refine gM trivial (.inr rfl) rfl rfl rfl ?_
 refine rg_nil nofun ?_
 refine vc_seq ?_
 refine vc_region hm ?_
 refine gR (u':=2) trivial rfl rfl rfl rfl rfl rfl rfl rfl rfl rfl rfl rfl rfl rfl ?_
 refine gM trivial (.inr rfl) rfl rfl rfl ?_
 refine rg_nil nofun ?_
 refine vc_seq ?_
 refine vc_seq ?_
 refine vc_region hm ?_
 refine gM trivial (.inr rfl) rfl rfl rfl ?_
 refine rg_nil nofun ?_
 refine vc_block ?_
 refine vc_loop' (fun n_ S_=>∃ (i:Nat),i≤49∧(∀ s ∈ l1ofL f (min i 48),s.hi<(i:Int))∧n_=49 - i∧S_=⟨2,[(1,.pointer (some ⟨0,0,none⟩)),(3,.slice (some ⟨1,0,none⟩) (l1ofL f (min i 48)).length 0),(4,.int .i64 i)],[(0,true,one ⟨plL f,59,48⟩),(1,true,one ⟨rSp (l1ofL f (min i 48)),28,2⟩)]⟩) (m0:=idm) ⟨0,Nat.zero_le _,(fun s hs=>by cases hs),rfl,rfl⟩ (le_mk rfl ⟨⟨rfl,rfl⟩,⟨rfl,rfl⟩,⟨rfl,rfl⟩,trivial⟩ ⟨kFlat (plL_flat f) rfl id rfl,kFlat (rSp_flat _) rfl id rfl,trivial⟩ rfl (rig_of rfl)) ?_
 rintro n_ S_ ⟨i,hi,hl,rfl,rfl⟩
 refine vc_seq ?_
 refine vc_seq ?_
 refine vc_region hm ?_
 refine gM trivial (.inl rfl) rfl rfl rfl ?_
 refine gI trivial rfl rfl rfl rfl rfl rfl ?_
 refine rg_nil nofun ?_
 refine cI rfl (fun c8=>?_) (fun c8=>?_)
 ·skip
  have p8:=of_decide_eq_true c8
  refine vc_skip ?_
  refine vc_seq ?_
  refine vc_block ?_
  refine vc_seq ?_
  refine vc_seq ?_
  refine vc_region hm ?_
  refine gM trivial (.inl rfl) rfl rfl rfl ?_
  refine gXA trivial rfl rfl rfl rfl rfl rfl rfl (by omega) (by omega) ?_
  refine gL trivial rfl rfl rfl rfl rfl rfl rfl (lPl (by omega) (by omega)) ?_
  refine gN trivial rfl rfl rfl rfl ?_
  refine rg_nil nofun ?_
  refine cI rfl (fun c14=>?_) (fun c14=>?_)
  ·skip
   have n14:=unT c14
   refine vc_exit ?_
   refine vc_region hm ?_
   refine gM trivial (.inl rfl) rfl rfl rfl ?_
   refine gA trivial rfl rfl rfl rfl rfl rfl (by omega) ?_
   refine gM trivial (.inr rfl) rfl rfl rfl ?_
   refine rg_nil nofun ?_
   exact lp_next (m:=idm) ⟨i + 1,(by omega),(fun s hs=>by rw [spans_skip (f:=f) p8 n14] at hs;have:=hl s hs;omega),rfl,rfl⟩ (by omega) (le_mk rfl ⟨⟨rfl,rfl⟩,⟨eqSl (by rw [(spans_skip (f:=f) p8 n14)]),rfl⟩,⟨rfl,rfl⟩,trivial⟩ ⟨kFlat (plL_flat f) rfl id rfl,kFlat (rSp_flat _) (eqH (congrArg _ (spans_skip (f:=f) p8 n14).symm)) id rfl,trivial⟩ rfl (rig_of rfl))
  ·skip
   have n14:=unF c14
   refine vc_skip ?_
   refine vc_seq ?_
   refine vc_region hm ?_
   refine gM trivial (.inl rfl) rfl rfl rfl ?_
   refine gM trivial (.inr rfl) rfl rfl rfl ?_
   refine rg_nil nofun ?_
   refine vc_seq ?_
   refine vc_block ?_
   refine vc_loop' (fun n_ S_=>∃ (i2:Nat),i≤i2∧i2≤48∧(∀ x,i≤x→x<i2→f x=true)∧n_=48 - i2∧S_=⟨2,[(1,.pointer (some ⟨0,0,none⟩)),(3,.slice (some ⟨1,0,none⟩) (l1ofL f (min i 48)).length 0),(4,.int .i64 i2),(5,.int .i64 i)],[(0,true,one ⟨plL f,59,48⟩),(1,true,one ⟨rSp (l1ofL f (min i 48)),28,2⟩)]⟩) (m0:=idm) ⟨i,Nat.le_refl _,(by omega),(fun x h0 h1=>by omega),rfl,rfl⟩ (le_mk rfl ⟨⟨rfl,rfl⟩,⟨rfl,rfl⟩,⟨rfl,rfl⟩,⟨rfl,rfl⟩,trivial⟩ ⟨kFlat (plL_flat f) rfl id rfl,kFlat (rSp_flat _) rfl id rfl,trivial⟩ rfl (fun _ _=>rfl)) ?_
   rintro n_ S_ ⟨i2,h2,h3,hr,rfl,rfl⟩
   refine vc_seq ?_
   refine vc_seq ?_
   refine vc_region hm ?_
   refine gM trivial (.inl rfl) rfl rfl rfl ?_
   refine gI trivial rfl rfl rfl rfl rfl rfl ?_
   refine gM trivial (.inl rfl) rfl rfl rfl ?_
   refine gI2 (d:=18) rfl (fun c18=>?_) (fun c18=>?_)
   ·skip
    have p18:=of_decide_eq_true c18
    refine gM ⟨_,_,rfl,rfl,c18⟩ (.inl rfl) rfl rfl rfl ?_
    refine gXA ⟨_,_,rfl,rfl,c18⟩ rfl rfl rfl rfl rfl rfl rfl (by omega) (by omega) ?_
    refine gL ⟨_,_,rfl,rfl,c18⟩ rfl rfl rfl rfl rfl rfl rfl (lPl (by omega) (by omega)) ?_
    refine gPT trivial rfl rfl c18 rfl rfl rfl ?_
    refine rg_nil nofun ?_
    refine cI rfl (fun c22=>?_) (fun c22=>?_)
    ·skip
     refine vc_skip ?_
     refine vc_block ?_
     refine vc_region hm ?_
     refine gM trivial (.inl rfl) rfl rfl rfl ?_
     refine gA trivial rfl rfl rfl rfl rfl rfl (by omega) ?_
     refine gM trivial (.inr rfl) rfl rfl rfl ?_
     refine rg_nil nofun ?_
     exact lp_next (m:=idm) ⟨i2 + 1,(by omega),(by omega),(spans_more hr c22),rfl,rfl⟩ (by omega) (le_mk rfl ⟨⟨rfl,rfl⟩,⟨rfl,rfl⟩,⟨rfl,rfl⟩,⟨rfl,rfl⟩,trivial⟩ ⟨kFlat (plL_flat f) rfl id rfl,kFlat (rSp_flat _) rfl id rfl,trivial⟩ rfl (fun _ _=>rfl))
    ·skip
     refine vc_exit ?_
     refine vc_region hm ?_
     refine gM trivial (.inl rfl) rfl rfl rfl ?_
     refine gM trivial (.inl rfl) rfl rfl rfl ?_
     refine gM trivial (.inl rfl) rfl rfl rfl ?_
     refine gU trivial rfl rfl rfl rfl rfl rfl rfl rfl ?_
     refine gR (u':=3) trivial rfl rfl rfl rfl rfl rfl rfl rfl rfl rfl rfl rfl rfl rfl ?_
     refine gAp (u':=4) trivial rfl rfl rfl rfl rfl rfl rfl rfl rfl rfl rfl rfl (by rw [rowL_len (n:=2) (fun _=>rfl)]) (Nat.le_refl _) rfl (show ((l1ofL f (min i 48)).length + 1) * (16 + 1)≤140737488355328 by have:=ofL_len (f:=f) (min i 48);omega) (row_snoc (enc:=eSp) (x:=⟨(i:Int),(i2:Int)⟩)) rfl ?_
     refine gM trivial (.inr rfl) rfl rfl rfl ?_
     refine rg_nil nofun ?_
     refine vc_region hm ?_
     refine gM trivial (.inl rfl) rfl rfl rfl ?_
     refine gA trivial rfl rfl rfl rfl rfl rfl (by omega) ?_
     refine gM trivial (.inr rfl) rfl rfl rfl ?_
     refine rg_nil nofun ?_
     have hlt:i<i2:=by
      rcases Nat.eq_or_lt_of_le h2 with e|e
      ·subst e;first|exact absurd n14 (by rw [show f (i:Int).toNat=false from c22];decide)|omega
      ·exact e
     have er:=spans_run (f:=f) (by omega) h3 hr hlt (.inr c22) hl
     exact lp_next (m:=(mp [0,3])) ⟨i2 + 1,(by omega),(spans_hi hlt er hl),rfl,rfl⟩ (by omega) (le_mk rfl ⟨⟨rfl,rfl⟩,⟨eqSl (by rw [er];simp),rfl⟩,⟨rfl,rfl⟩,trivial⟩ ⟨kFlat (plL_flat f) rfl id rfl,kFlat (rSp_flat _) (eqH (congrArg _ er.symm)) id rfl,trivial⟩ rfl (rig_of rfl))
   ·skip
    have p18:=of_decide_eq_false c18
    refine gO ⟨_,_,rfl,rfl,c18⟩ rfl rfl ?_
    refine gO ⟨_,_,rfl,rfl,c18⟩ rfl rfl ?_
    refine gO ⟨_,_,rfl,rfl,c18⟩ rfl rfl ?_
    refine gPF trivial rfl rfl c18 rfl rfl rfl ?_
    refine rg_nil nofun ?_
    refine cF rfl rfl ?_
    refine vc_exit ?_
    refine vc_region hm ?_
    refine gM trivial (.inl rfl) rfl rfl rfl ?_
    refine gM trivial (.inl rfl) rfl rfl rfl ?_
    refine gM trivial (.inl rfl) rfl rfl rfl ?_
    refine gU trivial rfl rfl rfl rfl rfl rfl rfl rfl ?_
    refine gR (u':=3) trivial rfl rfl rfl rfl rfl rfl rfl rfl rfl rfl rfl rfl rfl rfl ?_
    refine gAp (u':=4) trivial rfl rfl rfl rfl rfl rfl rfl rfl rfl rfl rfl rfl (by rw [rowL_len (n:=2) (fun _=>rfl)]) (Nat.le_refl _) rfl (show ((l1ofL f (min i 48)).length + 1) * (16 + 1)≤140737488355328 by have:=ofL_len (f:=f) (min i 48);omega) (row_snoc (enc:=eSp) (x:=⟨(i:Int),(i2:Int)⟩)) rfl ?_
    refine gM trivial (.inr rfl) rfl rfl rfl ?_
    refine rg_nil nofun ?_
    refine vc_region hm ?_
    refine gM trivial (.inl rfl) rfl rfl rfl ?_
    refine gA trivial rfl rfl rfl rfl rfl rfl (by omega) ?_
    refine gM trivial (.inr rfl) rfl rfl rfl ?_
    refine rg_nil nofun ?_
    have hlt:i<i2:=by
     rcases Nat.eq_or_lt_of_le h2 with e|e
     ·subst e;first|exact absurd n14 (by rw [show f (i:Int).toNat=false from c22];decide)|omega
     ·exact e
    have er:=spans_run (f:=f) (by omega) h3 hr hlt (.inl (by omega)) hl
    exact lp_next (m:=(mp [0,3])) ⟨i2 + 1,(by omega),(spans_hi hlt er hl),rfl,rfl⟩ (by omega) (le_mk rfl ⟨⟨rfl,rfl⟩,⟨eqSl (by rw [er];simp),rfl⟩,⟨rfl,rfl⟩,trivial⟩ ⟨kFlat (plL_flat f) rfl id rfl,kFlat (rSp_flat _) (eqH (congrArg _ er.symm)) id rfl,trivial⟩ rfl (rig_of rfl))
 ·skip
  have p8:=of_decide_eq_false c8
  refine vc_exit ?_
  refine vc_seq ?_
  refine vc_region hm ?_
  refine gM trivial (.inl rfl) rfl rfl rfl ?_
  refine gM trivial (.inr rfl) rfl rfl rfl ?_
  refine rg_nil nofun ?_
  refine vc_ret ?_
  rw [show min i 48=48 by omega]
  exact ⟨_,endsG [(0,1,⟨rSp (l1ofP f),28,2⟩)] (.inr rfl) (.tmp rfl rfl .nil) rfl rfl trivial ⟨⟨rfl,rSp_flat _⟩,trivial⟩ rfl⟩
end Go.Proofs.Ytbgehlihpkefmaa.A
namespace Go.Proofs.Ytbgehlihpkefmaa.A
open Go Go.RowKit
theorem rSp_leaf (xs:List Sp):(rSp xs).all leaf=true:=by
 induction xs with
 | nil=>rfl
 | cons x xs ih=>show ([Value.int .i64 x.lo,.int .i64 x.hi] ++ rSp xs).all leaf=true;rw [List.all_append,ih];rfl
theorem row_all {α:Type} {enc:α→List Value} {n:Nat} (he:∀ x,(enc x).length=n) {xs:List α}:((rowL enc xs).drop 0).take (xs.length * n)=rowL enc xs:=by rw [List.drop_zero,List.take_of_length_le (by rw [rowL_len he];exact Nat.le_refl _)]
theorem cp_leaf (l:List Sp):(((rSp l).drop 0).take (l.length * 2)).all leaf=true:=by rw [row_all (n:=2) (fun _=>rfl)];exact rSp_leaf l
theorem cp_eq (l:List Sp):[] ++ ((rSp l).drop 0).take (l.length * 2)=rSp l:=by rw [row_all (n:=2) (fun _=>rfl)];rfl
theorem cp_len (l:List Sp):0 + l.length * 2≤(rSp l).length:=by rw [rowL_len (n:=2) (fun _=>rfl),Nat.zero_add];exact Nat.le_refl _
theorem ofL48_len {f:Nat→Bool}:(l1ofP f).length≤48:=ofL_len 48
theorem pp_flat (f g:Nat→Bool):flatT (.tuple #[vPl f,vPl g])=true:=by
 show (flatV (vPl f) && (flatV (vPl g) && true))=true
 rw [vPl_flat,vPl_flat]
 rfl
def whoOk (who:Int):Bool:=decide (0≤who∧who<3)
theorem whoOk_in {who:Int} (h:whoOk who=true):0≤who∧who<3:=by unfold whoOk at h;exact of_decide_eq_true h
def mayAt (h:Ho) (write:Bool) (i:Int):Bool:=l1In h.w i || (!write && l1In h.r i)
def mayH (h:Ho) (write:Bool) (s:Sp):Bool:=(List.range 48).all fun i=>!inSp s i || mayAt h write (i:Int)
def lockMay (T:List Ho) (who:Int) (write:Bool) (s:Sp):Bool:=lockOk T && (whoOk who && (spanOk s && mayH (at_ T who) write s))
theorem may_1 {h:Ho} {b:Bool} {s:Sp} {i:Int} (h0:0≤i) (h1:s.lo≤i) (h2:i<s.hi) (h3:i<48) (hm:mayAt h b i=false):mayH h b s=false:=all_range_false (j:=i.toNat) (by omega) (by rw [inSp_of (by omega) (by omega),show ((i.toNat:Nat):Int)=i by omega,hm];rfl)
theorem may_2 {h:Ho} {b:Bool} {s:Sp} {i:Int} (hm:∀ x:Nat,s.lo≤(x:Int)→(x:Int)<i→mayAt h b (x:Int)=true) (hi:¬ i<s.hi):mayH h b s=true:=by
 unfold mayH
 rw [List.all_eq_true]
 intro x _
 by_cases hx:s.lo≤(x:Int)∧(x:Int)<s.hi
 ·rw [hm x hx.1 (by omega),Bool.or_true]
 ·rw [inSp_no hx];rfl
def mayP (h:Ho) (write:Bool):Nat→Bool:=if write=true then ofP h.w else putP (ofP h.w) (ofP h.r) true
theorem may_eqP {h:Ho} {write:Bool} {s:Sp}:eqP (fun i=>mayP h write i && ofP [s] i) (ofP [s])=mayH h write s:=by
 unfold eqP mayH
 congr 1
 funext i
 have e1:ofP [s] i=inSp s i:=by simp [ofP]
 show ((mayP h write i && ofP [s] i) == ofP [s] i)=_
 have e2:mayP h write i=mayAt h write (i:Int):=by
  unfold mayP mayAt putP
  cases write with
  | true=>rw [if_pos rfl,ofP_in];simp
  | false =>
   rw [if_neg (by decide)]
   simp only [ofP_in]
   cases l1In h.w (i:Int) <;> cases l1In h.r (i:Int) <;> rfl
 rw [e1,e2]
 cases inSp s i <;> cases mayAt h write (i:Int) <;> rfl
theorem may_eqT {h:Ho} {write:Bool} {s:Sp} (hw:write=true):eqP (fun i=>ofP h.w i && ofP [s] i) (ofP [s])=mayH h write s:=by
 rw [← may_eqP];unfold mayP;rw [if_pos hw]
theorem may_eqF {h:Ho} {write:Bool} {s:Sp} (hw:write=false):eqP (fun i=>putP (ofP h.w) (ofP h.r) true i && ofP [s] i) (ofP [s])=mayH h write s:=by
 rw [← may_eqP];unfold mayP;rw [if_neg (by rw [hw];decide)]
theorem lm_1 {T:List Ho} {who:Int} {write:Bool} {s:Sp} (h:lockOk T=false):lockMay T who write s=false:=and_false_l h
theorem lm_2 {T:List Ho} {who:Int} {write:Bool} {s:Sp} (h:whoOk who=false):lockMay T who write s=false:=and_false_r (and_false_l h)
theorem lm_3 {T:List Ho} {who:Int} {write:Bool} {s:Sp} (h:spanOk s=false):lockMay T who write s=false:=and_false_r (and_false_r (and_false_l h))
theorem lm_4 {T:List Ho} {who:Int} {write:Bool} {s:Sp} (h1:lockOk T=true) (h2:whoOk who=true) (h3:spanOk s=true):lockMay T who write s=mayH (at_ T who) write s:=by unfold lockMay;rw [h1,h2,h3];rfl
theorem okW {T:List Ho} {who:Int} (h:lockOk T=true) (hw:whoOk who=true):spansOk (at_ T who).r=true∧spansOk (at_ T who).w=true:=by
 have h1:=whoOk_in hw
 have h2:=ok_3 h
 have:=ok_at h (i:=who.toNat) (by omega)
 rw [show ((who.toNat:Nat):Int)=who by omega] at this
 exact ⟨this.1,this.2.1⟩
def barB (T:List Ho) (who:Int) (write:Bool) (s:Sp) (i:Nat):Bool:=!decide ((i:Int)=who) && (!clearL (wAt T i) [s] || (write && !clearL (rAt T i) [s]))
def barsL (T:List Ho) (who:Int) (write:Bool) (s:Sp) (n:Nat):List Int:=((List.range n).filter (barB T who write s)).map fun (i:Nat)=>(i:Int)
def lockBars (T:List Ho) (who:Int) (write:Bool) (s:Sp):List Int:=if (lockOk T && (whoOk who && spanOk s))=true then barsL T who write s T.length else []
theorem bars_T {T:List Ho} {who:Int} {write:Bool} {s:Sp} {n:Nat} (h:barB T who write s n=true):barsL T who write s n ++ [(n:Int)]=barsL T who write s (n + 1):=by simp [barsL,List.range_succ,h]
theorem bars_F {T:List Ho} {who:Int} {write:Bool} {s:Sp} {n:Nat} (h:barB T who write s n=false):barsL T who write s n=barsL T who write s (n + 1):=by simp [barsL,List.range_succ,h]
theorem bars_len {T:List Ho} {who:Int} {write:Bool} {s:Sp} (n:Nat):(barsL T who write s n).length≤n:=by
 unfold barsL
 rw [List.length_map]
 exact Nat.le_trans (List.length_filter_le _ _) (by simp)
theorem barS_1 {T:List Ho} {who:Int} {write:Bool} {s:Sp} {i:Nat} (h:(i:Int)=who):barB T who write s i=false:=by unfold barB;rw [decide_eq_true h];rfl
theorem barS_2 {T:List Ho} {who:Int} {write:Bool} {s:Sp} {i:Nat} (h:(i:Int) ≠ who) (h2:clearL (at_ T (i:Int)).w [s]=false):barB T who write s i=true:=by unfold barB wAt;rw [decide_eq_false h,h2];rfl
theorem barS_3 {T:List Ho} {who:Int} {write:Bool} {s:Sp} {i:Nat} (h2:clearL (at_ T (i:Int)).w [s]=true) (hw:write=false):barB T who write s i=false:=by unfold barB wAt;rw [h2,hw];simp
theorem barS_4 {T:List Ho} {who:Int} {write:Bool} {s:Sp} {i:Nat} (h:(i:Int) ≠ who) (hw:write=true) (h3:clearL (at_ T (i:Int)).r [s]=false):barB T who write s i=true:=by unfold barB rAt;rw [decide_eq_false h,h3,hw];simp
theorem barS_5 {T:List Ho} {who:Int} {write:Bool} {s:Sp} {i:Nat} (h2:clearL (at_ T (i:Int)).w [s]=true) (h3:clearL (at_ T (i:Int)).r [s]=true):barB T who write s i=false:=by unfold barB rAt wAt;rw [h2,h3];simp
theorem spansOk_one {s:Sp} (h:spanOk s=true):spansOk [s]=true:=by
 unfold spansOk
 simp [spansAt,at_,h]
theorem inB_one' {s:Sp} (h:spanOk s=true):inB [s]:=inB_of (spansOk_one h)
theorem nclear {a:List Sp} {s:Sp} (ha:spansOk a=true) (hs:spanOk s=true):(!clearL a [s]) = !eqP (fun i=>ofP a i && ofP [s] i) noP:=by
 congr 1
 rw [Bool.eq_iff_iff,eqP_no,clear_iff ha (spansOk_one hs)]
 rfl
theorem barI_w {T:List Ho} {who:Int} {write:Bool} {s:Sp} {i:Nat} (hl:lockOk T=true) (hi:(i:Int)<T.length) (hs:spanOk s=true) (h:(i:Int) ≠ who) (hw:write=false):(!eqP (fun x=>ofP (at_ T (i:Int)).w x && ofP [s] x) noP)=barB T who write s i:=by
 rw [← nclear (ok_at hl (by omega)).2.1 hs]
 unfold barB wAt
 rw [decide_eq_false h,hw]
 simp
theorem barI_r {T:List Ho} {who:Int} {write:Bool} {s:Sp} {i:Nat} (hl:lockOk T=true) (hi:(i:Int)<T.length) (hs:spanOk s=true) (h:(i:Int) ≠ who) (hw:write=true):(!eqP (fun x=>putP (ofP (at_ T (i:Int)).w) (ofP (at_ T (i:Int)).r) true x && ofP [s] x) noP)=barB T who write s i:=by
 obtain ⟨o1,o2,_⟩:=ok_at hl (i:=i) (by omega)
 have e:(!eqP (fun x=>putP (ofP (at_ T (i:Int)).w) (ofP (at_ T (i:Int)).r) true x && ofP [s] x) noP)=((!eqP (fun x=>ofP (at_ T (i:Int)).w x && ofP [s] x) noP) || (!eqP (fun x=>ofP (at_ T (i:Int)).r x && ofP [s] x) noP)):=by
  rw [Bool.eq_iff_iff]
  simp only [Bool.or_eq_true,Bool.not_eq_true',← Bool.not_eq_true,eqP_no]
  constructor
  ·intro hc
   by_cases h1:∀ x,x<48→ofP (at_ T (i:Int)).w x=true→ofP [s] x=true→False
   ·refine .inr fun h2=>hc fun x hx a b=>?_
    unfold putP at a
    split at a
    ·rename_i q;exact h2 x hx q b
    ·exact h1 x hx a b
   ·exact .inl h1
  ·rintro (hc|hc) hall
   ·exact hc fun x hx a b=>hall x hx (by unfold putP;split;rfl;exact a) b
   ·exact hc fun x hx a b=>hall x hx (by unfold putP;rw [if_pos a]) b
 rw [e,← nclear o2 hs,← nclear o1 hs]
 unfold barB wAt rAt
 rw [decide_eq_false h,hw]
 simp
theorem lb_no {T:List Ho} {who:Int} {write:Bool} {s:Sp} (h:lockOk T=false∨whoOk who=false∨spanOk s=false):lockBars T who write s = []:=by
 unfold lockBars
 rw [if_neg]
 rcases h with h|h|h <;> rw [h] <;> simp
theorem lb_ok {T:List Ho} {who:Int} {write:Bool} {s:Sp} (h1:lockOk T=true) (h2:whoOk who=true) (h3:spanOk s=true):barsL T who write s T.length=lockBars T who write s:=by
 unfold lockBars
 rw [if_pos (by rw [h1,h2,h3];rfl)]
section
variable {P:Program} {nt:Nat} {ops:Array Oper} {draw:Bool} {rest:List Oper} {u d:Nat} {t:List (Nat × Value)} {h:List (Nat × Bool × Fam)} {acc:List Eff} {K:St→Prop} {o:Oper}
end
theorem take_at {α:Type} [Inhabited α] {T:List α} {j:Nat} (h:(j:Int)<T.length):(T.take (j + 1))[j]?=some (at_ T (j:Int)):=by
 rw [List.getElem?_take_of_lt (Nat.lt_succ_self _),List.getElem?_eq_getElem (show j<T.length by omega),at_get]
theorem take_len' {α:Type} {T:List α} {j:Nat} (h:j≤T.length):(T.take j).length=j:=by rw [List.length_take];omega
theorem ap_x {C j:Nat} {T:List Ho} {x:Hv} (h:(j:Int)<T.length):(tabV C zo (T.take j) ++ [x]).length=(T.take (j + 1)).length:=by
 rw [List.length_append,tabV_len,take_len' (by omega),take_len' (by omega)];rfl
theorem ap_i {C j va vb:Nat} {T:List Ho} (h:(j:Int)<T.length):at_ (tabV C zo (T.take j) ++ [⟨.slice (some ⟨va,0,none⟩) (at_ T (j:Int)).r.length 0,.slice (some ⟨vb,0,none⟩) (at_ T (j:Int)).w.length 0⟩]) (j:Int)=⟨.slice (some ⟨va,0,none⟩) (at_ (T.take (j + 1)) (j:Int)).r.length 0,.slice (some ⟨vb,0,none⟩) (at_ (T.take (j + 1)) (j:Int)).w.length 0⟩:=by
 rw [at_of (take_at h)]
 exact at_of (by rw [List.getElem?_append_right (by rw [tabV_len,take_len' (by omega)];exact Nat.le_refl _),tabV_len,take_len' (by omega),Nat.sub_self];rfl)
theorem at_take {α:Type} [Inhabited α] {T:List α} {i j:Nat} (h:i<j):at_ (T.take j) (i:Int)=at_ T (i:Int):=by
 unfold at_
 simp only [List.getD_eq_getElem?_getD,Int.toNat_natCast]
 rw [List.getElem?_take_of_lt h]
theorem ap_j {C i j:Nat} {T:List Ho} {x:Hv} (h:(j:Int)<T.length) (hi:i<(T.take (j + 1)).length) (hne:i ≠ j):at_ (tabV C zo (T.take j) ++ [x]) (i:Int)=hv C zo i (at_ (T.take (j + 1)) (i:Int)):=by
 rw [take_len' (by omega)] at hi
 have e:at_ (tabV C zo (T.take j) ++ [x]) (i:Int)=at_ (tabV C zo (T.take j)) (i:Int):=by
  unfold at_
  simp only [List.getD_eq_getElem?_getD,Int.toNat_natCast]
  rw [List.getElem?_append_left (by rw [tabV_len,take_len' (by omega)];omega)]
 rw [e,at_tabV (by omega) (by rw [take_len' (by omega)];omega),at_take (by omega),at_take (by omega)]
 rfl
theorem ap_g {T:List Ho} {i j:Nat} (h:(j:Int)<T.length) (hne:i ≠ j) (hs:(T.take (j + 1))[i]? ≠ none):(T.take j)[i]?=(T.take (j + 1))[i]?:=by
 have hi:i<(T.take (j + 1)).length:=by
  rcases Nat.lt_or_ge i (T.take (j + 1)).length with q|q
  ·exact q
  ·exact absurd (List.getElem?_eq_none q) hs
 rw [take_len' (by omega)] at hi
 rw [List.getElem?_take_of_lt (by omega),List.getElem?_take_of_lt (by omega)]
theorem ap_ho {T:List Ho} {j:Nat} (h:(j:Int)<T.length):(T.take (j + 1))[j]?=some ⟨(at_ T (j:Int)).r,(at_ T (j:Int)).w⟩:=take_at h
def setH (T:List Ho) (who:Int) (h:Ho):List Ho:=T.set who.toNat h
def repT (T:List Ho) (who:Int) (h:Ho):List Ho:=if lockOk (setH T who h)=true then setH T who h else T
theorem setH_len {T:List Ho} {who:Int} {h:Ho}:(setH T who h).length=T.length:=List.length_set
theorem repT_T {T:List Ho} {who:Int} {h:Ho} (hk:lockOk (setH T who h)=true):repT T who h=setH T who h:=if_pos hk
theorem repT_F {T:List Ho} {who:Int} {h:Ho} (hk:lockOk (setH T who h)=false):repT T who h=T:=if_neg (by rw [hk];decide)
theorem setH_B {T:List Ho} {who:Int} {h:Ho} {n:Nat} (hB:∀ x ∈ T,x.r.length≤n∧x.w.length≤n) (hh:h.r.length≤n∧h.w.length≤n):∀ x ∈ setH T who h,x.r.length≤n∧x.w.length≤n:=fun x hx=>by
 rcases List.mem_or_eq_of_mem_set hx with q|rfl
 ·exact hB x q
 ·exact hh
theorem set_i {T:List Ho} {C va vb:Nat} {who:Int} {h:Ho} (h0:0≤who) (hi:who.toNat<(setH T who h).length):at_ ((tabV C zo T).set who.toNat ⟨.slice (some ⟨va,0,none⟩) h.r.length 0,.slice (some ⟨vb,0,none⟩) h.w.length 0⟩) (who.toNat:Int)=⟨.slice (some ⟨va,0,none⟩) (at_ (setH T who h) (who.toNat:Int)).r.length 0,.slice (some ⟨vb,0,none⟩) (at_ (setH T who h) (who.toNat:Int)).w.length 0⟩:=by
 rw [setH_len] at hi
 unfold setH
 rw [at_set_self (by rw [tabV_len];exact hi),at_set_self hi]
theorem set_j {T:List Ho} {C j:Nat} {who:Int} {h:Ho} {x:Hv} (hj:j<(setH T who h).length) (hne:j ≠ who.toNat):at_ ((tabV C zo T).set who.toNat x) (j:Int)=hv C zo j (at_ (setH T who h) (j:Int)):=by
 rw [setH_len] at hj
 unfold setH
 rw [at_set_ne hne,at_set_ne hne,at_tabV (by omega) (by omega)]
 rfl
theorem set_g {T:List Ho} {j:Nat} {who:Int} {h:Ho} (hne:j ≠ who.toNat):T[j]?=(setH T who h)[j]?:=by unfold setH;rw [List.getElem?_set_ne (by omega)]
theorem set_at {T:List Ho} {who:Int} {h:Ho} (hi:who.toNat<T.length):(setH T who h)[who.toNat]?=some ⟨h.r,h.w⟩:=by unfold setH;rw [List.getElem?_set_self hi]
theorem set_xl {T:List Ho} {C:Nat} {who:Int} {h:Ho} {x:Hv}:((tabV C zo T).set who.toNat x).length=(setH T who h).length:=by rw [List.length_set,tabV_len,setH_len]
theorem aTabX {ts:List (Nat→Option Nat)} {h:List (Nat × Bool × Fam)} {rds:List Nat} {b c t t' e e' B C j i va vb:Nat} {T2:List Ho} {xs:List Hv} {o':Bool} {F':Fam} (hg:ts[b]?=some (nA (nm B j))) (hc:ts[c]?=some (nX C (2 * i) va vb)) (hl:h.lookup B=some (o',F')) (hF:F' j=some ⟨rHv xs,t',e'⟩) (hx:xs.length=T2.length) (hi:i<T2.length→at_ xs (i:Int)=⟨.slice (some ⟨va,0,none⟩) (at_ T2 (i:Int)).r.length 0,.slice (some ⟨vb,0,none⟩) (at_ T2 (i:Int)).w.length 0⟩) (hj:∀ j:Nat,j<T2.length→j ≠ i→at_ xs (j:Int)=hv C zo j (at_ T2 (j:Int)))
  (ht:e=0∨t'=t) (he:e=0∨e'=e∨(77≤e∧e<100∧e' ≠ 0)) (hb:(Nat.blt b 1000 && Nat.blt B 1000 && rds.contains B && Nat.ble t capT)=true) (hcc:Nat.blt c 1000=true):ArgT (tm ts) h rds b (one ⟨rHv (tabV c zo T2),t,e⟩):=by
 rw [Bool.and_eq_true] at hb
 refine aRowN hg tabV_po hl hF ⟨.inl ?_,fun q=>ht.resolve_left q,he,fun _=>.inr (Nat.le_of_ble_eq_true hb.2)⟩ hb.1
 have hcc:=of_blt hcc
 show _=(rHv _).map (tn1 (tm ts))
 symm
 refine rHv_map (by rw [tabV_len,hx]) fun k hk=>?_
 rw [tabV_len] at hk
 rw [at_tabV (by omega) (by omega)]
 have e0:∀ k,tm ts (nm c k)=nX C (2 * i) va vb k:=fun k=>tm_nm hcc hc
 by_cases hki:k=i
 ·subst hki
  rw [hi hk]
  simp [hv,tn1,e0,nX_a,nX_b]
 ·rw [hj k hk hki]
  have e1:nX C (2 * i) va vb (2 * k)=some (nm C (2 * k)):=nX_C (by omega) (by omega)
  have e2:nX C (2 * i) va vb (2 * k + 1)=some (nm C (2 * k + 1)):=nX_C (by omega) (by omega)
  simp [hv,tn1,e0,e1,e2]
theorem aInX {ts:List (Nat→Option Nat)} {h:List (Nat × Bool × Fam)} {rds:List Nat} {c t C i va vb t1 e1 ta ea tb eb:Nat} {T1 T2:List Ho} {o1 oa ob:Bool} {ra rb:List Sp} (hc:ts[c]?=some (nX C (2 * i) va vb)) (hl:h.lookup C=some (o1,inF zo t1 e1 T1)) (ha:h.lookup va=some (oa,one ⟨rSp ra,ta,ea⟩)) (hb:h.lookup vb=some (ob,one ⟨rSp rb,tb,eb⟩)) (hd:∀ j,j ≠ i→T2[j]? ≠ none→T1[j]?=T2[j]?) (hi:T2[i]?=some ⟨ra,rb⟩)
  (hck:(Nat.blt c 1000 && Nat.blt C 1000 && Nat.blt va 1000 && Nat.blt vb 1000 && rds.contains C && rds.contains va && rds.contains vb && Nat.ble t capT)=true):ArgT (tm ts) h rds c (inF zo t 0 T2):=by
 simp only [Bool.and_eq_true,List.contains_iff_mem] at hck
 obtain ⟨⟨⟨⟨⟨⟨⟨k1,k2⟩,k3⟩,k4⟩,k5⟩,k6⟩,k7⟩,k8⟩:=hck
 have k8:=Nat.le_of_ble_eq_true k8
 have k1:=of_blt k1
 have k2:=of_blt k2
 have k3:=of_blt k3
 have k4:=of_blt k4
 have e0:∀ k,tm ts (nm c k)=nX C (2 * i) va vb k:=fun k=>tm_nm k1 hc
 refine ⟨fun k n' q=>?_,fun k x hx=>?_⟩
 ·rw [e0] at q
  unfold nX at q
  split at q
  ·cases q;rw [Nat.mod_eq_of_lt k3];exact ⟨k6,_,ha⟩
  ·split at q
   ·cases q;rw [Nat.mod_eq_of_lt k4];exact ⟨k7,_,hb⟩
   ·cases q;rw [nm_mod k2];exact ⟨k5,_,hl⟩
 ·have hx0:=hx
  unfold inF at hx
  simp only [Option.map_eq_some_iff] at hx
  obtain ⟨y,hy,rfl⟩:=hx
  refine ⟨flat_poL (inF_flat hx0),fun q=>?_,fun n' q=>?_⟩
  ·rw [e0] at q
   unfold nX at q
   split at q
   ·cases q
   ·split at q <;> cases q
  ·rw [e0] at q
   rw [tnb_flat (inF_flat hx0)]
   unfold nX at q
   split at q
   ·cases q
    rename_i hk
    subst hk
    rw [show 2 * i / 2=i by omega,hi] at hy
    cases hy
    refine ⟨oa,_,_,by rw [Nat.mod_eq_of_lt k3];exact ha,by rw [Nat.div_eq_of_lt k3];rfl,?_,fun q=>absurd rfl q,.inl rfl,fun _=>.inr k8⟩
    have:sel ⟨ra,rb⟩ (2 * i)=ra:=by simp [sel]
    rw [this]
    exact .inl rfl
   ·split at q
    ·cases q
     rename_i hk
     subst hk
     rw [show (2 * i + 1) / 2=i by omega,hi] at hy
     cases hy
     refine ⟨ob,_,_,by rw [Nat.mod_eq_of_lt k4];exact hb,by rw [Nat.div_eq_of_lt k4];rfl,?_,fun q=>absurd rfl q,.inl rfl,fun _=>.inr k8⟩
     have:sel ⟨ra,rb⟩ (2 * i + 1)=rb:=by simp [sel]
     rw [this]
     exact .inl rfl
    ·cases q
     have e1':=hd (k / 2) (fun q=>by omega) (by rw [hy];exact Option.some_ne_none _)
     rw [hy] at e1'
     exact ⟨o1,_,⟨hls (zo k) (rSp (sel y k)),t1,_⟩,by rw [nm_mod k2];exact hl,by rw [nm_div k2];unfold inF;rw [e1'];rfl,.inl rfl,fun q=>absurd rfl q,.inl rfl,fun _=>.inr k8⟩
theorem ofL_in {f:Nat→Bool}:∀ j,∀ x,ofP (l1ofL f j) x=(decide (x<j) && f x):=by
 intro j
 induction j with
 | zero=>intro x;simp [l1ofL,ofP]
 | succ j ih =>
  intro x
  cases hf:f j with
  | false =>
   rw [ofL_a hf,ih]
   by_cases hx:x=j
   ·subst hx;simp [hf]
   ·by_cases h2:x<j
    ·simp [h2,show x<j + 1 by omega]
    ·simp [h2,show ¬ x<j + 1 by omega]
  | true =>
   by_cases hc:((l1ofL f j).length:Int) > 0∧(at_ (l1ofL f j) (((l1ofL f j).length:Int) - 1)).hi=(j:Int)
   ·rw [ofL_b hf hc.1 hc.2]
    have hlt:((((l1ofL f j).length:Int) - 1).toNat)<(l1ofL f j).length:=by omega
    have hsp:(l1ofL f j)[(((l1ofL f j).length:Int) - 1).toNat]=at_ (l1ofL f j) (((l1ofL f j).length:Int) - 1):=at_nat (by omega) (by omega)
    have key:∀ (l:List Sp) (i:Nat) (hi:i<l.length) (s:Sp),s.lo=l[i].lo→s.hi=l[i].hi + 1→l[i].lo≤l[i].hi→ofP (l.set i s) x=(ofP l x || decide ((x:Int)=l[i].hi)):=by
     intro l i hi s h1 h2 h3
     rw [Bool.eq_iff_iff,Bool.or_eq_true,ofP_iff,ofP_iff,decide_eq_true_eq]
     constructor
     ·rintro ⟨y,hy,y1,y2⟩
      rcases List.mem_or_eq_of_mem_set hy with q|rfl
      ·exact .inl ⟨y,q,y1,y2⟩
      ·by_cases q:(x:Int)=l[i].hi
       ·exact .inr q
       ·exact .inl ⟨l[i],List.getElem_mem hi,by omega,by omega⟩
     ·rintro (⟨y,hy,y1,y2⟩|q)
      ·obtain ⟨k,hk,rfl⟩:=List.getElem_of_mem hy
       by_cases hki:k=i
       ·subst hki
        exact ⟨s,List.mem_set hi _,by omega,by omega⟩
       ·refine ⟨l[k],?_,y1,y2⟩
        have:(l.set i s)[k]'(by rw [List.length_set];exact hk)=l[k]:=List.getElem_set_ne (by omega) _
        rw [← this]
        exact List.getElem_mem _
      ·exact ⟨s,List.mem_set hi _,by omega,by omega⟩
    have hle:∀ s ∈ l1ofL f j,s.lo≤s.hi:=by
     have:∀ n,∀ s ∈ l1ofL f n,s.lo≤s.hi∧s.hi≤(n:Int):=by
      intro n
      induction n with
      | zero=>intro s hs;cases hs
      | succ n ihn =>
       intro s hs
       cases hfn:f n with
       | false=>rw [ofL_a hfn] at hs;have:=ihn s hs;omega
       | true =>
        by_cases hcn:((l1ofL f n).length:Int) > 0∧(at_ (l1ofL f n) (((l1ofL f n).length:Int) - 1)).hi=(n:Int)
        ·rw [ofL_b hfn hcn.1 hcn.2] at hs
         rcases List.mem_or_eq_of_mem_set hs with q|rfl
         ·have:=ihn s q;omega
         ·have:=ihn _ (at_mem (l:=l1ofL f n) (i:=((l1ofL f n).length:Int) - 1) (by omega) (by omega))
          constructor
          ·show (at_ (l1ofL f n) _).lo≤(n:Int) + 1;omega
          ·show (n:Int) + 1≤_;omega
        ·rw [ofL_c hfn hcn] at hs
         rcases List.mem_append.1 hs with q|q
         ·have:=ihn s q;omega
         ·have:s=⟨(n:Int),(n:Int) + 1⟩:=by simpa using q
          subst this
          constructor <;> (simp;try omega)
     exact fun s hs=>(this j s hs).1
    have:=key (l1ofL f j) _ hlt ⟨(at_ (l1ofL f j) (((l1ofL f j).length:Int) - 1)).lo,(j:Int) + 1⟩ (by rw [hsp]) (by rw [hsp,hc.2]) (by rw [hsp];exact hle _ (at_mem (by omega) (by omega)))
    rw [this,ih,hsp,hc.2]
    by_cases hx:x=j
    ·subst hx;simp [hf]
    ·have hx':¬ (x:Int)=j:=by omega
     by_cases h2:x<j
     ·simp [h2,show x<j + 1 by omega,hx']
     ·simp [h2,show ¬ x<j + 1 by omega,hx']
   ·rw [ofL_c hf hc]
    have e:ofP (l1ofL f j ++ [⟨(j:Int),(j:Int) + 1⟩]) x=(ofP (l1ofL f j) x || decide (x=j)):=by
     unfold ofP
     rw [List.any_append]
     congr 1
     simp only [List.any_cons,List.any_nil,Bool.or_false,inSp]
     rw [Bool.eq_iff_iff]
     simp
     omega
    rw [e,ih]
    by_cases hx:x=j
    ·subst hx;simp [hf]
    ·by_cases h2:x<j
     ·simp [h2,show x<j + 1 by omega,hx]
     ·simp [h2,show ¬ x<j + 1 by omega,hx]
theorem ofP_ofP {f:Nat→Bool} {x:Nat} (hx:x<48):ofP (l1ofP f) x=f x:=by
 have:=ofL_in (f:=f) 48 x
 rw [show l1ofP f=l1ofL f 48 from rfl,this]
 simp [hx]
theorem l1ofP_congr {f g:Nat→Bool} (h:∀ x,x<48→f x=g x):l1ofP f=l1ofP g:=l1ofL_congr 48 h
section
variable {P:Program} {nt:Nat} {ops:Array Oper} {draw:Bool} {rest:List Oper} {u d:Nat} {t:List (Nat × Value)} {h:List (Nat × Bool × Fam)} {acc:List Eff} {K:St→Prop} {o:Oper}
theorem gNilC {ty yt e:TypeId} {x y:Operand} {n i len c:Nat} {b:Blk} (hw:wantT (tl t) ops o) (hop:o.op = .binOp .eql ty x y yt) (hu:P.underlying ty=some (.slice e)) (hx:ev t x=some (.slice (some ⟨n,i,none⟩) len c)) (hy:ev t y=some (.slice none 0 0)) (hb:hat (hp h) n=some b) (hs:o.dst=some d) (hn:Nat.blt d nt=true) (h1:b.cs ≠ [])
  (k:RG P nt ops draw rest ⟨u,(d,.bool false) :: t,h⟩ (acc ++ [{ v:=.bool false,rd:=[n % 1000] }]) K):RG P nt ops draw (o :: rest) ⟨u,t,h⟩ acc K:=by
 refine gV (does_flat hw rfl fun ρ ac w ht hah=>?_) hs hn k
 have hbl:=hat_at hb hah (.inl (.head _))
 have hnil:=(blkAt_cell hbl h1).1
 have e1:ac.eval x=r3 ρ (.slice (some ⟨n,i,none⟩) len c):=ev_sound (ρ:=ρ) (by rw [hop];simp [Op.operands]) ht hx
 have e1:ac.eval x = .slice (some ⟨(ρ n).blk,i,none⟩) len ((ρ n).cap - c):=by rw [e1];show (if (ρ n).nil=true then zv _ else _)=_;rw [if_neg (by rw [hnil];decide)]
 have e2:ac.eval y = .slice none 0 0:=ev_sound (ρ:=ρ) (by rw [hop];simp [Op.operands]) ht hy
 have e3:(Op.equal ty (.slice (some ⟨(ρ n).blk,i,none⟩) len ((ρ n).cap - c)) (.slice none 0 0)).run P w = .ok false w:=by
  show (Op.equalIn (9999 + 1) ty _ _).run P w=_
  unfold Op.equalIn
  simp [run_underlying hu,Sem.run_pure,Sem.run_bind,Result.andThen_ok]
 simp [execOp,hop,e1,e2,eqGuard,binOp,e3,Sem.run_pure,Sem.run_bind,Result.andThen_ok]
theorem gNilT {ty yt e:TypeId} {x y:Operand} (hw:wantT (tl t) ops o) (hop:o.op = .binOp .eql ty x y yt) (hu:P.underlying ty=some (.slice e)) (hx:ev t x=some (.slice none 0 0)) (hy:ev t y=some (.slice none 0 0)) (hs:o.dst=some d) (hn:Nat.blt d nt=true)
  (k:RG P nt ops draw rest ⟨u,(d,.bool true) :: t,h⟩ (acc ++ [{ v:=.bool true }]) K):RG P nt ops draw (o :: rest) ⟨u,t,h⟩ acc K:=by
 refine gV (does_flat hw rfl fun ρ ac w ht hah=>?_) hs hn k
 have e1:ac.eval x = .slice none 0 0:=ev_sound (ρ:=ρ) (by rw [hop];simp [Op.operands]) ht hx
 have e2:ac.eval y = .slice none 0 0:=ev_sound (ρ:=ρ) (by rw [hop];simp [Op.operands]) ht hy
 have e3:(Op.equal ty (.slice none 0 0) (.slice none 0 0)).run P w = .ok true w:=by
  show (Op.equalIn (9999 + 1) ty _ _).run P w=_
  unfold Op.equalIn
  simp [run_underlying hu,Sem.run_pure,Sem.run_bind,Result.andThen_ok]
 simp [execOp,hop,e1,e2,eqGuard,binOp,e3,Sem.run_pure,Sem.run_bind,Result.andThen_ok]
end
theorem cw_flat (l:List Sp):(rSp l ++ [hole]).all flat1=true:=by rw [List.all_append,rSp_flat];rfl
theorem cw_len (l:List Sp):0 + l.length * 2≤(rSp l ++ [hole]).length:=by rw [List.length_append,rowL_len (n:=2) (fun _=>rfl)];simp
theorem cw_take (l:List Sp):((rSp l ++ [hole]).drop 0).take (l.length * 2)=rSp l:=by rw [List.drop_zero,List.take_left' (rowL_len (n:=2) (fun _=>rfl) l)]
theorem cw_leaf (l:List Sp):(((rSp l ++ [hole]).drop 0).take (l.length * 2)).all leaf=true:=by rw [cw_take];exact rSp_leaf l
theorem cw_eq (l:List Sp):[] ++ ((rSp l ++ [hole]).drop 0).take (l.length * 2)=rSp l:=by rw [cw_take];rfl
theorem clone_both {P:Program} {f:FuncId} {cs:List Value} {n ty e ty' e':Nat} (hf:cs.all flat1=true) (hz:cs = []→n=0) (he:77≤e∧e<100) (he':0<e'∧e'<77) (hty:Nat.ble ty capT=true) (hn:FDoes P f [.slice none 0 0] (hp []) { v:=.slice none 0 0 }) (hs:FDoes P f [.slice (some ⟨0,0,none⟩) n 0] (hp [(0,false,one ⟨cs ++ [hole],ty,0⟩)]) (mkE (.slice (some ⟨1,0,none⟩) n 0) [0] [] [(1,⟨cs,ty',e'⟩)])) :
  FDoes P f [.slice (some ⟨0,0,none⟩) n 0] (hp [(0,false,one ⟨cs,ty,e⟩)]) (mkE (.slice (some ⟨1,0,none⟩) n 0) [0] [] [(1,⟨cs,ty',e'⟩)]):=by
 refine ⟨fun ρ w ha=>?_,hs.det,hs.detA,hs.detU,fun b hb=>?_,hs.nw⟩
 ·have hb0:blkAt ρ w (nm 0 0) ⟨cs,ty,e⟩:=ha.rd 0 (.inl (.head _)) false _ rfl 0 _ rfl
  have e0:nm 0 0=0:=rfl
  cases hnil:(ρ 0).nil with
  | true =>
   have hb1:=hb0
   unfold blkAt at hb1
   rw [e0,hnil,if_pos rfl] at hb1
   have hc:cs = []:=hb1.1
   have hzz:(ρ 0).z=none:=hb1.2.1 (by show e ≠ 0;omega)
   have hn0:=hz hc
   subst hc
   subst hn0
   have ea:([Value.slice (some ⟨0,0,none⟩) 0 0].map (r3 ρ)).toArray=([Value.slice none 0 0].map (r3 ρ)).toArray:=by
    show #[if (ρ 0).nil=true then zv (ρ 0).z else _] = #[_]
    rw [hnil,if_pos rfl,hzz]
    rfl
   rw [ea]
   refine (hn.run ρ w ⟨fun b hb=>?_,fun b hb=>(by cases hb)⟩).mono fun ex w' ⟨ρ',hB,he2⟩=>?_
   ·rcases hb with hb|hb <;> cases hb
   ·subst he2
    refine ⟨updE ρ 1 nilN,⟨fun n hn=>updE_ne (by simpa [Eff.nw,mkE] using hn),fun x hx k y hy=>?_,fun x hx=>(by cases hx),fun x hx k y hy hnil'=>?_,fun x hx x' hx' k k' a b e1 e2 n1=>?_,?_⟩,?_⟩
    ·have hx:x=(1,one ⟨[],ty',e'⟩):=by simpa [mkE] using hx
     subst hx
     obtain ⟨rfl,rfl⟩:=one_some hy
     unfold blkAt
     rw [updE_at (by decide)]
     exact (if_pos rfl).mpr ⟨rfl,fun _=>rfl,by show e'<100;omega⟩
    ·have hx:x=(1,one ⟨[],ty',e'⟩):=by simpa [mkE] using hx
     subst hx
     obtain ⟨rfl,rfl⟩:=one_some hy
     rw [updE_at (by decide)] at hnil'
     cases hnil'
    ·have hx:x=(1,one ⟨[],ty',e'⟩):=by simpa [mkE] using hx
     subst hx
     obtain ⟨rfl,rfl⟩:=one_some e1
     rw [updE_at (by decide)] at n1
     cases n1
    ·have hf:=hB.frm
     exact ⟨hf.os,hf.tape,hf.output,hf.size,fun k hk hn=>hf.block k hk fun ⟨b,hb,_⟩=>(by cases hb)⟩
    ·rfl
  | false =>
   refine (hs.run ρ w ⟨fun b hb o F ho k x hx=>?_,fun b hb=>?_⟩).mono fun ex w' ⟨ρ',hB,he2⟩=>⟨ρ',⟨hB.env,hB.asg,hB.up,fun x hx k y hy hq=>?_,hB.inj,?_⟩,he2⟩
   ·have hb:b=0:=by
     rcases hb with hb|hb
     ·simpa [mkE] using hb
     ·simp [mkE,Eff.wr] at hb
    subst hb
    have ho:some (false,one ⟨cs ++ [hole],ty,0⟩)=some (o,F):=ho
    cases ho
    obtain ⟨rfl,rfl⟩:=one_some hx
    unfold blkAt at hb0 ⊢
    rw [e0,hnil,if_neg (by decide),if_neg (by show e ≠ 0;omega)] at hb0
    rw [e0,hnil,if_neg (by decide),if_pos rfl]
    obtain ⟨sl,z,h1,_⟩:=hb0
    refine ⟨_,_,_,h1,fun i v hv hne=>?_,by rw [show (⟨cs ++ [hole],ty,0⟩:Blk).t - capT=0 from Nat.sub_eq_zero_of_le (Nat.le_of_ble_eq_true hty)];exact Nat.zero_le _⟩
    have hv:(cs ++ [hole])[i]?=some v:=hv
    by_cases hi:i<cs.length
    ·rw [List.getElem?_append_left hi] at hv
     rw [List.getElem?_toArray,List.getElem?_append_left (by simpa using hi),List.getElem?_map,hv]
     rfl
    ·rw [List.getElem?_append_right (by omega)] at hv
     have:=List.mem_of_getElem? hv
     exact absurd (List.mem_singleton.1 this) hne
   ·simp [mkE,Eff.wr] at hb
   ·rcases hB.new x hx k y hy hq with h1|⟨c,hc,_⟩
    ·exact .inl h1
    ·cases hc
   ·have hf:=hB.frm
    exact ⟨hf.os,hf.tape,hf.output,hf.size,fun k hk hn=>hf.block k hk fun ⟨b,hb,_⟩=>(by simp [mkE,Eff.wr] at hb)⟩
 ·have hb:b=0:=by
   rcases hb with hb|hb
   ·simpa [mkE] using hb
   ·simp [mkE,Eff.wr] at hb
  subst hb
  exact ⟨by decide,_,rfl⟩
def cutL (l:List Sp) (s:Sp):List Sp:=l1ofP (putP (ofP l) (ofP [s]) false)
def addL (l:List Sp) (s:Sp):List Sp:=l1ofP (putP (ofP l) (ofP [s]) true)
def withoutL (a b:List Sp):List Sp:=l1ofP fun x=>l1In a (x:Int) && !ofP b x
def giveH (h:Ho) (write:Bool) (s:Sp):Ho:=if write=true then ⟨cutL h.r s,addL h.w s⟩ else ⟨withoutL (addL h.r s) h.w,h.w⟩
def dropH (h:Ho) (s:Sp):Ho:=⟨cutL h.r s,cutL h.w s⟩
def downH (h:Ho) (s:Sp):Ho:=⟨l1ofP fun x=>l1In h.r (x:Int) || (ofP [s] x && ofP h.w x),cutL h.w s⟩
def offH:Ho:=⟨[],[]⟩
def dropI (h:Ho) (s:Sp):Ho:=⟨l1ofP (putP (ofP h.r) (ofP [s]) false),l1ofP (putP (ofP h.w) (ofP [s]) false)⟩
def resT (T:List Ho) (go:Bool) (who:Int) (h:Ho):List Ho:=if lockOk T=true then (if go=true then repT T who h else T) else []
def resB (T:List Ho) (go:Bool) (who:Int) (h:Ho):Bool:=lockOk T && (go && lockOk (setH T who h))
def goK (who:Int) (s:Sp) (may:Bool):Bool:=whoOk who && (spanOk s && may)
theorem one_in {s:Sp} {x:Nat}:ofP [s] x=inSp s x:=by simp [ofP]
theorem ofL_no:∀ j,l1ofL (fun _=>false) j = []
 | 0=>rfl
 | j + 1=>by rw [ofL_a rfl];exact ofL_no j
theorem dropI_off (h:Ho):dropI h ⟨0,48⟩=offH:=by
 have e:∀ f:Nat→Bool,l1ofP (putP f (ofP [⟨0,48⟩]) false) = []:=fun f=>by
  have:l1ofP (putP f (ofP [⟨0,48⟩]) false)=l1ofP fun _=>false:=l1ofP_congr fun x hx=>by
   unfold putP
   rw [one_in,if_pos]
   rw [inSp_iff]
   constructor <;> (show _ ; simp;try omega)
  rw [this]
  exact ofL_no 48
 unfold dropI offH
 rw [e,e]
theorem spanOk_all:spanOk ⟨0,48⟩=true:=by decide
theorem res_no {T:List Ho} {go:Bool} {who:Int} {h:Ho} (hk:lockOk T=false):resT T go who h = []∧resB T go who h=false:=by unfold resT resB;rw [if_neg (by rw [hk];decide),hk];exact ⟨rfl,rfl⟩
theorem res_stay {T:List Ho} {go:Bool} {who:Int} {h:Ho} (hk:lockOk T=true) (hg:go=false):resT T go who h=T∧resB T go who h=false:=by unfold resT resB;rw [if_pos hk,if_neg (by rw [hg];decide),hk,hg];exact ⟨rfl,rfl⟩
theorem res_go {T:List Ho} {go:Bool} {who:Int} {h:Ho} (hk:lockOk T=true) (hg:go=true):resT T go who h=repT T who h∧resB T go who h=lockOk (setH T who h):=by unfold resT resB;rw [if_pos hk,if_pos hg,hk,hg];exact ⟨rfl,rfl⟩
theorem goK_1 {who:Int} {s:Sp} {may:Bool} (h:whoOk who=false):goK who s may=false:=and_false_l h
theorem goK_2 {who:Int} {s:Sp} {may:Bool} (h:spanOk s=false):goK who s may=false:=and_false_r (and_false_l h)
theorem goK_3 {who:Int} {s:Sp} {may:Bool} (h:may=false):goK who s may=false:=and_false_r (and_false_r h)
theorem goK_4 {who:Int} {s:Sp} {may:Bool} (h1:whoOk who=true) (h2:spanOk s=true) (h3:may=true):goK who s may=true:=and_true h1 (and_true h2 h3)
theorem l48 {f:Nat→Bool}:(l1ofP f).length≤1048576:=Nat.le_trans ofL48_len (by decide)
theorem wo_len {a b:List Sp}:(withoutL a b).length≤1048576:=l48
theorem wo_0 {a b:List Sp}:l1ofP (fun x=>l1In a (x:Int))=l1ofP fun x=>l1In a (x:Int) && !ofP (b.take 0) x:=l1ofP_congr fun x _=>by simp [ofP]
theorem wo_step {a b:List Sp} {j:Nat} (hj:(j:Int)<b.length):l1ofP (putP (ofP (l1ofP fun x=>l1In a (x:Int) && !ofP (b.take j) x)) (ofP [at_ b (j:Int)]) false)=l1ofP fun x=>l1In a (x:Int) && !ofP (b.take (j + 1)) x:=l1ofP_congr fun x hx=>by
 unfold putP
 rw [ofP_ofP hx,ofP_succ (by omega),one_in]
 cases l1In a (x:Int) <;> cases ofP (b.take j) x <;> cases inSp (at_ b (j:Int)) x <;> rfl
theorem wo_end {a b:List Sp} {j:Nat} (hj:j≤b.length) (h:¬ (j:Int)<b.length):(l1ofP fun x=>l1In a (x:Int) && !ofP (b.take j) x)=withoutL a b:=by
 rw [show j=b.length by omega,List.take_length]
 rfl
def dnP (h:Ho) (s:Sp) (i:Int) (x:Nat):Bool:=l1In h.r (x:Int) || (decide (s.lo≤(x:Int)∧(x:Int)<i) && ofP h.w x)
theorem dn_0 {h:Ho} {s:Sp}:plL (fun x=>l1In h.r (x:Int))=plL (dnP h s s.lo):=plL_congr fun x _=>by
 unfold dnP
 rw [decide_eq_false (by omega)]
 simp
theorem dn_step {h:Ho} {s:Sp} {i:Int} {b:Bool} (h0:0≤i) (h1:s.lo≤i) (hb:b=(dnP h s i i.toNat || l1In h.w i)):plL (upP (dnP h s i) i.toNat b)=plL (dnP h s (i + 1)):=plL_congr fun x _=>by
 unfold upP
 by_cases e:x=i.toNat
 ·rw [if_pos e,hb]
  unfold dnP
  rw [← e,decide_eq_false (by omega),decide_eq_true (by omega),ofP_in,show (x:Int)=i by omega]
  simp
 ·rw [if_neg e]
  unfold dnP
  congr 2
  exact decide_eq_decide.2 (by omega)
theorem dn_T {h:Ho} {s:Sp} {i:Int} (hb:dnP h s i i.toNat=true):true=(dnP h s i i.toNat || l1In h.w i):=by rw [hb];rfl
theorem dn_F {h:Ho} {s:Sp} {i:Int} (hb:dnP h s i i.toNat=false):l1In h.w i=(dnP h s i i.toNat || l1In h.w i):=by rw [hb];rfl
theorem dn_end {h:Ho} {s:Sp} {i:Int} (hi:¬ i<s.hi) (hj:i≤s.hi):l1ofP (dnP h s i)=l1ofP fun x=>l1In h.r (x:Int) || (ofP [s] x && ofP h.w x):=l1ofP_congr fun x _=>by
 unfold dnP
 have:i=s.hi:=by omega
 subst this
 congr 2
 rw [one_in,Bool.eq_iff_iff,inSp_iff,decide_eq_true_eq]
theorem give_no {T:List Ho} {who:Int} {write:Bool} {s:Sp} (h1:lockOk T=true) (h2:whoOk who=true) (h3:spanOk s=true) (p:((barsL T who write s T.length).length:Int) > 0):decide (((lockBars T who write s).length:Int)=0)=false:=by
 rw [lb_ok h1 h2 h3] at p
 exact decide_eq_false (by omega)
theorem give_yes {T:List Ho} {who:Int} {write:Bool} {s:Sp} (h1:lockOk T=true) (h2:whoOk who=true) (h3:spanOk s=true) (p:¬ ((barsL T who write s T.length).length:Int) > 0):decide (((lockBars T who write s).length:Int)=0)=true:=by
 rw [lb_ok h1 h2 h3] at p
 exact decide_eq_true (by omega)
theorem giveH_T {h:Ho} {write:Bool} {s:Sp} (hw:write=true):giveH h write s=⟨cutL h.r s,addL h.w s⟩:=if_pos hw
theorem giveH_F {h:Ho} {write:Bool} {s:Sp} (hw:write=false):giveH h write s=⟨withoutL (addL h.r s) h.w,h.w⟩:=if_neg (by rw [hw];decide)
theorem down_eq {h:Ho} {s:Sp} {i:Int} (hi:¬ i<s.hi) (hj:i≤s.hi):downH h s=⟨l1ofP (dnP h s i),cutL h.w s⟩:=by unfold downH;rw [dn_end hi hj]
theorem ktHv {ms:List Nat} {C u2 b D D' i j m n t e:Nat} {g:Nat→Option Nat} {h1:List (Nat × Bool × Fam)} {o o':Bool} (hl:h1.lookup (mp ms b)=some (o',one ⟨[.slice (some ⟨nm D' i,0,none⟩) m 0,.slice (some ⟨nm D' j,0,none⟩) n 0],t,e⟩)) (hD:mp ms D=D') (ho:o=true→o'=true) (hb:(Nat.blt b u2 && Nat.blt b 1000 && Nat.blt (mp ms b) 1000 && !(b == C))=true) (hd:(Nat.blt D u2 && Nat.blt D 1000 && !(D == C))=true) :
  KeepBT (tmG ms C g) u2 h1 b o (one ⟨[.slice (some ⟨nm D i,0,none⟩) m 0,.slice (some ⟨nm D j,0,none⟩) n 0],t,e⟩):=by
 simp only [Bool.and_eq_true,Bool.not_eq_true',beq_eq_false_iff_ne] at hd
 obtain ⟨⟨d1,d2⟩,d3⟩:=hd
 have d2:=of_blt d2
 have q:∀ k,tmG ms C g (nm D k)=some (nm D' k):=fun k=>by rw [tmG_o d2 d3,hD]
 refine ktRow hl rfl ?_ ⟨?_,fun _=>rfl,.inr (.inl rfl),fun q=>.inl ⟨q,rfl⟩⟩ ho hb
 ·show (Nat.blt (nm D i % 1000) u2 && (Nat.blt (nm D j % 1000) u2 && true))=true
  rw [nm_mod d2,nm_mod d2,d1]
  rfl
 ·simp [Blk.tn,tn1,q]
end Go.Proofs.Ytbgehlihpkefmaa.A
namespace Go.Proofs.Ytbgehlihpkefmaa.A
open Go Go.RowKit
set_option maxHeartbeats 4000000
theorem ktCode {ms:List Nat} {C u2 b t k:Nat} {g:Nat→Option Nat} {h1:List (Nat × Bool × Fam)} {o':Bool} {l:List Int} (hl:h1.lookup (mp ms b)=some (o',one ⟨hls k (rY l),t,0⟩)) (hb:(Nat.blt b u2 && Nat.blt b 1000 && Nat.blt (mp ms b) 1000 && !(b == C))=true):KeepBT (tmG ms C g) u2 h1 b false (one ⟨hls k (rY l),t,0⟩):=ktFlat (hls_flat (rY_flat l)) hl (.inl rfl) (fun h=>nomatch h) (by rw [hb];cases Nat.ble t capT <;> rfl)
theorem spansOk_lim {l:List Sp} (h:spansOk l=true):l.length≤12∧∀ s ∈ l,0≤s.hi∧s.hi≤48:=⟨spansOk_len h,fun s hs=>by have:=spanOk_in (spansOk_at h s hs);omega⟩
theorem lst_snoc {Y:List Sp} {x:Sp} (h:∀ s ∈ Y,0≤s.hi∧s.hi≤48) (hx:0≤x.hi∧x.hi≤48):∀ s ∈ Y ++ [x],0≤s.hi∧s.hi≤48:=fun s hs=>by
 rcases List.mem_append.1 hs with h1|h1
 ·exact h s h1
 ·obtain rfl:=List.mem_singleton.1 h1
  exact hx
theorem list_c {l:List Int} {k n t0:Nat} {p:Int} (hl:ByL l) (hn:n≤l.length) (hp0:0≤p) (hp1:p≤996000):∃ E,FDoes Try.prog 84 [.pointer (some ⟨1,0,none⟩)] (hp [(0,false,one ⟨hls k (rY l),t0,0⟩),(1,true,one ⟨[.slice (some ⟨0,k,none⟩) n 0,.int .i64 (p)],82,2⟩)]) E∧∃ (L:List Sp) (p2:Int),L.length≤12∧(∀ s ∈ L,0≤s.hi∧s.hi≤48)∧p≤p2∧p2≤p + 70∧E=mkF (.slice (some ⟨2,0,none⟩) L.length 0) [0] [(1,one ⟨[.slice (some ⟨0,k,none⟩) n 0,.int .i64 (p2)],82,2⟩)] [(2,one ⟨rSp L,28,2⟩)]:=by
 have hm:Try.prog.follows .mixedOrders=true:=by kernel_rfl
 have hd_:∀ x_ ∈ ([(0,false,one ⟨hls k (rY l),t0,0⟩),(1,true,one ⟨[.slice (some ⟨0,k,none⟩) n 0,.int .i64 (p)],82,2⟩)]:List (Nat × Bool × Fam)),∀ k_ y_,x_.2.2 k_=some y_→DetB (lt 2) y_:=by
  intro x_ hx k_ y_ e
  simp only [List.mem_cons,List.not_mem_nil,or_false] at hx
  rcases hx with rfl|rfl
  ·exact det_code e
  ·exact det_ok rfl e
 refine fn_some (u0:=2) Try.func84 rfl rfl (gets rfl rfl rfl hd_ rfl) ?_
 clear hd_
 refine vc_seq ?_
 refine vc_region hm ?_
 refine gM trivial (.inr rfl) rfl rfl rfl ?_
 refine rg_nil nofun ?_
 refine vc_seq ?_
 refine vc_region hm ?_
 refine gR (u':=3) (out:=rSp []) trivial rfl rfl rfl rfl rfl rfl rfl rfl rfl rfl rfl rfl rfl rfl ?_
 refine gM trivial (.inr rfl) rfl rfl rfl ?_
 refine rg_nil nofun ?_
 refine vc_seq ?_
 refine vc_seq ?_
 refine vc_region hm ?_
 refine gM trivial (.inl rfl) rfl rfl rfl ?_
 refine gR (u':=4) (out:=rI [1,2,3,5,0,9]) trivial rfl rfl rfl rfl rfl rfl rfl rfl rfl rfl rfl rfl rfl rfl ?_
 obtain ⟨E1,hE1,x1,x1a,x1b,rfl⟩:=num_c (k:=k) (t0:=t0) (p:=p) hl hn (by omega) (by omega) (L:=[1,2,3,5,0,9]) (a:=0) (b:=9) (by decide) (by decide)
 refine gCF (ups':=[(1,one ⟨[.slice (some ⟨0,k,none⟩) n 0,.int .i64 (p + 1)],82,2⟩)]) (as':=[]) (v':=.int .i64 x1) 4 [0,1,3] hE1 trivial rfl rfl rfl rfl ⟨rCode rfl rfl,rCells rfl ⟨rfl,rfl,.inr rfl⟩ rfl,rFlat (rI_flat _) rfl (.inl rfl) rfl,trivial⟩ ⟨frOne rfl rfl,trivial⟩ trivial rfl rfl (ho1 ⟨_,rfl⟩) (hu1 rfl) rfl rfl ?_
 refine gM trivial (.inr rfl) rfl rfl rfl ?_
 refine rg_nil nofun ?_
 refine vc_block ?_
 refine vc_loopT (fun n_ S_=>∃ (X:List Sp) (i q:Int),X.length≤12∧(∀ s ∈ X,0≤s.hi∧s.hi≤48)∧0≤i∧i≤9∧p≤q∧q≤p + 1 + 5 * (9 - i)∧n_=i.toNat∧S_=⟨3,[(0,.pointer (some ⟨1,0,none⟩)),(3,.slice (some ⟨2,0,none⟩) X.length 0),(4,.int .i64 i)],[(0,false,one ⟨hls k (rY l),t0,0⟩),(1,true,one ⟨[.slice (some ⟨0,k,none⟩) n 0,.int .i64 (q)],82,2⟩),(2,true,one ⟨rSp X,28,2⟩)]⟩) ⟨[],x1,p + 1,(Nat.zero_le _),(fun _ h=>nomatch h),(by omega),(by omega),(by omega),(by omega),rfl,rfl⟩ (re_nil (ms:=[0,1,2]) (C:=999) rfl ⟨⟨⟨rfl,rfl⟩,rfl⟩,⟨⟨rfl,rfl⟩,rfl⟩,⟨⟨rfl,rfl⟩,rfl⟩,trivial⟩ ⟨ktCode rfl rfl,ktRow rfl rfl rfl (BlkW.refl _) id rfl,ktFlat (rSp_flat _) rfl (.inr (.inl rfl)) id rfl,trivial⟩ rfl rfl (rig_of rfl) rfl) ?_
 rintro n_ S_ ⟨X,i,q,hX,hY,hi0,hi,hq,hr,rfl,rfl⟩
 refine vc_seq ?_
 refine vc_seq ?_
 refine vc_region hm ?_
 refine gM trivial (.inl rfl) rfl rfl rfl ?_
 refine gI trivial rfl rfl rfl rfl rfl rfl ?_
 refine rg_nil nofun ?_
 refine cI rfl (fun c12=>?_) (fun c12=>?_)
 ·skip
  have p12:=of_decide_eq_true c12
  refine vc_skip ?_
  refine vc_seq ?_
  refine vc_block ?_
  refine vc_seq ?_
  refine vc_region hm ?_
  refine gM trivial (.inl rfl) rfl rfl rfl ?_
  refine gM trivial (.inl rfl) rfl rfl rfl ?_
  obtain ⟨E3,hE3,s3,p3,s3a,s3b,s3c,q3a,q3b,rfl⟩:=span_c (k:=k) (t0:=t0) (p:=q) hl hn (by omega) (by omega) 
  refine gCF (ups':=[(1,one ⟨[.slice (some ⟨0,k,none⟩) n 0,.int .i64 (p3)],82,2⟩)]) (as':=[]) (v':=vSp s3) 3 [0,1] hE3 trivial rfl rfl rfl rfl ⟨rCode rfl rfl,rCells rfl ⟨rfl,rfl,.inr rfl⟩ rfl,trivial⟩ ⟨frOne rfl rfl,trivial⟩ trivial rfl rfl (ho1 ⟨_,rfl⟩) (hu1 rfl) rfl rfl ?_
  refine gCn 4 [2,3] (spec_l1Add_c (l:=X) (s:=s3) (by omega) ⟨s3a,s3b,s3c⟩) trivial rfl rfl rfl rfl ⟨rFlat (rSp_flat X) rfl (.inl rfl) rfl,trivial⟩ ⟨rSp_flat _,trivial⟩ rfl rfl rfl rfl ?_
  refine gM trivial (.inr rfl) rfl rfl rfl ?_
  refine rg_nil nofun ?_
  refine vc_joinT (fun S_=>∃ (N:List Sp) (q2:Int),N.length≤1048576∧q≤q2∧q2≤q + 5∧S_=⟨4,[(0,.pointer (some ⟨1,0,none⟩)),(3,.slice (some ⟨2,0,none⟩) X.length 0),(4,.int .i64 i),(5,.slice (some ⟨3,0,none⟩) N.length 0)],[(0,false,one ⟨hls k (rY l),t0,0⟩),(1,true,one ⟨[.slice (some ⟨0,k,none⟩) n 0,.int .i64 (q2)],82,2⟩),(2,true,one ⟨rSp X,28,2⟩),(3,true,one ⟨rSp N,28,2⟩)]⟩) ?_ ?_
  ·skip
   refine vc_seq ?_
   refine vc_region hm ?_
   refine gM trivial (.inl rfl) rfl rfl rfl ?_
   obtain ⟨E4,hE4,x4,x4a,x4b,rfl⟩:=pick_c (k:=k) (t0:=t0) (p:=p3) hl hn (by omega) (by omega) (m:=3) (by omega) (by omega)
   refine gCF (ups':=[(1,one ⟨[.slice (some ⟨0,k,none⟩) n 0,.int .i64 (p3 + 1)],82,2⟩)]) (as':=[]) (v':=.int .i64 x4) 4 [0,1] hE4 trivial rfl rfl rfl rfl ⟨rCode rfl rfl,rCells rfl ⟨rfl,rfl,.inr rfl⟩ rfl,trivial⟩ ⟨frOne rfl rfl,trivial⟩ trivial rfl rfl (ho1 ⟨_,rfl⟩) (hu1 rfl) rfl rfl ?_
   refine gI trivial rfl rfl rfl rfl rfl rfl ?_
   refine rg_nil nofun ?_
   refine cI rfl (fun c21=>?_) (fun c21=>?_)
   ·skip
    have p21:=eq_of_beq c21
    refine vc_region hm ?_
    refine gM trivial (.inl rfl) rfl rfl rfl ?_
    refine gM trivial (.inl rfl) rfl rfl rfl ?_
    obtain ⟨E6,hE6,s6,p6,s6a,s6b,s6c,q6a,q6b,rfl⟩:=span_c (k:=k) (t0:=t0) (p:=p3 + 1) hl hn (by omega) (by omega) 
    refine gCF (ups':=[(1,one ⟨[.slice (some ⟨0,k,none⟩) n 0,.int .i64 (p6)],82,2⟩)]) (as':=[]) (v':=vSp s6) 4 [0,1] hE6 trivial rfl rfl rfl rfl ⟨rCode rfl rfl,rCells rfl ⟨rfl,rfl,.inr rfl⟩ rfl,trivial⟩ ⟨frOne rfl rfl,trivial⟩ trivial rfl rfl (ho1 ⟨_,rfl⟩) (hu1 rfl) rfl rfl ?_
    refine gCn 5 [3,4] (spec_l1Cut_c (l:=(l1ofP (putP (ofP X) (ofP [s3]) true))) (s:=s6) l48 ⟨s6a,s6b,s6c⟩) trivial rfl rfl rfl rfl ⟨rFlat (rSp_flat _) rfl (.inl rfl) rfl,trivial⟩ ⟨rSp_flat _,trivial⟩ rfl rfl rfl rfl ?_
    refine gM trivial (.inr rfl) rfl rfl rfl ?_
    refine rg_nil nofun ?_
    exact jn_hereT ⟨(l1ofP (putP (ofP (l1ofP (putP (ofP X) (ofP [s3]) true))) (ofP [s6]) false)),p6,l48,(by omega),(by omega),rfl⟩ (re_nil (ms:=[0,1,2,4]) (C:=999) rfl ⟨⟨⟨rfl,rfl⟩,rfl⟩,⟨⟨rfl,rfl⟩,rfl⟩,⟨⟨rfl,rfl⟩,rfl⟩,⟨⟨rfl,rfl⟩,rfl⟩,trivial⟩ ⟨ktCode rfl rfl,ktRow rfl rfl rfl (BlkW.refl _) id rfl,ktFlat (rSp_flat _) rfl (.inr (.inl rfl)) id rfl,ktFlat (rSp_flat _) rfl (.inr (.inl rfl)) id rfl,trivial⟩ rfl rfl (rig_of rfl) rfl)
   ·skip
    have p21:=ne_of_beq_false c21
    refine vc_skip ?_
    exact jn_hereT ⟨(l1ofP (putP (ofP X) (ofP [s3]) true)),p3 + 1,l48,(by omega),(by omega),rfl⟩ (re_nil (ms:=[0,1,2,3]) (C:=999) rfl ⟨⟨⟨rfl,rfl⟩,rfl⟩,⟨⟨rfl,rfl⟩,rfl⟩,⟨⟨rfl,rfl⟩,rfl⟩,⟨⟨rfl,rfl⟩,rfl⟩,trivial⟩ ⟨ktCode rfl rfl,ktRow rfl rfl rfl (BlkW.refl _) id rfl,ktFlat (rSp_flat _) rfl (.inr (.inl rfl)) id rfl,ktFlat (rSp_flat _) rfl (.inr (.inl rfl)) id rfl,trivial⟩ rfl rfl (rig_of rfl) rfl)
  ·rintro S_ ⟨N,q2,hN,r1,r2,rfl⟩
   refine vc_seq ?_
   refine vc_region hm ?_
   refine gM trivial (.inl rfl) rfl rfl rfl ?_
   refine gC0 [3] (spec_SpansOk_c (l:=N) hN) trivial rfl rfl rfl rfl ⟨rFlat (rSp_flat N) rfl (.inl rfl) rfl,trivial⟩ rfl rfl rfl rfl rfl ?_
   refine rg_nil nofun ?_
   refine cI rfl (fun c27=>?_) (fun c27=>?_)
   ·skip
    refine vc_region hm ?_
    refine gM trivial (.inl rfl) rfl rfl rfl ?_
    refine gM trivial (.inr rfl) rfl rfl rfl ?_
    refine rg_nil nofun ?_
    refine vc_region hm ?_
    refine gM trivial (.inl rfl) rfl rfl rfl ?_
    refine gA trivial rfl rfl rfl rfl rfl rfl (by omega) ?_
    refine gM trivial (.inr rfl) rfl rfl rfl ?_
    refine rg_nil nofun ?_
    exact lp_nextT ⟨N,i - 1,q2,(spansOk_lim c27).1,(spansOk_lim c27).2,(by omega),(by omega),(by omega),(by omega),rfl,rfl⟩ (by omega) (re_nil (ms:=[0,1,3]) (C:=999) rfl ⟨⟨⟨rfl,rfl⟩,rfl⟩,⟨⟨rfl,rfl⟩,rfl⟩,⟨⟨rfl,rfl⟩,rfl⟩,trivial⟩ ⟨ktCode rfl rfl,ktRow rfl rfl rfl (BlkW.refl _) id rfl,ktFlat (rSp_flat _) rfl (.inr (.inl rfl)) id rfl,trivial⟩ rfl rfl (rig_of rfl) rfl)
   ·skip
    refine vc_skip ?_
    refine vc_region hm ?_
    refine gM trivial (.inl rfl) rfl rfl rfl ?_
    refine gA trivial rfl rfl rfl rfl rfl rfl (by omega) ?_
    refine gM trivial (.inr rfl) rfl rfl rfl ?_
    refine rg_nil nofun ?_
    exact lp_nextT ⟨X,i - 1,q2,hX,hY,(by omega),(by omega),(by omega),(by omega),rfl,rfl⟩ (by omega) (re_nil (ms:=[0,1,2]) (C:=999) rfl ⟨⟨⟨rfl,rfl⟩,rfl⟩,⟨⟨rfl,rfl⟩,rfl⟩,⟨⟨rfl,rfl⟩,rfl⟩,trivial⟩ ⟨ktCode rfl rfl,ktRow rfl rfl rfl (BlkW.refl _) id rfl,ktFlat (rSp_flat _) rfl (.inr (.inl rfl)) id rfl,trivial⟩ rfl rfl (rig_of rfl) rfl)
 ·skip
  have p12:=of_decide_eq_false c12
  refine vc_exit ?_
  refine vc_seq ?_
  refine vc_seq ?_
  refine vc_region hm ?_
  refine gM trivial (.inl rfl) rfl rfl rfl ?_
  obtain ⟨E8,hE8,x8,x8a,x8b,rfl⟩:=pick_c (k:=k) (t0:=t0) (p:=q) hl hn (by omega) (by omega) (m:=10) (by omega) (by omega)
  refine gCF (ups':=[(1,one ⟨[.slice (some ⟨0,k,none⟩) n 0,.int .i64 (q + 1)],82,2⟩)]) (as':=[]) (v':=.int .i64 x8) 3 [0,1] hE8 trivial rfl rfl rfl rfl ⟨rCode rfl rfl,rCells rfl ⟨rfl,rfl,.inr rfl⟩ rfl,trivial⟩ ⟨frOne rfl rfl,trivial⟩ trivial rfl rfl (ho1 ⟨_,rfl⟩) (hu1 rfl) rfl rfl ?_
  refine gI trivial rfl rfl rfl rfl rfl rfl ?_
  refine rg_nil nofun ?_
  refine cI rfl (fun c31=>?_) (fun c31=>?_)
  ·skip
   have p31:=eq_of_beq c31
   refine vc_seq ?_
   refine vc_region hm ?_
   refine gR (u':=4) (out:=rSp []) trivial rfl rfl rfl rfl rfl rfl rfl rfl rfl rfl rfl rfl rfl rfl ?_
   refine gM trivial (.inr rfl) rfl rfl rfl ?_
   refine rg_nil nofun ?_
   refine vc_seq ?_
   refine vc_region hm ?_
   refine gM trivial (.inr rfl) rfl rfl rfl ?_
   refine rg_nil nofun ?_
   refine vc_block ?_
   refine vc_loopT (fun n_ S_=>∃ (Y:List Sp) (j q3:Int),(Y.length:Int)=j∧0≤j∧j≤12∧(∀ s ∈ Y,0≤s.hi∧s.hi≤48)∧q≤q3∧q3≤q + 2 + j∧n_=(13 - j).toNat∧S_=⟨3,[(0,.pointer (some ⟨1,0,none⟩)),(3,.slice (some ⟨2,0,none⟩) Y.length 0),(6,.int .i64 j)],[(0,false,one ⟨hls k (rY l),t0,0⟩),(1,true,one ⟨[.slice (some ⟨0,k,none⟩) n 0,.int .i64 (q3)],82,2⟩),(2,true,one ⟨rSp Y,28,2⟩)]⟩) ⟨[],0,q + 1,rfl,(Int.le_refl _),(by omega),(fun _ h=>nomatch h),(by omega),(by omega),rfl,rfl⟩ (re_nil (ms:=[0,1,3]) (C:=999) rfl ⟨⟨⟨rfl,rfl⟩,rfl⟩,⟨⟨rfl,rfl⟩,rfl⟩,⟨⟨rfl,rfl⟩,rfl⟩,trivial⟩ ⟨ktCode rfl rfl,ktRow rfl rfl rfl (BlkW.refl _) id rfl,ktFlat (rSp_flat _) rfl (.inr (.inl rfl)) id rfl,trivial⟩ rfl rfl (rig_of rfl) rfl) ?_
   rintro n_ S_ ⟨Y,j,q3,hj,h0,h1,hZ,hq3,hr3,rfl,rfl⟩
   refine vc_seq ?_
   refine vc_seq ?_
   refine vc_region hm ?_
   refine gM trivial (.inl rfl) rfl rfl rfl ?_
   refine gM trivial (.inl rfl) rfl rfl rfl ?_
   obtain ⟨E10,hE10,x10,x10a,x10b,rfl⟩:=pick_c (k:=k) (t0:=t0) (p:=q3) hl hn (by omega) (by omega) (m:=2) (by omega) (by omega)
   refine gCF (ups':=[(1,one ⟨[.slice (some ⟨0,k,none⟩) n 0,.int .i64 (q3 + 1)],82,2⟩)]) (as':=[]) (v':=.int .i64 x10) 3 [0,1] hE10 trivial rfl rfl rfl rfl ⟨rCode rfl rfl,rCells rfl ⟨rfl,rfl,.inr rfl⟩ rfl,trivial⟩ ⟨frOne rfl rfl,trivial⟩ trivial rfl rfl (ho1 ⟨_,rfl⟩) (hu1 rfl) rfl rfl ?_
   refine gA trivial rfl rfl rfl rfl rfl rfl (by omega) ?_
   refine gI trivial rfl rfl rfl rfl rfl rfl ?_
   refine rg_nil nofun ?_
   refine cI rfl (fun c37=>?_) (fun c37=>?_)
   ·skip
    have p37:=of_decide_eq_true c37
    refine vc_skip ?_
    refine vc_seq ?_
    refine vc_block ?_
    refine vc_region hm ?_
    refine gM trivial (.inl rfl) rfl rfl rfl ?_
    refine gM trivial (.inl rfl) rfl rfl rfl ?_
    refine gA trivial rfl rfl rfl rfl rfl rfl (by omega) ?_
    refine gM trivial (.inl rfl) rfl rfl rfl ?_
    refine gA trivial rfl rfl rfl rfl rfl rfl (by omega) ?_
    refine gA trivial rfl rfl rfl rfl rfl rfl (by omega) ?_
    refine gU trivial rfl rfl rfl rfl rfl rfl rfl rfl ?_
    refine gR (u':=4) (out:=rSp [⟨3 * j,3 * j + 1⟩]) trivial rfl rfl rfl rfl rfl rfl rfl rfl rfl rfl rfl rfl rfl rfl ?_
    refine gAp (u':=5) trivial rfl rfl rfl rfl rfl rfl rfl rfl rfl rfl rfl rfl (by rw [rowL_len (n:=2) (fun _=>rfl)]) (Nat.le_refl _) rfl (show (Y.length + 1) * (16 + 1)≤140737488355328 by omega) (row_snoc (enc:=eSp) (x:=⟨3 * j,3 * j + 1⟩)) rfl ?_
    refine gM trivial (.inr rfl) rfl rfl rfl ?_
    refine rg_nil nofun ?_
    refine vc_region hm ?_
    refine gM trivial (.inl rfl) rfl rfl rfl ?_
    refine gA trivial rfl rfl rfl rfl rfl rfl (by omega) ?_
    refine gM trivial (.inr rfl) rfl rfl rfl ?_
    refine rg_nil nofun ?_
    exact lp_nextT ⟨Y ++ [⟨3 * j,3 * j + 1⟩],j + 1,q3 + 1,(by rw [List.length_append];show ((Y.length + 1:Nat):Int)=j + 1;omega),(by omega),(by omega),(lst_snoc hZ (by show 0≤3 * j + 1∧3 * j + 1≤48;omega)),(by omega),(by omega),rfl,rfl⟩ (by omega) (re_nil (ms:=[0,1,4]) (C:=999) rfl ⟨⟨⟨rfl,rfl⟩,rfl⟩,⟨⟨rfl,by rw [List.length_append];rfl⟩,rfl⟩,⟨⟨rfl,rfl⟩,rfl⟩,trivial⟩ ⟨ktCode rfl rfl,ktRow rfl rfl rfl (BlkW.refl _) id rfl,ktFlat (rSp_flat _) rfl (.inr (.inl rfl)) id rfl,trivial⟩ rfl rfl (rig_of rfl) rfl)
   ·skip
    have p37:=of_decide_eq_false c37
    refine vc_exit ?_
    refine vc_seq ?_
    refine vc_region hm ?_
    refine gM trivial (.inl rfl) rfl rfl rfl ?_
    refine gM trivial (.inr rfl) rfl rfl rfl ?_
    refine rg_nil nofun ?_
    refine vc_ret ?_
    exact ⟨mkF (.slice (some ⟨2,0,none⟩) Y.length 0) [0] [(1,one ⟨[.slice (some ⟨0,k,none⟩) n 0,.int .i64 (q3 + 1)],82,2⟩)] [(2,one ⟨rSp Y,28,2⟩)],_,endsT [(2,2,one ⟨rSp Y,28,2⟩)] (.inr rfl) (.tmp rfl rfl .nil) rfl rfl ⟨upOne rfl rfl rfl,trivial⟩ ⟨asFlat rfl (rSp_flat _),trivial⟩ rfl,Y,_,(by omega),hZ,(by omega),(by omega),rfl⟩
  ·skip
   have p31:=ne_of_beq_false c31
   refine vc_skip ?_
   refine vc_seq ?_
   refine vc_region hm ?_
   refine gM trivial (.inl rfl) rfl rfl rfl ?_
   refine gM trivial (.inr rfl) rfl rfl rfl ?_
   refine rg_nil nofun ?_
   refine vc_ret ?_
   exact ⟨mkF (.slice (some ⟨2,0,none⟩) X.length 0) [0] [(1,one ⟨[.slice (some ⟨0,k,none⟩) n 0,.int .i64 (q + 1)],82,2⟩)] [(2,one ⟨rSp X,28,2⟩)],_,endsT [(2,2,one ⟨rSp X,28,2⟩)] (.inr rfl) (.tmp rfl rfl .nil) rfl rfl ⟨upOne rfl rfl rfl,trivial⟩ ⟨asFlat rfl (rSp_flat _),trivial⟩ rfl,X,_,hX,hY,(by omega),(by omega),rfl⟩
theorem frFlat {m:Nat→Nat} {b c t e:Nat} {cs:List Value} (hf:cs.all flat1=true) (h:m b=c):m b=c∧rnF m (one ⟨cs,t,e⟩)=one ⟨cs,t,e⟩:=⟨h,rnF_flat hf⟩
theorem kSpA {xs:List Sp} {i:Int} (h0:0≤i) (h1:i<xs.length):0 + i.toNat * 2 + 2≤(rSp xs).length:=by
 rw [rowL_len (n:=2) (fun _=>rfl)]
 omega
theorem sSpA {xs:List Sp} {i:Int} {s:Sp} (h0:0≤i) (h1:i<xs.length):putL (rSp xs) (0 + i.toNat * 2) (cellsL (vSp s))=rSp (xs.set i.toNat s):=by
 rw [Nat.zero_add]
 exact rowL_set (enc:=eSp) (n:=2) (fun _=>rfl) xs i.toNat s (by omega)
theorem lists_c {l:List Int} {k n t0:Nat} {p:Int} (hl:ByL l) (hn:n≤l.length) (hp0:0≤p) (hp1:p≤995000):∃ E,FDoes Try.prog 75 [.pointer (some ⟨1,0,none⟩)] (hp [(0,false,one ⟨hls k (rY l),t0,0⟩),(1,true,one ⟨[.slice (some ⟨0,k,none⟩) n 0,.int .i64 (p)],82,2⟩)]) E∧∃ (L:List Sp) (p2:Int),L.length≤14∧p≤p2∧p2≤p + 90∧E=mkF (.slice (some ⟨2,0,none⟩) L.length 0) [0] [(1,one ⟨[.slice (some ⟨0,k,none⟩) n 0,.int .i64 (p2)],82,2⟩)] [(2,one ⟨rSp L,28,2⟩)]:=by
 have hm:Try.prog.follows .mixedOrders=true:=by kernel_rfl
 have hd_:∀ x_ ∈ ([(0,false,one ⟨hls k (rY l),t0,0⟩),(1,true,one ⟨[.slice (some ⟨0,k,none⟩) n 0,.int .i64 (p)],82,2⟩)]:List (Nat × Bool × Fam)),∀ k_ y_,x_.2.2 k_=some y_→DetB (lt 2) y_:=by
  intro x_ hx k_ y_ e
  simp only [List.mem_cons,List.not_mem_nil,or_false] at hx
  rcases hx with rfl|rfl
  ·exact det_code e
  ·exact det_ok rfl e
 refine fn_some (u0:=2) Try.func75 rfl rfl (gets rfl rfl rfl hd_ rfl) ?_
 clear hd_
 refine vc_seq ?_
 refine vc_region hm ?_
 refine gM trivial (.inr rfl) rfl rfl rfl ?_
 refine rg_nil nofun ?_
 refine vc_seq ?_
 refine vc_region hm ?_
 refine gM trivial (.inl rfl) rfl rfl rfl ?_
 obtain ⟨E1,hE1,L1,p1,l1a,l1b,q1a,q1b,rfl⟩:=list_c (k:=k) (t0:=t0) (p:=p) hl hn (by omega) (by omega) 
 refine gCF (ups':=[(1,one ⟨[.slice (some ⟨0,k,none⟩) n 0,.int .i64 (p1)],82,2⟩)]) (as':=[(2,one ⟨rSp L1,28,2⟩)]) (v':=.slice (some ⟨2,0,none⟩) L1.length 0) 3 [0,1,2] hE1 trivial rfl rfl rfl rfl ⟨rCode rfl rfl,rCells rfl ⟨rfl,rfl,.inr rfl⟩ rfl,trivial⟩ ⟨frOne rfl rfl,trivial⟩ ⟨frFlat (rSp_flat _) rfl,trivial⟩ rfl rfl (ho1 ⟨_,rfl⟩) (hu1 rfl) rfl rfl ?_
 refine gM trivial (.inr rfl) rfl rfl rfl ?_
 refine rg_nil nofun ?_
 refine vc_seq ?_
 refine vc_region hm ?_
 refine gM trivial (.inl rfl) rfl rfl rfl ?_
 refine gK trivial rfl rfl rfl rfl rfl rfl rSp_nil ?_
 refine gM trivial (.inr rfl) rfl rfl rfl ?_
 refine rg_nil nofun ?_
 refine vc_seq ?_
 refine vc_seq ?_
 refine vc_region hm ?_
 refine gM trivial (.inl rfl) rfl rfl rfl ?_
 refine gI trivial rfl rfl rfl rfl rfl rfl ?_
 refine gM trivial (.inl rfl) rfl rfl rfl ?_
 refine gI2 (d:=12) rfl (fun c12=>?_) (fun c12=>?_)
 ·skip
  have p12:=eq_of_beq c12
  refine gO ⟨_,_,rfl,rfl,c12⟩ rfl rfl ?_
  refine gO ⟨_,_,rfl,rfl,c12⟩ rfl rfl ?_
  refine gO ⟨_,_,rfl,rfl,c12⟩ rfl rfl ?_
  refine gPT trivial rfl rfl c12 rfl rfl rfl ?_
  refine rg_nil nofun ?_
  refine cT rfl rfl ?_
  refine vc_seq ?_
  refine vc_region hm ?_
  refine gM trivial (.inl rfl) rfl rfl rfl ?_
  refine gM trivial (.inr rfl) rfl rfl rfl ?_
  refine rg_nil nofun ?_
  refine vc_ret ?_
  exact ⟨mkF (.slice (some ⟨2,0,none⟩) (L1).length 0) [0] [(1,one ⟨[.slice (some ⟨0,k,none⟩) n 0,.int .i64 (p1)],82,2⟩)] [(2,one ⟨rSp (L1),28,2⟩)],_,endsT [(2,2,one ⟨rSp (L1),28,2⟩)] (.inr rfl) (.tmp rfl rfl .nil) rfl rfl ⟨upOne rfl rfl rfl,trivial⟩ ⟨asFlat rfl (rSp_flat _),trivial⟩ rfl,L1,_,(by omega),(by omega),(by omega),rfl⟩
 ·skip
  have p12:=ne_of_beq_false c12
  refine gM ⟨_,_,rfl,rfl,c12⟩ (.inl rfl) rfl rfl rfl ?_
  obtain ⟨E3,hE3,x3,x3a,x3b,rfl⟩:=pick_c (k:=k) (t0:=t0) (p:=p1) hl hn (by omega) (by omega) (m:=8) (by omega) (by omega)
  refine gCF (ups':=[(1,one ⟨[.slice (some ⟨0,k,none⟩) n 0,.int .i64 (p1 + 1)],82,2⟩)]) (as':=[]) (v':=.int .i64 x3) 3 [0,1] hE3 ⟨_,_,rfl,rfl,c12⟩ rfl rfl rfl rfl ⟨rCode rfl rfl,rCells rfl ⟨rfl,rfl,.inr rfl⟩ rfl,trivial⟩ ⟨frOne rfl rfl,trivial⟩ trivial rfl rfl (ho1 ⟨_,rfl⟩) (hu1 rfl) rfl rfl ?_
  refine gI ⟨_,_,rfl,rfl,c12⟩ rfl rfl rfl rfl rfl rfl ?_
  refine gPF trivial rfl rfl c12 rfl rfl rfl ?_
  refine rg_nil nofun ?_
  refine cI rfl (fun c16=>?_) (fun c16=>?_)
  ·skip
   have p16:=of_decide_eq_true c16
   refine vc_seq ?_
   refine vc_region hm ?_
   refine gM trivial (.inl rfl) rfl rfl rfl ?_
   refine gM trivial (.inr rfl) rfl rfl rfl ?_
   refine rg_nil nofun ?_
   refine vc_ret ?_
   exact ⟨mkF (.slice (some ⟨2,0,none⟩) (L1).length 0) [0] [(1,one ⟨[.slice (some ⟨0,k,none⟩) n 0,.int .i64 (p1 + 1)],82,2⟩)] [(2,one ⟨rSp (L1),28,2⟩)],_,endsT [(2,2,one ⟨rSp (L1),28,2⟩)] (.inr rfl) (.tmp rfl rfl .nil) rfl rfl ⟨upOne rfl rfl rfl,trivial⟩ ⟨asFlat rfl (rSp_flat _),trivial⟩ rfl,L1,_,(by omega),(by omega),(by omega),rfl⟩
  ·skip
   have p16:=of_decide_eq_false c16
   refine vc_skip ?_
   refine vc_seq ?_
   refine vc_region hm ?_
   refine gM trivial (.inl rfl) rfl rfl rfl ?_
   refine gM trivial (.inl rfl) rfl rfl rfl ?_
   obtain ⟨E5,hE5,x5,x5a,x5b,rfl⟩:=pick_c (k:=k) (t0:=t0) (p:=p1 + 1) hl hn (by omega) (by omega) (m:=L1.length) (by omega) (by omega)
   refine gCF (ups':=[(1,one ⟨[.slice (some ⟨0,k,none⟩) n 0,.int .i64 (p1 + 1 + 1)],82,2⟩)]) (as':=[]) (v':=.int .i64 x5) 3 [0,1] hE5 trivial rfl rfl rfl rfl ⟨rCode rfl rfl,rCells rfl ⟨rfl,rfl,.inr rfl⟩ rfl,trivial⟩ ⟨frOne rfl rfl,trivial⟩ trivial rfl rfl (ho1 ⟨_,rfl⟩) (hu1 rfl) rfl rfl ?_
   refine gM trivial (.inr rfl) rfl rfl rfl ?_
   refine rg_nil nofun ?_
   refine vc_seq ?_
   refine vc_seq ?_
   refine vc_region hm ?_
   refine gM trivial (.inl rfl) rfl rfl rfl ?_
   obtain ⟨E6,hE6,x6,x6a,x6b,rfl⟩:=pick_c (k:=k) (t0:=t0) (p:=p1 + 1 + 1) hl hn (by omega) (by omega) (m:=4) (by omega) (by omega)
   refine gCF (ups':=[(1,one ⟨[.slice (some ⟨0,k,none⟩) n 0,.int .i64 (p1 + 1 + 1 + 1)],82,2⟩)]) (as':=[]) (v':=.int .i64 x6) 3 [0,1] hE6 trivial rfl rfl rfl rfl ⟨rCode rfl rfl,rCells rfl ⟨rfl,rfl,.inr rfl⟩ rfl,trivial⟩ ⟨frOne rfl rfl,trivial⟩ trivial rfl rfl (ho1 ⟨_,rfl⟩) (hu1 rfl) rfl rfl ?_
   refine rg_nil nofun ?_
   refine vc_block ?_
   refine vc_seq ?_
   refine vc_region hm ?_
   refine gI trivial rfl rfl rfl rfl rfl rfl ?_
   refine gM trivial (.inr rfl) rfl rfl rfl ?_
   refine rg_nil nofun ?_
   refine cI rfl (fun c34=>?_) (fun c34=>?_)
   ·skip
    have p34:=eq_of_beq c34
    refine vc_region hm ?_
    refine gM trivial (.inl rfl) rfl rfl rfl ?_
    refine gM trivial (.inl rfl) rfl rfl rfl ?_
    refine gM trivial (.inl rfl) rfl rfl rfl ?_
    obtain ⟨E8,hE8,s8,p8,q8a,q8b,rfl⟩:=some_c (k:=k) (t0:=t0) (p:=p1 + 1 + 1 + 1) hl hn (by omega) (by omega) 
    refine gCF (ups':=[(1,one ⟨[.slice (some ⟨0,k,none⟩) n 0,.int .i64 (p8)],82,2⟩)]) (as':=[]) (v':=vSp s8) 3 [0,1] hE8 trivial rfl rfl rfl rfl ⟨rCode rfl rfl,rCells rfl ⟨rfl,rfl,.inr rfl⟩ rfl,trivial⟩ ⟨frOne rfl rfl,trivial⟩ trivial rfl rfl (ho1 ⟨_,rfl⟩) (hu1 rfl) rfl rfl ?_
    refine gX trivial rfl rfl rfl rfl rfl rfl rfl rfl (by omega) (by omega) rSp_ne ?_
    refine gT trivial rfl rfl rfl rfl rfl rfl rfl rfl rfl rfl (kSpA (by omega) (by omega)) (sSpA (by omega) (by omega)) ?_
    refine rg_nil nofun ?_
    refine vc_seq ?_
    refine vc_region hm ?_
    refine gM trivial (.inl rfl) rfl rfl rfl ?_
    refine gM trivial (.inr rfl) rfl rfl rfl ?_
    refine rg_nil nofun ?_
    refine vc_ret ?_
    exact ⟨mkF (.slice (some ⟨2,0,none⟩) (L1.set x5.toNat s8).length 0) [0] [(1,one ⟨[.slice (some ⟨0,k,none⟩) n 0,.int .i64 (p8)],82,2⟩)] [(2,one ⟨rSp (L1.set x5.toNat s8),28,2⟩)],_,endsT [(2,2,one ⟨rSp (L1.set x5.toNat s8),28,2⟩)] (.inr rfl) (.tmp rfl rfl .nil) (by rw [List.length_set];rfl) rfl ⟨upOne rfl rfl rfl,trivial⟩ ⟨asFlat rfl (rSp_flat _),trivial⟩ rfl,L1.set x5.toNat s8,_,(by rw [List.length_set];omega),(by omega),(by omega),rfl⟩
   ·skip
    have p34:=ne_of_beq_false c34
    refine vc_seq ?_
    refine vc_region hm ?_
    refine gI trivial rfl rfl rfl rfl rfl rfl ?_
    refine gM trivial (.inr rfl) rfl rfl rfl ?_
    refine rg_nil nofun ?_
    refine cI rfl (fun c41=>?_) (fun c41=>?_)
    ·skip
     have p41:=eq_of_beq c41
     refine vc_region hm ?_
     refine gM trivial (.inl rfl) rfl rfl rfl ?_
     refine gM trivial (.inl rfl) rfl rfl rfl ?_
     refine gM trivial (.inl rfl) rfl rfl rfl ?_
     refine gX trivial rfl rfl rfl rfl rfl rfl rfl rfl (by omega) (by omega) rSp_ne ?_
     refine gL trivial rfl rfl rfl rfl rfl rfl rfl (aSp (by omega) (by omega)) ?_
     refine gR (u':=4) (out:=rSp [at_ L1 x5]) trivial rfl rfl rfl rfl rfl rfl rfl rfl rfl rfl rfl rfl rfl rfl ?_
     refine gAp (u':=5) trivial rfl rfl rfl rfl rfl rfl rfl rfl rfl rfl rfl rfl (by rw [rowL_len (n:=2) (fun _=>rfl)]) (Nat.le_refl _) rfl (show (L1.length + 1) * (16 + 1)≤140737488355328 by omega) (row_snoc (enc:=eSp) (x:=at_ L1 x5)) rfl ?_
     refine gM trivial (.inr rfl) rfl rfl rfl ?_
     refine rg_nil nofun ?_
     refine vc_seq ?_
     refine vc_region hm ?_
     refine gM trivial (.inl rfl) rfl rfl rfl ?_
     refine gM trivial (.inr rfl) rfl rfl rfl ?_
     refine rg_nil nofun ?_
     refine vc_ret ?_
     exact ⟨mkF (.slice (some ⟨2,0,none⟩) (L1 ++ [at_ L1 x5]).length 0) [0] [(1,one ⟨[.slice (some ⟨0,k,none⟩) n 0,.int .i64 (p1 + 1 + 1 + 1)],82,2⟩)] [(2,one ⟨rSp (L1 ++ [at_ L1 x5]),28,2⟩)],_,endsT [(2,4,one ⟨rSp (L1 ++ [at_ L1 x5]),28,2⟩)] (.inr rfl) (.tmp rfl rfl .nil) (by rw [List.length_append];rfl) rfl ⟨upOne rfl rfl rfl,trivial⟩ ⟨asFlat rfl (rSp_flat _),trivial⟩ rfl,L1 ++ [at_ L1 x5],_,(by rw [List.length_append];show L1.length + 1≤14;omega),(by omega),(by omega),rfl⟩
    ·skip
     have p41:=ne_of_beq_false c41
     refine vc_seq ?_
     refine vc_region hm ?_
     refine gI trivial rfl rfl rfl rfl rfl rfl ?_
     refine gM trivial (.inr rfl) rfl rfl rfl ?_
     refine rg_nil nofun ?_
     refine cI rfl (fun c50=>?_) (fun c50=>?_)
     ·skip
      have p50:=eq_of_beq c50
      refine vc_region hm ?_
      refine gM trivial (.inl rfl) rfl rfl rfl ?_
      refine gM trivial (.inl rfl) rfl rfl rfl ?_
      refine gM trivial (.inl rfl) rfl rfl rfl ?_
      refine gM trivial (.inl rfl) rfl rfl rfl ?_
      refine gX trivial rfl rfl rfl rfl rfl rfl rfl rfl (by omega) (by omega) rSp_ne ?_
      refine gF trivial rfl rfl rfl rfl rfl ?_
      refine gL trivial rfl rfl rfl rfl rfl rfl rfl (lSp1 (by omega) (by omega)) ?_
      refine gA trivial rfl rfl rfl rfl rfl rfl (by have:=l1b _ (at_mem (l:=L1) (i:=x5) (by omega) (by omega));omega) ?_
      refine gX trivial rfl rfl rfl rfl rfl rfl rfl rfl (by omega) (by omega) rSp_ne ?_
      refine gF trivial rfl rfl rfl rfl rfl ?_
      refine gT trivial rfl rfl rfl rfl rfl rfl rfl rfl rfl rfl (kSp1 (by omega) (by omega)) (sSp1 (by omega) (by omega)) ?_
      refine rg_nil nofun ?_
      refine vc_seq ?_
      refine vc_region hm ?_
      refine gM trivial (.inl rfl) rfl rfl rfl ?_
      refine gM trivial (.inr rfl) rfl rfl rfl ?_
      refine rg_nil nofun ?_
      refine vc_ret ?_
      exact ⟨mkF (.slice (some ⟨2,0,none⟩) (L1.set x5.toNat ⟨(at_ L1 x5).lo,(at_ L1 x5).hi + 1⟩).length 0) [0] [(1,one ⟨[.slice (some ⟨0,k,none⟩) n 0,.int .i64 (p1 + 1 + 1 + 1)],82,2⟩)] [(2,one ⟨rSp (L1.set x5.toNat ⟨(at_ L1 x5).lo,(at_ L1 x5).hi + 1⟩),28,2⟩)],_,endsT [(2,2,one ⟨rSp (L1.set x5.toNat ⟨(at_ L1 x5).lo,(at_ L1 x5).hi + 1⟩),28,2⟩)] (.inr rfl) (.tmp rfl rfl .nil) (by rw [List.length_set];rfl) rfl ⟨upOne rfl rfl rfl,trivial⟩ ⟨asFlat rfl (rSp_flat _),trivial⟩ rfl,L1.set x5.toNat ⟨(at_ L1 x5).lo,(at_ L1 x5).hi + 1⟩,_,(by rw [List.length_set];omega),(by omega),(by omega),rfl⟩
     ·skip
      have p50:=ne_of_beq_false c50
      refine vc_block ?_
      refine vc_loopT (fun n_ S_=>∃ (M:List Sp),L1.length≤M.length∧M.length≤13∧n_=13 - M.length∧S_=⟨3,[(0,.pointer (some ⟨1,0,none⟩)),(3,.slice (some ⟨2,0,none⟩) M.length 0),(4,.int .i64 L1.length)],[(0,false,one ⟨hls k (rY l),t0,0⟩),(1,true,one ⟨[.slice (some ⟨0,k,none⟩) n 0,.int .i64 (p1 + 1 + 1 + 1)],82,2⟩),(2,true,one ⟨rSp M,28,2⟩)]⟩) ⟨L1,(Nat.le_refl _),(by omega),rfl,rfl⟩ (re_nil (ms:=[0,1,2]) (C:=999) rfl ⟨⟨⟨rfl,rfl⟩,rfl⟩,⟨⟨rfl,rfl⟩,rfl⟩,⟨⟨rfl,rfl⟩,rfl⟩,trivial⟩ ⟨ktCode rfl rfl,ktRow rfl rfl rfl (BlkW.refl _) id rfl,ktFlat (rSp_flat _) rfl (.inr (.inl rfl)) id rfl,trivial⟩ rfl rfl (rig_of rfl) rfl) ?_
      rintro n_ S_ ⟨M,hM,hN,rfl,rfl⟩
      refine vc_seq ?_
      refine vc_seq ?_
      refine vc_region hm ?_
      refine gM trivial (.inl rfl) rfl rfl rfl ?_
      refine gK trivial rfl rfl rfl rfl rfl rfl rSp_nil ?_
      refine gI trivial rfl rfl rfl rfl rfl rfl ?_
      refine rg_nil nofun ?_
      refine cI rfl (fun c25=>?_) (fun c25=>?_)
      ·skip
       have p25:=of_decide_eq_true c25
       refine vc_skip ?_
       refine vc_block ?_
       refine vc_region hm ?_
       refine gM trivial (.inl rfl) rfl rfl rfl ?_
       refine gM trivial (.inl rfl) rfl rfl rfl ?_
       refine gM trivial (.inl rfl) rfl rfl rfl ?_
       refine gA trivial rfl rfl rfl rfl rfl rfl (by omega) ?_
       refine gX trivial rfl rfl rfl rfl rfl rfl rfl rfl (by omega) (by omega) rSp_ne ?_
       refine gL trivial rfl rfl rfl rfl rfl rfl rfl (aSp (by omega) (by omega)) ?_
       refine gR (u':=4) (out:=rSp [at_ M ((L1.length:Int) - 1)]) trivial rfl rfl rfl rfl rfl rfl rfl rfl rfl rfl rfl rfl rfl rfl ?_
       refine gAp (u':=5) trivial rfl rfl rfl rfl rfl rfl rfl rfl rfl rfl rfl rfl (by rw [rowL_len (n:=2) (fun _=>rfl)]) (Nat.le_refl _) rfl (show (M.length + 1) * (16 + 1)≤140737488355328 by omega) (row_snoc (enc:=eSp) (x:=at_ M ((L1.length:Int) - 1))) rfl ?_
       refine gM trivial (.inr rfl) rfl rfl rfl ?_
       refine rg_nil nofun ?_
       exact lp_nextT ⟨M ++ [at_ M ((L1.length:Int) - 1)],(by rw [List.length_append];omega),(by rw [List.length_append];show M.length + 1≤13;omega),rfl,rfl⟩ (by rw [List.length_append];show 13 - (M.length + 1)<_;omega) (re_nil (ms:=[0,1,4]) (C:=999) rfl ⟨⟨⟨rfl,rfl⟩,rfl⟩,⟨⟨rfl,by rw [List.length_append];rfl⟩,rfl⟩,⟨⟨rfl,rfl⟩,rfl⟩,trivial⟩ ⟨ktCode rfl rfl,ktRow rfl rfl rfl (BlkW.refl _) id rfl,ktFlat (rSp_flat _) rfl (.inr (.inl rfl)) id rfl,trivial⟩ rfl rfl (rig_of rfl) rfl)
      ·skip
       have p25:=of_decide_eq_false c25
       refine vc_exit ?_
       refine vc_seq ?_
       refine vc_region hm ?_
       refine gM trivial (.inl rfl) rfl rfl rfl ?_
       refine gM trivial (.inr rfl) rfl rfl rfl ?_
       refine rg_nil nofun ?_
       refine vc_ret ?_
       exact ⟨mkF (.slice (some ⟨2,0,none⟩) (M).length 0) [0] [(1,one ⟨[.slice (some ⟨0,k,none⟩) n 0,.int .i64 (p1 + 1 + 1 + 1)],82,2⟩)] [(2,one ⟨rSp (M),28,2⟩)],_,endsT [(2,2,one ⟨rSp (M),28,2⟩)] (.inr rfl) (.tmp rfl rfl .nil) rfl rfl ⟨upOne rfl rfl rfl,trivial⟩ ⟨asFlat rfl (rSp_flat _),trivial⟩ rfl,M,_,(by omega),(by omega),(by omega),rfl⟩
theorem cp_app (a b:List Sp):rSp a ++ ((rSp b).drop 0).take (b.length * 2)=rSp (a ++ b):=by rw [row_all (n:=2) (fun _=>rfl)];exact (rowL_app eSp a b).symm
theorem rApp_nil {a b:List Sp} (h:rSp (a ++ b) = []):a.length + b.length=0:=by
 have:=rSp_nil h
 rwa [List.length_append] at this
theorem rApp_ne {a b:List Sp} (h:0<a.length + b.length):rSp (a ++ b) ≠ []:=rSp_ne (by rw [List.length_append];exact h)
theorem part_c {l:List Int} {k n t0:Nat} {p:Int} (hl:ByL l) (hn:n≤l.length) (hp0:0≤p) (hp1:p≤990000) {who:Int} {T:List Ho} {kk cc:Nat} (hT:T.length≤1000) (hB:∀ h ∈ T,h.r.length≤1000∧h.w.length≤1000):∃ E,FDoes Try.prog 80 [.pointer (some ⟨1,0,none⟩),.slice (some ⟨2,kk,none⟩) T.length cc,.int .i64 who] (hp [(0,false,one ⟨hls k (rY l),t0,0⟩),(1,true,one ⟨[.slice (some ⟨0,k,none⟩) n 0,.int .i64 (p)],82,2⟩),(2,false,one ⟨hls kk (rHv (tabV 3 zo T)),46,0⟩),(3,false,inF zo 28 0 T)]) E∧∃ (s:Sp) (p2:Int),p≤p2∧p2≤p + 5∧E=mkF (vSp s) [0,2,3] [(1,one ⟨[.slice (some ⟨0,k,none⟩) n 0,.int .i64 (p2)],82,2⟩)] []:=by
 have hm:Try.prog.follows .mixedOrders=true:=by kernel_rfl
 have hd_:∀ x_ ∈ ([(0,false,one ⟨hls k (rY l),t0,0⟩),(1,true,one ⟨[.slice (some ⟨0,k,none⟩) n 0,.int .i64 (p)],82,2⟩),(2,false,one ⟨hls kk (rHv (tabV 3 zo T)),46,0⟩),(3,false,inF zo 28 0 T)]:List (Nat × Bool × Fam)),∀ k_ y_,x_.2.2 k_=some y_→DetB (lt 4) y_:=by
  intro x_ hx k_ y_ e
  simp only [List.mem_cons,List.not_mem_nil,or_false] at hx
  rcases hx with rfl|rfl|rfl|rfl
  ·exact det_code e
  ·exact det_ok rfl e
  ·exact det_tab (k0:=kk) rfl e
  ·exact det_in e
 refine fn_some (u0:=4) Try.func80 rfl rfl (gets rfl rfl rfl hd_ rfl) ?_
 clear hd_
 refine vc_seq ?_
 refine vc_region hm ?_
 refine gZ (u':=5) trivial rfl rfl rfl rfl rfl rfl rfl rfl ?_
 refine rg_nil nofun ?_
 refine vc_seq ?_
 refine vc_seq ?_
 refine vc_region hm ?_
 refine gM trivial (.inl rfl) rfl rfl rfl ?_
 refine gI trivial rfl rfl rfl rfl rfl rfl ?_
 refine gM trivial (.inl rfl) rfl rfl rfl ?_
 refine gI2 (d:=10) rfl (fun c10=>?_) (fun c10=>?_)
 ·skip
  have p10:=of_decide_eq_true c10
  refine gM ⟨_,_,rfl,rfl,c10⟩ (.inl rfl) rfl rfl rfl ?_
  refine gM ⟨_,_,rfl,rfl,c10⟩ (.inl rfl) rfl rfl rfl ?_
  refine gK ⟨_,_,rfl,rfl,c10⟩ rfl rfl rfl rfl rfl rfl (hls_nil tabV_nil) ?_
  refine gI ⟨_,_,rfl,rfl,c10⟩ rfl rfl rfl rfl rfl rfl ?_
  refine gPT trivial rfl rfl c10 rfl rfl rfl ?_
  refine gM trivial (.inl rfl) rfl rfl rfl ?_
  refine gI2 (d:=16) rfl (fun c16=>?_) (fun c16=>?_)
  ·skip
   have p16:=of_decide_eq_true c16
   refine gM ⟨_,_,rfl,rfl,c16⟩ (.inl rfl) rfl rfl rfl ?_
   obtain ⟨E3,hE3,x3,x3a,x3b,rfl⟩:=pick_c (k:=k) (t0:=t0) (p:=p) hl hn (by omega) (by omega) (m:=2) (by omega) (by omega)
   refine gCF (ups':=[(1,one ⟨[.slice (some ⟨0,k,none⟩) n 0,.int .i64 (p + 1)],82,2⟩)]) (as':=[]) (v':=.int .i64 x3) 5 [0,1] hE3 ⟨_,_,rfl,rfl,c16⟩ rfl rfl rfl rfl ⟨rCode rfl rfl,rCells rfl ⟨rfl,rfl,.inr rfl⟩ rfl,trivial⟩ ⟨frOne rfl rfl,trivial⟩ trivial rfl rfl (ho1 ⟨_,rfl⟩) (hu1 rfl) rfl rfl ?_
   refine gI ⟨_,_,rfl,rfl,c16⟩ rfl rfl rfl rfl rfl rfl ?_
   refine gPT trivial rfl rfl c16 rfl rfl rfl ?_
   refine rg_nil nofun ?_
   refine cI rfl (fun c20=>?_) (fun c20=>?_)
   ·skip
    have p20:=eq_of_beq c20
    refine vc_seq ?_
    refine vc_region hm ?_
    refine gR (u':=6) (out:=rSp []) trivial rfl rfl rfl rfl rfl rfl rfl rfl rfl rfl rfl rfl rfl rfl ?_
    refine gM trivial (.inl rfl) rfl rfl rfl ?_
    refine gM trivial (.inl rfl) rfl rfl rfl ?_
    refine gX trivial rfl rfl rfl rfl rfl rfl rfl rfl (by omega) (by omega) (fun h=>hls_ne (tabV_ne h)) ?_
    refine gF trivial rfl rfl rfl rfl rfl ?_
    refine gL trivial rfl rfl rfl rfl rfl rfl rfl (lH0k (by omega) (by omega)) ?_
    refine gApi (u':=7) trivial rfl rfl rfl rfl rfl rfl rfl rfl rfl rfl rfl rfl (inF_0 (by omega) (by omega)) rfl (cp_len _) (cp_leaf _) (show (0 + (at_ T who).r.length) * (16 + 1)≤140737488355328 by have:=hB _ (at_mem (l:=T) (i:=who) (by omega) (by omega));omega) (cp_eq _) (Nat.zero_add _) ?_
    refine gM trivial (.inl rfl) rfl rfl rfl ?_
    refine gM trivial (.inl rfl) rfl rfl rfl ?_
    refine gX trivial rfl rfl rfl rfl rfl rfl rfl rfl (by omega) (by omega) (fun h=>hls_ne (tabV_ne h)) ?_
    refine gF trivial rfl rfl rfl rfl rfl ?_
    refine gL trivial rfl rfl rfl rfl rfl rfl rfl (lH1k (by omega) (by omega)) ?_
    refine gApi (u':=8) trivial rfl rfl rfl rfl rfl rfl rfl rfl rfl rfl rfl rfl (inF_1 (by omega) (by omega)) (by rw [rowL_len (n:=2) (fun _=>rfl)];rfl) (cp_len _) (cp_leaf _) (show ((at_ T who).r.length + (at_ T who).w.length) * (16 + 1)≤140737488355328 by have:=hB _ (at_mem (l:=T) (i:=who) (by omega) (by omega));omega) (cp_app _ _) rfl ?_
    refine gM trivial (.inr rfl) rfl rfl rfl ?_
    refine rg_nil (fun _=>by kernel_rfl) ?_
    refine vc_seq ?_
    refine vc_region hm ?_
    refine gM trivial (.inl rfl) rfl rfl rfl ?_
    refine gK trivial rfl rfl rfl rfl rfl rfl (rApp_nil (a:=(at_ T who).r) (b:=(at_ T who).w)) ?_
    refine gI trivial rfl rfl rfl rfl rfl rfl ?_
    refine rg_nil nofun ?_
    refine cI rfl (fun c36=>?_) (fun c36=>?_)
    ·skip
     have p36:=of_decide_eq_true c36
     refine vc_seq ?_
     refine vc_region hm ?_
     refine gM trivial (.inl rfl) rfl rfl rfl ?_
     refine gM trivial (.inl rfl) rfl rfl rfl ?_
     refine gM trivial (.inl rfl) rfl rfl rfl ?_
     refine gK trivial rfl rfl rfl rfl rfl rfl (rApp_nil (a:=(at_ T who).r) (b:=(at_ T who).w)) ?_
     obtain ⟨E6,hE6,x6,x6a,x6b,rfl⟩:=pick_c (k:=k) (t0:=t0) (p:=p + 1) hl hn (by omega) (by omega) (m:=(((at_ T who).r.length + (at_ T who).w.length:Nat):Int)) (by omega) (by have:=hB _ (at_mem (l:=T) (i:=who) (by omega) (by omega));omega)
     refine gCF (ups':=[(1,one ⟨[.slice (some ⟨0,k,none⟩) n 0,.int .i64 (p + 1 + 1)],82,2⟩)]) (as':=[]) (v':=.int .i64 x6) 8 [0,1] hE6 trivial rfl rfl rfl rfl ⟨rCode rfl rfl,rCells rfl ⟨rfl,rfl,.inr rfl⟩ rfl,trivial⟩ ⟨frOne rfl rfl,trivial⟩ trivial rfl rfl (ho1 ⟨_,rfl⟩) (hu1 rfl) rfl rfl ?_
     refine gX trivial rfl rfl rfl rfl rfl rfl rfl rfl (by omega) (by omega) (rApp_ne (a:=(at_ T who).r) (b:=(at_ T who).w)) ?_
     refine gL trivial rfl rfl rfl rfl rfl rfl rfl (aSp (xs:=((at_ T who).r ++ (at_ T who).w)) (by omega) (by rw [List.length_append];omega)) ?_
     refine gT trivial rfl rfl rfl rfl rfl rfl rfl rfl rfl rfl (Nat.le_of_ble_eq_true rfl) rfl ?_
     refine rg_nil nofun ?_
     refine vc_ret ?_
     exact ⟨mkF (vSp (at_ ((at_ T who).r ++ (at_ T who).w) x6)) [0,2,3] [(1,one ⟨[.slice (some ⟨0,k,none⟩) n 0,.int .i64 (p + 1 + 1)],82,2⟩)] [],_,endsT [] (.inr rfl) (.cell rfl rfl rfl rfl rfl .nil) rfl rfl ⟨upOne rfl rfl rfl,trivial⟩ trivial rfl,(at_ ((at_ T who).r ++ (at_ T who).w) x6),_,(by omega),(by omega),rfl⟩
    ·skip
     have p36:=of_decide_eq_false c36
     refine vc_skip ?_
     refine vc_seq ?_
     refine vc_region hm ?_
     refine gM trivial (.inl rfl) rfl rfl rfl ?_
     obtain ⟨E7,hE7,s7,p7,q7a,q7b,rfl⟩:=some_c (k:=k) (t0:=t0) (p:=p + 1) hl hn (by omega) (by omega) 
     refine gCF (ups':=[(1,one ⟨[.slice (some ⟨0,k,none⟩) n 0,.int .i64 (p7)],82,2⟩)]) (as':=[]) (v':=vSp s7) 8 [0,1] hE7 trivial rfl rfl rfl rfl ⟨rCode rfl rfl,rCells rfl ⟨rfl,rfl,.inr rfl⟩ rfl,trivial⟩ ⟨frOne rfl rfl,trivial⟩ trivial rfl rfl (ho1 ⟨_,rfl⟩) (hu1 rfl) rfl rfl ?_
     refine gT trivial rfl rfl rfl rfl rfl rfl rfl rfl rfl rfl (Nat.le_of_ble_eq_true rfl) rfl ?_
     refine rg_nil nofun ?_
     refine vc_ret ?_
     exact ⟨mkF (vSp s7) [0,2,3] [(1,one ⟨[.slice (some ⟨0,k,none⟩) n 0,.int .i64 (p7)],82,2⟩)] [],_,endsT [] (.inr rfl) (.cell rfl rfl rfl rfl rfl .nil) rfl rfl ⟨upOne rfl rfl rfl,trivial⟩ trivial rfl,s7,_,(by omega),(by omega),rfl⟩
   ·skip
    have p20:=ne_of_beq_false c20
    refine vc_skip ?_
    refine vc_seq ?_
    refine vc_region hm ?_
    refine gM trivial (.inl rfl) rfl rfl rfl ?_
    obtain ⟨E8,hE8,s8,p8,q8a,q8b,rfl⟩:=some_c (k:=k) (t0:=t0) (p:=p + 1) hl hn (by omega) (by omega) 
    refine gCF (ups':=[(1,one ⟨[.slice (some ⟨0,k,none⟩) n 0,.int .i64 (p8)],82,2⟩)]) (as':=[]) (v':=vSp s8) 5 [0,1] hE8 trivial rfl rfl rfl rfl ⟨rCode rfl rfl,rCells rfl ⟨rfl,rfl,.inr rfl⟩ rfl,trivial⟩ ⟨frOne rfl rfl,trivial⟩ trivial rfl rfl (ho1 ⟨_,rfl⟩) (hu1 rfl) rfl rfl ?_
    refine gT trivial rfl rfl rfl rfl rfl rfl rfl rfl rfl rfl (Nat.le_of_ble_eq_true rfl) rfl ?_
    refine rg_nil nofun ?_
    refine vc_ret ?_
    exact ⟨mkF (vSp s8) [0,2,3] [(1,one ⟨[.slice (some ⟨0,k,none⟩) n 0,.int .i64 (p8)],82,2⟩)] [],_,endsT [] (.inr rfl) (.cell rfl rfl rfl rfl rfl .nil) rfl rfl ⟨upOne rfl rfl rfl,trivial⟩ trivial rfl,s8,_,(by omega),(by omega),rfl⟩
  ·skip
   have p16:=of_decide_eq_false c16
   refine gO ⟨_,_,rfl,rfl,c16⟩ rfl rfl ?_
   refine gO ⟨_,_,rfl,rfl,c16⟩ rfl rfl ?_
   refine gO ⟨_,_,rfl,rfl,c16⟩ rfl rfl ?_
   refine gPF trivial rfl rfl c16 rfl rfl rfl ?_
   refine rg_nil nofun ?_
   refine cF rfl rfl ?_
   refine vc_skip ?_
   refine vc_seq ?_
   refine vc_region hm ?_
   refine gM trivial (.inl rfl) rfl rfl rfl ?_
   obtain ⟨E9,hE9,s9,p9,q9a,q9b,rfl⟩:=some_c (k:=k) (t0:=t0) (p:=p) hl hn (by omega) (by omega) 
   refine gCF (ups':=[(1,one ⟨[.slice (some ⟨0,k,none⟩) n 0,.int .i64 (p9)],82,2⟩)]) (as':=[]) (v':=vSp s9) 5 [0,1] hE9 trivial rfl rfl rfl rfl ⟨rCode rfl rfl,rCells rfl ⟨rfl,rfl,.inr rfl⟩ rfl,trivial⟩ ⟨frOne rfl rfl,trivial⟩ trivial rfl rfl (ho1 ⟨_,rfl⟩) (hu1 rfl) rfl rfl ?_
   refine gT trivial rfl rfl rfl rfl rfl rfl rfl rfl rfl rfl (Nat.le_of_ble_eq_true rfl) rfl ?_
   refine rg_nil nofun ?_
   refine vc_ret ?_
   exact ⟨mkF (vSp s9) [0,2,3] [(1,one ⟨[.slice (some ⟨0,k,none⟩) n 0,.int .i64 (p9)],82,2⟩)] [],_,endsT [] (.inr rfl) (.cell rfl rfl rfl rfl rfl .nil) rfl rfl ⟨upOne rfl rfl rfl,trivial⟩ trivial rfl,s9,_,(by omega),(by omega),rfl⟩
 ·skip
  have p10:=of_decide_eq_false c10
  refine gO ⟨_,_,rfl,rfl,c10⟩ rfl rfl ?_
  refine gO ⟨_,_,rfl,rfl,c10⟩ rfl rfl ?_
  refine gO ⟨_,_,rfl,rfl,c10⟩ rfl rfl ?_
  refine gO ⟨_,_,rfl,rfl,c10⟩ rfl rfl ?_
  refine gPF trivial rfl rfl c10 rfl rfl rfl ?_
  refine gM trivial (.inl rfl) rfl rfl rfl ?_
  refine gO ⟨_,_,rfl,rfl,rfl⟩ rfl rfl ?_
  refine gO ⟨_,_,rfl,rfl,rfl⟩ rfl rfl ?_
  refine gO ⟨_,_,rfl,rfl,rfl⟩ rfl rfl ?_
  refine gPF trivial rfl rfl rfl rfl rfl rfl ?_
  refine rg_nil nofun ?_
  refine cF rfl rfl ?_
  refine vc_skip ?_
  refine vc_seq ?_
  refine vc_region hm ?_
  refine gM trivial (.inl rfl) rfl rfl rfl ?_
  obtain ⟨E10,hE10,s10,p10,q10a,q10b,rfl⟩:=some_c (k:=k) (t0:=t0) (p:=p) hl hn (by omega) (by omega) 
  refine gCF (ups':=[(1,one ⟨[.slice (some ⟨0,k,none⟩) n 0,.int .i64 (p10)],82,2⟩)]) (as':=[]) (v':=vSp s10) 5 [0,1] hE10 trivial rfl rfl rfl rfl ⟨rCode rfl rfl,rCells rfl ⟨rfl,rfl,.inr rfl⟩ rfl,trivial⟩ ⟨frOne rfl rfl,trivial⟩ trivial rfl rfl (ho1 ⟨_,rfl⟩) (hu1 rfl) rfl rfl ?_
  refine gT trivial rfl rfl rfl rfl rfl rfl rfl rfl rfl rfl (Nat.le_of_ble_eq_true rfl) rfl ?_
  refine rg_nil nofun ?_
  refine vc_ret ?_
  exact ⟨mkF (vSp s10) [0,2,3] [(1,one ⟨[.slice (some ⟨0,k,none⟩) n 0,.int .i64 (p10)],82,2⟩)] [],_,endsT [] (.inr rfl) (.cell rfl rfl rfl rfl rfl .nil) rfl rfl ⟨upOne rfl rfl rfl,trivial⟩ trivial rfl,s10,_,(by omega),(by omega),rfl⟩
end Go.Proofs.Ytbgehlihpkefmaa.A

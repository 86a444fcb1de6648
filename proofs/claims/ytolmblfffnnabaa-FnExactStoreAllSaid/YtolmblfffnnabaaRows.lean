/-
  No cell of these rows narrows 'for every input' (looked for: loops, veiled, ifaces, maps, wideKeys, modest, calm, conditions, laid).
  DERIVED. THE GIVEN ROWS OF THIS SEAT. 9 by the template 'for every input the law returns true; each argument reads behind the call as it read before'; 0 by the template 'total and deterministic' (their statements: YtolmblfffnnabaaTotals.lean).
  GIVEN WITH THE SEED: the statements are not yours to turn. If you find one false, say at which input.
  Laid BY PROGRAM, IN A SANDBOX (cutbox-rows.mjs): the forced cells as the released guide's own fill.sh prints them over the translation 264c25f794bb18a4… (all of the seat's roots in one cut). By AI agents, Wed Nov 11 2026. No macro, syntax, notation, axiom, sorry.
-/
import Derived.Test.YtolmblfffnnabaaChecked
import GoSem.Claim
import GoSem.ClaimJoined
import GoSem.ClaimMapViews
import Derived.JoinedTies
import Derived.KernelRfl
namespace Go.Proofs.Ytolmblfffnnabaa
/- THE CELL 'sum', in the pinned program and in every row, IS THE sha256 OF THE DUMP (.gsa) THAT YtolmblfffnnabaaProg.lean LOADS. Nothing in Lean hashes anything: it is a label: what it is worth is what the hold of that sum in a sandbox is worth. -/
noncomputable def Try.pinned : Pinned := { name := "ytolmblfffnnabaa", sum := "264c25f794bb18a40be010d86cb16f5500608d9ce13c7fd78c5aef1c1c7ef217", checked := Try.checked }
namespace Rows
def none {H : Type} : Left H := { results := [], args := [] }

/-- 'laws.FnExactStoreNew': WHATEVER THE INPUT: true; the input reads as it did. -/
def fnExactStoreNewSpec : ChangeSpec := { name := "fnExactStoreNew", fn := fun _ => fun
  | [] => { results := [.lit (.bool true)], args := [] }
  | _ => none }
def fnExactStoreNewRow : OpenClaim := { program := "ytolmblfffnnabaa", sum := "264c25f794bb18a40be010d86cb16f5500608d9ce13c7fd78c5aef1c1c7ef217", func := "loop.example/pannage/laws.FnExactStoreNew", spec := "fnExactStoreNew", apart := false }
def FnExactStoreNewSaid : Prop := fnExactStoreNewRow.holds Try.pinned (OpenSpec.ofChange fnExactStoreNewSpec)

/-- ITS FALSE NEIGHBOUR: 'it returns false'. Refute it at one input. -/
def fnExactStoreNewWrong : ChangeSpec := { name := "fnExactStoreNew", fn := fun _ => fun
  | [] => { results := [.lit (.bool false)], args := [] }
  | _ => none }
def FnExactStoreNewWrongFalsely : Prop := fnExactStoreNewRow.holds Try.pinned (OpenSpec.ofChange fnExactStoreNewWrong)

/-- 'laws.FnExactStoreSame': WHATEVER THE INPUT: true; the input reads as it did. -/
def fnExactStoreSameSpec : ChangeSpec := { name := "fnExactStoreSame", fn := fun _ => fun
  | [d1, d2] => { results := [.lit (.bool true)], args := [d1, d2] }
  | _ => none }
def fnExactStoreSameRow : OpenClaim := { program := "ytolmblfffnnabaa", sum := "264c25f794bb18a40be010d86cb16f5500608d9ce13c7fd78c5aef1c1c7ef217", func := "loop.example/pannage/laws.FnExactStoreSame", spec := "fnExactStoreSame", apart := false }
def FnExactStoreSameSaid : Prop := fnExactStoreSameRow.holds Try.pinned (OpenSpec.ofChange fnExactStoreSameSpec)

/-- ITS FALSE NEIGHBOUR: 'it returns false'. Refute it at one input. -/
def fnExactStoreSameWrong : ChangeSpec := { name := "fnExactStoreSame", fn := fun _ => fun
  | [d1, d2] => { results := [.lit (.bool false)], args := [d1, d2] }
  | _ => none }
def FnExactStoreSameWrongFalsely : Prop := fnExactStoreSameRow.holds Try.pinned (OpenSpec.ofChange fnExactStoreSameWrong)

/-- 'laws.FnExactStoreOk': WHATEVER THE INPUT: true; the input reads as it did. -/
def fnExactStoreOkSpec : ChangeSpec := { name := "fnExactStoreOk", fn := fun _ => fun
  | [d] => { results := [.lit (.bool true)], args := [d] }
  | _ => none }
def fnExactStoreOkRow : OpenClaim := { program := "ytolmblfffnnabaa", sum := "264c25f794bb18a40be010d86cb16f5500608d9ce13c7fd78c5aef1c1c7ef217", func := "loop.example/pannage/laws.FnExactStoreOk", spec := "fnExactStoreOk", apart := false }
def FnExactStoreOkSaid : Prop := fnExactStoreOkRow.holds Try.pinned (OpenSpec.ofChange fnExactStoreOkSpec)

/-- ITS FALSE NEIGHBOUR: 'it returns false'. Refute it at one input. -/
def fnExactStoreOkWrong : ChangeSpec := { name := "fnExactStoreOk", fn := fun _ => fun
  | [d] => { results := [.lit (.bool false)], args := [d] }
  | _ => none }
def FnExactStoreOkWrongFalsely : Prop := fnExactStoreOkRow.holds Try.pinned (OpenSpec.ofChange fnExactStoreOkWrong)

/-- 'laws.FnExactStoreRead': WHATEVER THE INPUT: true; the input reads as it did. -/
def fnExactStoreReadSpec : ChangeSpec := { name := "fnExactStoreRead", fn := fun _ => fun
  | [d1, d2, d3] => { results := [.lit (.bool true)], args := [d1, d2, d3] }
  | _ => none }
def fnExactStoreReadRow : OpenClaim := { program := "ytolmblfffnnabaa", sum := "264c25f794bb18a40be010d86cb16f5500608d9ce13c7fd78c5aef1c1c7ef217", func := "loop.example/pannage/laws.FnExactStoreRead", spec := "fnExactStoreRead", apart := false }
def FnExactStoreReadSaid : Prop := fnExactStoreReadRow.holds Try.pinned (OpenSpec.ofChange fnExactStoreReadSpec)

/-- ITS FALSE NEIGHBOUR: 'it returns false'. Refute it at one input. -/
def fnExactStoreReadWrong : ChangeSpec := { name := "fnExactStoreRead", fn := fun _ => fun
  | [d1, d2, d3] => { results := [.lit (.bool false)], args := [d1, d2, d3] }
  | _ => none }
def FnExactStoreReadWrongFalsely : Prop := fnExactStoreReadRow.holds Try.pinned (OpenSpec.ofChange fnExactStoreReadWrong)

/-- 'laws.FnExactStoreFall': WHATEVER THE INPUT: true; the input reads as it did. -/
def fnExactStoreFallSpec : ChangeSpec := { name := "fnExactStoreFall", fn := fun _ => fun
  | [d] => { results := [.lit (.bool true)], args := [d] }
  | _ => none }
def fnExactStoreFallRow : OpenClaim := { program := "ytolmblfffnnabaa", sum := "264c25f794bb18a40be010d86cb16f5500608d9ce13c7fd78c5aef1c1c7ef217", func := "loop.example/pannage/laws.FnExactStoreFall", spec := "fnExactStoreFall", apart := false }
def FnExactStoreFallSaid : Prop := fnExactStoreFallRow.holds Try.pinned (OpenSpec.ofChange fnExactStoreFallSpec)

/-- ITS FALSE NEIGHBOUR: 'it returns false'. Refute it at one input. -/
def fnExactStoreFallWrong : ChangeSpec := { name := "fnExactStoreFall", fn := fun _ => fun
  | [d] => { results := [.lit (.bool false)], args := [d] }
  | _ => none }
def FnExactStoreFallWrongFalsely : Prop := fnExactStoreFallRow.holds Try.pinned (OpenSpec.ofChange fnExactStoreFallWrong)

/-- 'laws.FnExactStoreSync': WHATEVER THE INPUT: true; the input reads as it did. -/
def fnExactStoreSyncSpec : ChangeSpec := { name := "fnExactStoreSync", fn := fun _ => fun
  | [d] => { results := [.lit (.bool true)], args := [d] }
  | _ => none }
def fnExactStoreSyncRow : OpenClaim := { program := "ytolmblfffnnabaa", sum := "264c25f794bb18a40be010d86cb16f5500608d9ce13c7fd78c5aef1c1c7ef217", func := "loop.example/pannage/laws.FnExactStoreSync", spec := "fnExactStoreSync", apart := false }
def FnExactStoreSyncSaid : Prop := fnExactStoreSyncRow.holds Try.pinned (OpenSpec.ofChange fnExactStoreSyncSpec)

/-- ITS FALSE NEIGHBOUR: 'it returns false'. Refute it at one input. -/
def fnExactStoreSyncWrong : ChangeSpec := { name := "fnExactStoreSync", fn := fun _ => fun
  | [d] => { results := [.lit (.bool false)], args := [d] }
  | _ => none }
def FnExactStoreSyncWrongFalsely : Prop := fnExactStoreSyncRow.holds Try.pinned (OpenSpec.ofChange fnExactStoreSyncWrong)

/-- 'laws.FnExactStoreFence': WHATEVER THE INPUT: true; the input reads as it did. -/
def fnExactStoreFenceSpec : ChangeSpec := { name := "fnExactStoreFence", fn := fun _ => fun
  | [d1, d2, d3] => { results := [.lit (.bool true)], args := [d1, d2, d3] }
  | _ => none }
def fnExactStoreFenceRow : OpenClaim := { program := "ytolmblfffnnabaa", sum := "264c25f794bb18a40be010d86cb16f5500608d9ce13c7fd78c5aef1c1c7ef217", func := "loop.example/pannage/laws.FnExactStoreFence", spec := "fnExactStoreFence", apart := false }
def FnExactStoreFenceSaid : Prop := fnExactStoreFenceRow.holds Try.pinned (OpenSpec.ofChange fnExactStoreFenceSpec)

/-- ITS FALSE NEIGHBOUR: 'it returns false'. Refute it at one input. -/
def fnExactStoreFenceWrong : ChangeSpec := { name := "fnExactStoreFence", fn := fun _ => fun
  | [d1, d2, d3] => { results := [.lit (.bool false)], args := [d1, d2, d3] }
  | _ => none }
def FnExactStoreFenceWrongFalsely : Prop := fnExactStoreFenceRow.holds Try.pinned (OpenSpec.ofChange fnExactStoreFenceWrong)

/-- 'laws.FnExactStoreAll': WHATEVER THE INPUT: true; the input reads as it did. -/
def fnExactStoreAllSpec : ChangeSpec := { name := "fnExactStoreAll", fn := fun _ => fun
  | [d1, d2] => { results := [.lit (.bool true)], args := [d1, d2] }
  | _ => none }
def fnExactStoreAllRow : OpenClaim := { program := "ytolmblfffnnabaa", sum := "264c25f794bb18a40be010d86cb16f5500608d9ce13c7fd78c5aef1c1c7ef217", func := "loop.example/pannage/laws.FnExactStoreAll", spec := "fnExactStoreAll", inPlace := ["internal/abi.NoEscape", "internal/bytealg.MakeNoZero"], apart := false }
def FnExactStoreAllSaid : Prop := fnExactStoreAllRow.holds Try.pinned (OpenSpec.ofChange fnExactStoreAllSpec)

/-- ITS FALSE NEIGHBOUR: 'it returns false'. Refute it at one input. -/
def fnExactStoreAllWrong : ChangeSpec := { name := "fnExactStoreAll", fn := fun _ => fun
  | [d1, d2] => { results := [.lit (.bool false)], args := [d1, d2] }
  | _ => none }
def FnExactStoreAllWrongFalsely : Prop := fnExactStoreAllRow.holds Try.pinned (OpenSpec.ofChange fnExactStoreAllWrong)

/-- 'laws.FnExactStoreDo': WHATEVER THE INPUT: true; the input reads as it did. -/
def fnExactStoreDoSpec : ChangeSpec := { name := "fnExactStoreDo", fn := fun _ => fun
  | [d1, d2] => { results := [.lit (.bool true)], args := [d1, d2] }
  | _ => none }
def fnExactStoreDoRow : OpenClaim := { program := "ytolmblfffnnabaa", sum := "264c25f794bb18a40be010d86cb16f5500608d9ce13c7fd78c5aef1c1c7ef217", func := "loop.example/pannage/laws.FnExactStoreDo", spec := "fnExactStoreDo", inPlace := ["internal/abi.NoEscape", "internal/bytealg.MakeNoZero"], apart := false }
def FnExactStoreDoSaid : Prop := fnExactStoreDoRow.holds Try.pinned (OpenSpec.ofChange fnExactStoreDoSpec)

/-- ITS FALSE NEIGHBOUR: 'it returns false'. Refute it at one input. -/
def fnExactStoreDoWrong : ChangeSpec := { name := "fnExactStoreDo", fn := fun _ => fun
  | [d1, d2] => { results := [.lit (.bool false)], args := [d1, d2] }
  | _ => none }
def FnExactStoreDoWrongFalsely : Prop := fnExactStoreDoRow.holds Try.pinned (OpenSpec.ofChange fnExactStoreDoWrong)

/- THE SECOND FORM. 'bulk': how many values and letters a reading holds, each counted each time it is reached (what is shared counts as often as it is met; a slice's spare places count too). A statement '..UptoSaid' is the law's where the arguments, and the package variables that the reading takes, are together of bulk at most 1048576: NARROWER than '..Said'. Prove '..Said' where nothing that the law and all that it calls make is longer than what came in: it says more and counts as full. Else prove '..UptoSaid'. A law counts once. -/
mutual
def uptoBulk {H : Type} : DataW H → Nat
  | .lit (.string bytes) => bytes.length + 1
  | .lit _ => 1
  | .nil => 1
  | .ptr d => uptoBulk d + 1
  | .slice elems spare => uptoBulkAll elems + uptoBulkAll spare + 1
  | .agg parts => uptoBulkAll parts + 1
  | .iface _ d => uptoBulk d + 1
  | .map entries => uptoBulkEntries entries + 1
  | .held _ => 1
def uptoBulkAll {H : Type} : List (DataW H) → Nat
  | [] => 0
  | d :: r => uptoBulk d + uptoBulkAll r
def uptoBulkEntries {H : Type} : List (Lit × DataW H) → Nat
  | [] => 0
  | x :: r => uptoBulkEntry x + uptoBulkEntries r
def uptoBulkEntry {H : Type} : Lit × DataW H → Nat
  | (.string bytes, d) => bytes.length + uptoBulk d + 1
  | (_, d) => uptoBulk d + 1
 end
def uptoSmall : (H : Type) → List (DataW H) → Bool := fun _ ds => decide (uptoBulkAll ds ≤ 1048576)
def OpenSpec.upto (s : _root_.Go.ChangeSpec) : _root_.Go.OpenSpec := { _root_.Go.OpenSpec.ofChange s with cond := some uptoSmall }

/-- 'laws.FnExactStoreNew', WHERE WHAT IT READS IS OF BULK AT MOST 1048576: true; the input reads as it did. -/
def fnExactStoreNewUptoRow : OpenClaim := { program := "ytolmblfffnnabaa", sum := "264c25f794bb18a40be010d86cb16f5500608d9ce13c7fd78c5aef1c1c7ef217", func := "loop.example/pannage/laws.FnExactStoreNew", spec := "fnExactStoreNew", apart := false, narrowed := true }
def FnExactStoreNewUptoSaid : Prop := fnExactStoreNewUptoRow.holds Try.pinned (OpenSpec.upto fnExactStoreNewSpec)

/-- 'laws.FnExactStoreSame', WHERE WHAT IT READS IS OF BULK AT MOST 1048576: true; the input reads as it did. -/
def fnExactStoreSameUptoRow : OpenClaim := { program := "ytolmblfffnnabaa", sum := "264c25f794bb18a40be010d86cb16f5500608d9ce13c7fd78c5aef1c1c7ef217", func := "loop.example/pannage/laws.FnExactStoreSame", spec := "fnExactStoreSame", apart := false, narrowed := true }
def FnExactStoreSameUptoSaid : Prop := fnExactStoreSameUptoRow.holds Try.pinned (OpenSpec.upto fnExactStoreSameSpec)

/-- 'laws.FnExactStoreOk', WHERE WHAT IT READS IS OF BULK AT MOST 1048576: true; the input reads as it did. -/
def fnExactStoreOkUptoRow : OpenClaim := { program := "ytolmblfffnnabaa", sum := "264c25f794bb18a40be010d86cb16f5500608d9ce13c7fd78c5aef1c1c7ef217", func := "loop.example/pannage/laws.FnExactStoreOk", spec := "fnExactStoreOk", apart := false, narrowed := true }
def FnExactStoreOkUptoSaid : Prop := fnExactStoreOkUptoRow.holds Try.pinned (OpenSpec.upto fnExactStoreOkSpec)

/-- 'laws.FnExactStoreRead', WHERE WHAT IT READS IS OF BULK AT MOST 1048576: true; the input reads as it did. -/
def fnExactStoreReadUptoRow : OpenClaim := { program := "ytolmblfffnnabaa", sum := "264c25f794bb18a40be010d86cb16f5500608d9ce13c7fd78c5aef1c1c7ef217", func := "loop.example/pannage/laws.FnExactStoreRead", spec := "fnExactStoreRead", apart := false, narrowed := true }
def FnExactStoreReadUptoSaid : Prop := fnExactStoreReadUptoRow.holds Try.pinned (OpenSpec.upto fnExactStoreReadSpec)

/-- 'laws.FnExactStoreFall', WHERE WHAT IT READS IS OF BULK AT MOST 1048576: true; the input reads as it did. -/
def fnExactStoreFallUptoRow : OpenClaim := { program := "ytolmblfffnnabaa", sum := "264c25f794bb18a40be010d86cb16f5500608d9ce13c7fd78c5aef1c1c7ef217", func := "loop.example/pannage/laws.FnExactStoreFall", spec := "fnExactStoreFall", apart := false, narrowed := true }
def FnExactStoreFallUptoSaid : Prop := fnExactStoreFallUptoRow.holds Try.pinned (OpenSpec.upto fnExactStoreFallSpec)

/-- 'laws.FnExactStoreSync', WHERE WHAT IT READS IS OF BULK AT MOST 1048576: true; the input reads as it did. -/
def fnExactStoreSyncUptoRow : OpenClaim := { program := "ytolmblfffnnabaa", sum := "264c25f794bb18a40be010d86cb16f5500608d9ce13c7fd78c5aef1c1c7ef217", func := "loop.example/pannage/laws.FnExactStoreSync", spec := "fnExactStoreSync", apart := false, narrowed := true }
def FnExactStoreSyncUptoSaid : Prop := fnExactStoreSyncUptoRow.holds Try.pinned (OpenSpec.upto fnExactStoreSyncSpec)

/-- 'laws.FnExactStoreFence', WHERE WHAT IT READS IS OF BULK AT MOST 1048576: true; the input reads as it did. -/
def fnExactStoreFenceUptoRow : OpenClaim := { program := "ytolmblfffnnabaa", sum := "264c25f794bb18a40be010d86cb16f5500608d9ce13c7fd78c5aef1c1c7ef217", func := "loop.example/pannage/laws.FnExactStoreFence", spec := "fnExactStoreFence", apart := false, narrowed := true }
def FnExactStoreFenceUptoSaid : Prop := fnExactStoreFenceUptoRow.holds Try.pinned (OpenSpec.upto fnExactStoreFenceSpec)

/-- 'laws.FnExactStoreAll', WHERE WHAT IT READS IS OF BULK AT MOST 1048576: true; the input reads as it did. -/
def fnExactStoreAllUptoRow : OpenClaim := { program := "ytolmblfffnnabaa", sum := "264c25f794bb18a40be010d86cb16f5500608d9ce13c7fd78c5aef1c1c7ef217", func := "loop.example/pannage/laws.FnExactStoreAll", spec := "fnExactStoreAll", inPlace := ["internal/abi.NoEscape", "internal/bytealg.MakeNoZero"], apart := false, narrowed := true }
def FnExactStoreAllUptoSaid : Prop := fnExactStoreAllUptoRow.holds Try.pinned (OpenSpec.upto fnExactStoreAllSpec)

/-- 'laws.FnExactStoreDo', WHERE WHAT IT READS IS OF BULK AT MOST 1048576: true; the input reads as it did. -/
def fnExactStoreDoUptoRow : OpenClaim := { program := "ytolmblfffnnabaa", sum := "264c25f794bb18a40be010d86cb16f5500608d9ce13c7fd78c5aef1c1c7ef217", func := "loop.example/pannage/laws.FnExactStoreDo", spec := "fnExactStoreDo", inPlace := ["internal/abi.NoEscape", "internal/bytealg.MakeNoZero"], apart := false, narrowed := true }
def FnExactStoreDoUptoSaid : Prop := fnExactStoreDoUptoRow.holds Try.pinned (OpenSpec.upto fnExactStoreDoSpec)

end Rows
end Go.Proofs.Ytolmblfffnnabaa

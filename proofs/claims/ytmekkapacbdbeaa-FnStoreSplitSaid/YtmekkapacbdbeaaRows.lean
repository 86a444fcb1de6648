/-
  No cell of these rows narrows 'for every input' (looked for: loops, veiled, ifaces, maps, wideKeys, modest, calm, conditions, laid).
  DERIVED. THE GIVEN ROWS OF THIS SEAT. 12 by the template 'for every input the law returns true; each argument reads behind the call as it read before'; 0 by the template 'total and deterministic' (their statements: YtmekkapacbdbeaaTotals.lean).
  GIVEN WITH THE SEED: the statements are not yours to turn. If you find one false, say at which input.
  Laid BY PROGRAM, IN A SANDBOX (cutbox-rows.mjs): the forced cells as the released guide's own fill.sh prints them over the translation 2c8bcb57d7180ff8… (all of the seat's roots in one cut). By AI agents, Wed Nov 11 2026. No macro, syntax, notation, axiom, sorry.
-/
import Derived.Test.YtmekkapacbdbeaaChecked
import GoSem.Claim
import GoSem.ClaimJoined
import GoSem.ClaimMapViews
import Derived.JoinedTies
import Derived.KernelRfl
namespace Go.Proofs.Ytmekkapacbdbeaa
/- THE CELL 'sum', in the pinned program and in every row, IS THE sha256 OF THE DUMP (.gsa) THAT YtmekkapacbdbeaaProg.lean LOADS. Nothing in Lean hashes anything: it is a label: what it is worth is what the hold of that sum in a sandbox is worth. -/
noncomputable def Try.pinned : Pinned := { name := "ytmekkapacbdbeaa", sum := "2c8bcb57d7180ff8844a19949977b07e2b3d198495841c3b9a1af094bb28fb85", checked := Try.checked }
namespace Rows
def none {H : Type} : Left H := { results := [], args := [] }

/-- 'laws.FnStoreSure': WHATEVER THE INPUT: true; the input reads as it did. -/
def fnStoreSureSpec : ChangeSpec := { name := "fnStoreSure", fn := fun _ => fun
  | [d] => { results := [.lit (.bool true)], args := [d] }
  | _ => none }
def fnStoreSureRow : OpenClaim := { program := "ytmekkapacbdbeaa", sum := "2c8bcb57d7180ff8844a19949977b07e2b3d198495841c3b9a1af094bb28fb85", func := "loop.example/pannage/laws.FnStoreSure", spec := "fnStoreSure", inPlace := ["internal/abi.NoEscape", "internal/bytealg.MakeNoZero"], apart := false }
def FnStoreSureSaid : Prop := fnStoreSureRow.holds Try.pinned (OpenSpec.ofChange fnStoreSureSpec)

/-- ITS FALSE NEIGHBOUR: 'it returns false'. Refute it at one input. -/
def fnStoreSureWrong : ChangeSpec := { name := "fnStoreSure", fn := fun _ => fun
  | [d] => { results := [.lit (.bool false)], args := [d] }
  | _ => none }
def FnStoreSureWrongFalsely : Prop := fnStoreSureRow.holds Try.pinned (OpenSpec.ofChange fnStoreSureWrong)

/-- 'laws.FnStoreBent': WHATEVER THE INPUT: true; the input reads as it did. -/
def fnStoreBentSpec : ChangeSpec := { name := "fnStoreBent", fn := fun _ => fun
  | [d] => { results := [.lit (.bool true)], args := [d] }
  | _ => none }
def fnStoreBentRow : OpenClaim := { program := "ytmekkapacbdbeaa", sum := "2c8bcb57d7180ff8844a19949977b07e2b3d198495841c3b9a1af094bb28fb85", func := "loop.example/pannage/laws.FnStoreBent", spec := "fnStoreBent", inPlace := ["internal/abi.NoEscape", "internal/bytealg.MakeNoZero"], apart := false }
def FnStoreBentSaid : Prop := fnStoreBentRow.holds Try.pinned (OpenSpec.ofChange fnStoreBentSpec)

/-- ITS FALSE NEIGHBOUR: 'it returns false'. Refute it at one input. -/
def fnStoreBentWrong : ChangeSpec := { name := "fnStoreBent", fn := fun _ => fun
  | [d] => { results := [.lit (.bool false)], args := [d] }
  | _ => none }
def FnStoreBentWrongFalsely : Prop := fnStoreBentRow.holds Try.pinned (OpenSpec.ofChange fnStoreBentWrong)

/-- 'laws.FnStoreSame': WHATEVER THE INPUT: true; the input reads as it did. -/
def fnStoreSameSpec : ChangeSpec := { name := "fnStoreSame", fn := fun _ => fun
  | [d] => { results := [.lit (.bool true)], args := [d] }
  | _ => none }
def fnStoreSameRow : OpenClaim := { program := "ytmekkapacbdbeaa", sum := "2c8bcb57d7180ff8844a19949977b07e2b3d198495841c3b9a1af094bb28fb85", func := "loop.example/pannage/laws.FnStoreSame", spec := "fnStoreSame", apart := false }
def FnStoreSameSaid : Prop := fnStoreSameRow.holds Try.pinned (OpenSpec.ofChange fnStoreSameSpec)

/-- ITS FALSE NEIGHBOUR: 'it returns false'. Refute it at one input. -/
def fnStoreSameWrong : ChangeSpec := { name := "fnStoreSame", fn := fun _ => fun
  | [d] => { results := [.lit (.bool false)], args := [d] }
  | _ => none }
def FnStoreSameWrongFalsely : Prop := fnStoreSameRow.holds Try.pinned (OpenSpec.ofChange fnStoreSameWrong)

/-- 'laws.FnStoreRead': WHATEVER THE INPUT: true; the input reads as it did. -/
def fnStoreReadSpec : ChangeSpec := { name := "fnStoreRead", fn := fun _ => fun
  | [d] => { results := [.lit (.bool true)], args := [d] }
  | _ => none }
def fnStoreReadRow : OpenClaim := { program := "ytmekkapacbdbeaa", sum := "2c8bcb57d7180ff8844a19949977b07e2b3d198495841c3b9a1af094bb28fb85", func := "loop.example/pannage/laws.FnStoreRead", spec := "fnStoreRead", apart := false }
def FnStoreReadSaid : Prop := fnStoreReadRow.holds Try.pinned (OpenSpec.ofChange fnStoreReadSpec)

/-- ITS FALSE NEIGHBOUR: 'it returns false'. Refute it at one input. -/
def fnStoreReadWrong : ChangeSpec := { name := "fnStoreRead", fn := fun _ => fun
  | [d] => { results := [.lit (.bool false)], args := [d] }
  | _ => none }
def FnStoreReadWrongFalsely : Prop := fnStoreReadRow.holds Try.pinned (OpenSpec.ofChange fnStoreReadWrong)

/-- 'laws.FnStoreFall': WHATEVER THE INPUT: true; the input reads as it did. -/
def fnStoreFallSpec : ChangeSpec := { name := "fnStoreFall", fn := fun _ => fun
  | [d] => { results := [.lit (.bool true)], args := [d] }
  | _ => none }
def fnStoreFallRow : OpenClaim := { program := "ytmekkapacbdbeaa", sum := "2c8bcb57d7180ff8844a19949977b07e2b3d198495841c3b9a1af094bb28fb85", func := "loop.example/pannage/laws.FnStoreFall", spec := "fnStoreFall", apart := false }
def FnStoreFallSaid : Prop := fnStoreFallRow.holds Try.pinned (OpenSpec.ofChange fnStoreFallSpec)

/-- ITS FALSE NEIGHBOUR: 'it returns false'. Refute it at one input. -/
def fnStoreFallWrong : ChangeSpec := { name := "fnStoreFall", fn := fun _ => fun
  | [d] => { results := [.lit (.bool false)], args := [d] }
  | _ => none }
def FnStoreFallWrongFalsely : Prop := fnStoreFallRow.holds Try.pinned (OpenSpec.ofChange fnStoreFallWrong)

/-- 'laws.FnStoreApart': WHATEVER THE INPUT: true; the input reads as it did. -/
def fnStoreApartSpec : ChangeSpec := { name := "fnStoreApart", fn := fun _ => fun
  | [d1, d2] => { results := [.lit (.bool true)], args := [d1, d2] }
  | _ => none }
def fnStoreApartRow : OpenClaim := { program := "ytmekkapacbdbeaa", sum := "2c8bcb57d7180ff8844a19949977b07e2b3d198495841c3b9a1af094bb28fb85", func := "loop.example/pannage/laws.FnStoreApart", spec := "fnStoreApart", inPlace := ["internal/abi.NoEscape", "internal/bytealg.MakeNoZero"], apart := false }
def FnStoreApartSaid : Prop := fnStoreApartRow.holds Try.pinned (OpenSpec.ofChange fnStoreApartSpec)

/-- ITS FALSE NEIGHBOUR: 'it returns false'. Refute it at one input. -/
def fnStoreApartWrong : ChangeSpec := { name := "fnStoreApart", fn := fun _ => fun
  | [d1, d2] => { results := [.lit (.bool false)], args := [d1, d2] }
  | _ => none }
def FnStoreApartWrongFalsely : Prop := fnStoreApartRow.holds Try.pinned (OpenSpec.ofChange fnStoreApartWrong)

/-- 'laws.FnStoreDo': WHATEVER THE INPUT: true; the input reads as it did. -/
def fnStoreDoSpec : ChangeSpec := { name := "fnStoreDo", fn := fun _ => fun
  | [d] => { results := [.lit (.bool true)], args := [d] }
  | _ => none }
def fnStoreDoRow : OpenClaim := { program := "ytmekkapacbdbeaa", sum := "2c8bcb57d7180ff8844a19949977b07e2b3d198495841c3b9a1af094bb28fb85", func := "loop.example/pannage/laws.FnStoreDo", spec := "fnStoreDo", inPlace := ["internal/abi.NoEscape", "internal/bytealg.MakeNoZero"], apart := false }
def FnStoreDoSaid : Prop := fnStoreDoRow.holds Try.pinned (OpenSpec.ofChange fnStoreDoSpec)

/-- ITS FALSE NEIGHBOUR: 'it returns false'. Refute it at one input. -/
def fnStoreDoWrong : ChangeSpec := { name := "fnStoreDo", fn := fun _ => fun
  | [d] => { results := [.lit (.bool false)], args := [d] }
  | _ => none }
def FnStoreDoWrongFalsely : Prop := fnStoreDoRow.holds Try.pinned (OpenSpec.ofChange fnStoreDoWrong)

/-- 'laws.FnStoreGap': WHATEVER THE INPUT: true; the input reads as it did. -/
def fnStoreGapSpec : ChangeSpec := { name := "fnStoreGap", fn := fun _ => fun
  | [d] => { results := [.lit (.bool true)], args := [d] }
  | _ => none }
def fnStoreGapRow : OpenClaim := { program := "ytmekkapacbdbeaa", sum := "2c8bcb57d7180ff8844a19949977b07e2b3d198495841c3b9a1af094bb28fb85", func := "loop.example/pannage/laws.FnStoreGap", spec := "fnStoreGap", inPlace := ["internal/abi.NoEscape", "internal/bytealg.MakeNoZero"], apart := false }
def FnStoreGapSaid : Prop := fnStoreGapRow.holds Try.pinned (OpenSpec.ofChange fnStoreGapSpec)

/-- ITS FALSE NEIGHBOUR: 'it returns false'. Refute it at one input. -/
def fnStoreGapWrong : ChangeSpec := { name := "fnStoreGap", fn := fun _ => fun
  | [d] => { results := [.lit (.bool false)], args := [d] }
  | _ => none }
def FnStoreGapWrongFalsely : Prop := fnStoreGapRow.holds Try.pinned (OpenSpec.ofChange fnStoreGapWrong)

/-- 'laws.FnStoreOnce': WHATEVER THE INPUT: true; the input reads as it did. -/
def fnStoreOnceSpec : ChangeSpec := { name := "fnStoreOnce", fn := fun _ => fun
  | [d] => { results := [.lit (.bool true)], args := [d] }
  | _ => none }
def fnStoreOnceRow : OpenClaim := { program := "ytmekkapacbdbeaa", sum := "2c8bcb57d7180ff8844a19949977b07e2b3d198495841c3b9a1af094bb28fb85", func := "loop.example/pannage/laws.FnStoreOnce", spec := "fnStoreOnce", inPlace := ["internal/abi.NoEscape", "internal/bytealg.MakeNoZero"], apart := false }
def FnStoreOnceSaid : Prop := fnStoreOnceRow.holds Try.pinned (OpenSpec.ofChange fnStoreOnceSpec)

/-- ITS FALSE NEIGHBOUR: 'it returns false'. Refute it at one input. -/
def fnStoreOnceWrong : ChangeSpec := { name := "fnStoreOnce", fn := fun _ => fun
  | [d] => { results := [.lit (.bool false)], args := [d] }
  | _ => none }
def FnStoreOnceWrongFalsely : Prop := fnStoreOnceRow.holds Try.pinned (OpenSpec.ofChange fnStoreOnceWrong)

/-- 'laws.FnStoreSplit': WHATEVER THE INPUT: true; the input reads as it did. -/
def fnStoreSplitSpec : ChangeSpec := { name := "fnStoreSplit", fn := fun _ => fun
  | [d1, d2] => { results := [.lit (.bool true)], args := [d1, d2] }
  | _ => none }
def fnStoreSplitRow : OpenClaim := { program := "ytmekkapacbdbeaa", sum := "2c8bcb57d7180ff8844a19949977b07e2b3d198495841c3b9a1af094bb28fb85", func := "loop.example/pannage/laws.FnStoreSplit", spec := "fnStoreSplit", inPlace := ["internal/abi.NoEscape", "internal/bytealg.MakeNoZero"], apart := false }
def FnStoreSplitSaid : Prop := fnStoreSplitRow.holds Try.pinned (OpenSpec.ofChange fnStoreSplitSpec)

/-- ITS FALSE NEIGHBOUR: 'it returns false'. Refute it at one input. -/
def fnStoreSplitWrong : ChangeSpec := { name := "fnStoreSplit", fn := fun _ => fun
  | [d1, d2] => { results := [.lit (.bool false)], args := [d1, d2] }
  | _ => none }
def FnStoreSplitWrongFalsely : Prop := fnStoreSplitRow.holds Try.pinned (OpenSpec.ofChange fnStoreSplitWrong)

/-- 'laws.FnStoreFence': WHATEVER THE INPUT: true; the input reads as it did. -/
def fnStoreFenceSpec : ChangeSpec := { name := "fnStoreFence", fn := fun _ => fun
  | [d1, d2] => { results := [.lit (.bool true)], args := [d1, d2] }
  | _ => none }
def fnStoreFenceRow : OpenClaim := { program := "ytmekkapacbdbeaa", sum := "2c8bcb57d7180ff8844a19949977b07e2b3d198495841c3b9a1af094bb28fb85", func := "loop.example/pannage/laws.FnStoreFence", spec := "fnStoreFence", inPlace := ["internal/abi.NoEscape", "internal/bytealg.MakeNoZero"], apart := false }
def FnStoreFenceSaid : Prop := fnStoreFenceRow.holds Try.pinned (OpenSpec.ofChange fnStoreFenceSpec)

/-- ITS FALSE NEIGHBOUR: 'it returns false'. Refute it at one input. -/
def fnStoreFenceWrong : ChangeSpec := { name := "fnStoreFence", fn := fun _ => fun
  | [d1, d2] => { results := [.lit (.bool false)], args := [d1, d2] }
  | _ => none }
def FnStoreFenceWrongFalsely : Prop := fnStoreFenceRow.holds Try.pinned (OpenSpec.ofChange fnStoreFenceWrong)

/-- 'laws.FnStoreReplay': WHATEVER THE INPUT: true; the input reads as it did. -/
def fnStoreReplaySpec : ChangeSpec := { name := "fnStoreReplay", fn := fun _ => fun
  | [d] => { results := [.lit (.bool true)], args := [d] }
  | _ => none }
def fnStoreReplayRow : OpenClaim := { program := "ytmekkapacbdbeaa", sum := "2c8bcb57d7180ff8844a19949977b07e2b3d198495841c3b9a1af094bb28fb85", func := "loop.example/pannage/laws.FnStoreReplay", spec := "fnStoreReplay", inPlace := ["internal/abi.NoEscape", "internal/bytealg.MakeNoZero"], apart := false }
def FnStoreReplaySaid : Prop := fnStoreReplayRow.holds Try.pinned (OpenSpec.ofChange fnStoreReplaySpec)

/-- ITS FALSE NEIGHBOUR: 'it returns false'. Refute it at one input. -/
def fnStoreReplayWrong : ChangeSpec := { name := "fnStoreReplay", fn := fun _ => fun
  | [d] => { results := [.lit (.bool false)], args := [d] }
  | _ => none }
def FnStoreReplayWrongFalsely : Prop := fnStoreReplayRow.holds Try.pinned (OpenSpec.ofChange fnStoreReplayWrong)

/- THE SECOND FORM. 'bulk': how many values and letters a reading holds, each counted each time it is reached (what is shared counts as often as it is met; a slice's spare places count too). A statement '..UptoSaid' is the law's where the arguments, and the package variables that the reading takes, are together of bulk at most 1048576: NARROWER than '..Said'. Prove '..Said' where nothing that the law and all that it calls make is longer than what came in: it says more and counts as full. Else prove '..UptoSaid'. A law counts once. -/
mutual
def uptoBulk {H : Type} : DataW H → Nat
  | .lit (.string bytes) => bytes.length + 1
  | .lit _ => 1
  | .nil => 1
  | .ptr d => uptoBulk d + 1
  | .slice elems spare => uptoBulkAll elems + uptoBulkAll spare + 1
  | .agg parts => uptoBulkAll parts + 1
  | .iface _ d => uptoBulk d + 1
  | .map entries => uptoBulkEntries entries + 1
  | .held _ => 1
def uptoBulkAll {H : Type} : List (DataW H) → Nat
  | [] => 0
  | d :: r => uptoBulk d + uptoBulkAll r
def uptoBulkEntries {H : Type} : List (Lit × DataW H) → Nat
  | [] => 0
  | x :: r => uptoBulkEntry x + uptoBulkEntries r
def uptoBulkEntry {H : Type} : Lit × DataW H → Nat
  | (.string bytes, d) => bytes.length + uptoBulk d + 1
  | (_, d) => uptoBulk d + 1
 end
def uptoSmall : (H : Type) → List (DataW H) → Bool := fun _ ds => decide (uptoBulkAll ds ≤ 1048576)
def OpenSpec.upto (s : _root_.Go.ChangeSpec) : _root_.Go.OpenSpec := { _root_.Go.OpenSpec.ofChange s with cond := some uptoSmall }

/-- 'laws.FnStoreSure', WHERE WHAT IT READS IS OF BULK AT MOST 1048576: true; the input reads as it did. -/
def fnStoreSureUptoRow : OpenClaim := { program := "ytmekkapacbdbeaa", sum := "2c8bcb57d7180ff8844a19949977b07e2b3d198495841c3b9a1af094bb28fb85", func := "loop.example/pannage/laws.FnStoreSure", spec := "fnStoreSure", inPlace := ["internal/abi.NoEscape", "internal/bytealg.MakeNoZero"], apart := false, narrowed := true }
def FnStoreSureUptoSaid : Prop := fnStoreSureUptoRow.holds Try.pinned (OpenSpec.upto fnStoreSureSpec)

/-- 'laws.FnStoreBent', WHERE WHAT IT READS IS OF BULK AT MOST 1048576: true; the input reads as it did. -/
def fnStoreBentUptoRow : OpenClaim := { program := "ytmekkapacbdbeaa", sum := "2c8bcb57d7180ff8844a19949977b07e2b3d198495841c3b9a1af094bb28fb85", func := "loop.example/pannage/laws.FnStoreBent", spec := "fnStoreBent", inPlace := ["internal/abi.NoEscape", "internal/bytealg.MakeNoZero"], apart := false, narrowed := true }
def FnStoreBentUptoSaid : Prop := fnStoreBentUptoRow.holds Try.pinned (OpenSpec.upto fnStoreBentSpec)

/-- 'laws.FnStoreSame', WHERE WHAT IT READS IS OF BULK AT MOST 1048576: true; the input reads as it did. -/
def fnStoreSameUptoRow : OpenClaim := { program := "ytmekkapacbdbeaa", sum := "2c8bcb57d7180ff8844a19949977b07e2b3d198495841c3b9a1af094bb28fb85", func := "loop.example/pannage/laws.FnStoreSame", spec := "fnStoreSame", apart := false, narrowed := true }
def FnStoreSameUptoSaid : Prop := fnStoreSameUptoRow.holds Try.pinned (OpenSpec.upto fnStoreSameSpec)

/-- 'laws.FnStoreRead', WHERE WHAT IT READS IS OF BULK AT MOST 1048576: true; the input reads as it did. -/
def fnStoreReadUptoRow : OpenClaim := { program := "ytmekkapacbdbeaa", sum := "2c8bcb57d7180ff8844a19949977b07e2b3d198495841c3b9a1af094bb28fb85", func := "loop.example/pannage/laws.FnStoreRead", spec := "fnStoreRead", apart := false, narrowed := true }
def FnStoreReadUptoSaid : Prop := fnStoreReadUptoRow.holds Try.pinned (OpenSpec.upto fnStoreReadSpec)

/-- 'laws.FnStoreFall', WHERE WHAT IT READS IS OF BULK AT MOST 1048576: true; the input reads as it did. -/
def fnStoreFallUptoRow : OpenClaim := { program := "ytmekkapacbdbeaa", sum := "2c8bcb57d7180ff8844a19949977b07e2b3d198495841c3b9a1af094bb28fb85", func := "loop.example/pannage/laws.FnStoreFall", spec := "fnStoreFall", apart := false, narrowed := true }
def FnStoreFallUptoSaid : Prop := fnStoreFallUptoRow.holds Try.pinned (OpenSpec.upto fnStoreFallSpec)

/-- 'laws.FnStoreApart', WHERE WHAT IT READS IS OF BULK AT MOST 1048576: true; the input reads as it did. -/
def fnStoreApartUptoRow : OpenClaim := { program := "ytmekkapacbdbeaa", sum := "2c8bcb57d7180ff8844a19949977b07e2b3d198495841c3b9a1af094bb28fb85", func := "loop.example/pannage/laws.FnStoreApart", spec := "fnStoreApart", inPlace := ["internal/abi.NoEscape", "internal/bytealg.MakeNoZero"], apart := false, narrowed := true }
def FnStoreApartUptoSaid : Prop := fnStoreApartUptoRow.holds Try.pinned (OpenSpec.upto fnStoreApartSpec)

/-- 'laws.FnStoreDo', WHERE WHAT IT READS IS OF BULK AT MOST 1048576: true; the input reads as it did. -/
def fnStoreDoUptoRow : OpenClaim := { program := "ytmekkapacbdbeaa", sum := "2c8bcb57d7180ff8844a19949977b07e2b3d198495841c3b9a1af094bb28fb85", func := "loop.example/pannage/laws.FnStoreDo", spec := "fnStoreDo", inPlace := ["internal/abi.NoEscape", "internal/bytealg.MakeNoZero"], apart := false, narrowed := true }
def FnStoreDoUptoSaid : Prop := fnStoreDoUptoRow.holds Try.pinned (OpenSpec.upto fnStoreDoSpec)

/-- 'laws.FnStoreGap', WHERE WHAT IT READS IS OF BULK AT MOST 1048576: true; the input reads as it did. -/
def fnStoreGapUptoRow : OpenClaim := { program := "ytmekkapacbdbeaa", sum := "2c8bcb57d7180ff8844a19949977b07e2b3d198495841c3b9a1af094bb28fb85", func := "loop.example/pannage/laws.FnStoreGap", spec := "fnStoreGap", inPlace := ["internal/abi.NoEscape", "internal/bytealg.MakeNoZero"], apart := false, narrowed := true }
def FnStoreGapUptoSaid : Prop := fnStoreGapUptoRow.holds Try.pinned (OpenSpec.upto fnStoreGapSpec)

/-- 'laws.FnStoreOnce', WHERE WHAT IT READS IS OF BULK AT MOST 1048576: true; the input reads as it did. -/
def fnStoreOnceUptoRow : OpenClaim := { program := "ytmekkapacbdbeaa", sum := "2c8bcb57d7180ff8844a19949977b07e2b3d198495841c3b9a1af094bb28fb85", func := "loop.example/pannage/laws.FnStoreOnce", spec := "fnStoreOnce", inPlace := ["internal/abi.NoEscape", "internal/bytealg.MakeNoZero"], apart := false, narrowed := true }
def FnStoreOnceUptoSaid : Prop := fnStoreOnceUptoRow.holds Try.pinned (OpenSpec.upto fnStoreOnceSpec)

/-- 'laws.FnStoreSplit', WHERE WHAT IT READS IS OF BULK AT MOST 1048576: true; the input reads as it did. -/
def fnStoreSplitUptoRow : OpenClaim := { program := "ytmekkapacbdbeaa", sum := "2c8bcb57d7180ff8844a19949977b07e2b3d198495841c3b9a1af094bb28fb85", func := "loop.example/pannage/laws.FnStoreSplit", spec := "fnStoreSplit", inPlace := ["internal/abi.NoEscape", "internal/bytealg.MakeNoZero"], apart := false, narrowed := true }
def FnStoreSplitUptoSaid : Prop := fnStoreSplitUptoRow.holds Try.pinned (OpenSpec.upto fnStoreSplitSpec)

/-- 'laws.FnStoreFence', WHERE WHAT IT READS IS OF BULK AT MOST 1048576: true; the input reads as it did. -/
def fnStoreFenceUptoRow : OpenClaim := { program := "ytmekkapacbdbeaa", sum := "2c8bcb57d7180ff8844a19949977b07e2b3d198495841c3b9a1af094bb28fb85", func := "loop.example/pannage/laws.FnStoreFence", spec := "fnStoreFence", inPlace := ["internal/abi.NoEscape", "internal/bytealg.MakeNoZero"], apart := false, narrowed := true }
def FnStoreFenceUptoSaid : Prop := fnStoreFenceUptoRow.holds Try.pinned (OpenSpec.upto fnStoreFenceSpec)

/-- 'laws.FnStoreReplay', WHERE WHAT IT READS IS OF BULK AT MOST 1048576: true; the input reads as it did. -/
def fnStoreReplayUptoRow : OpenClaim := { program := "ytmekkapacbdbeaa", sum := "2c8bcb57d7180ff8844a19949977b07e2b3d198495841c3b9a1af094bb28fb85", func := "loop.example/pannage/laws.FnStoreReplay", spec := "fnStoreReplay", inPlace := ["internal/abi.NoEscape", "internal/bytealg.MakeNoZero"], apart := false, narrowed := true }
def FnStoreReplayUptoSaid : Prop := fnStoreReplayUptoRow.holds Try.pinned (OpenSpec.upto fnStoreReplaySpec)

end Rows
end Go.Proofs.Ytmekkapacbdbeaa

/-
  No cell of these rows narrows 'for every input' (looked for: loops, veiled, ifaces, maps, wideKeys, modest, calm, conditions, laid).
  DERIVED. THE GIVEN ROWS OF THIS SEAT. 10 by the template 'for every input the law returns true; each argument reads behind the call as it read before'; 0 by the template 'total and deterministic' (their statements: YthionnhbnfblcaaTotals.lean).
  GIVEN WITH THE SEED: the statements are not yours to turn. If you find one false, say at which input.
  Laid BY PROGRAM, IN A SANDBOX (cutbox-rows.mjs): the forced cells as the released guide's own fill.sh prints them over the translation 167135d83d6d9a3d… (all of the seat's roots in one cut). By AI agents, Wed Nov 11 2026. No macro, syntax, notation, axiom, sorry.
-/
import Derived.Test.YthionnhbnfblcaaChecked
import GoSem.Claim
import GoSem.ClaimJoined
import GoSem.ClaimMapViews
import Derived.JoinedTies
import Derived.KernelRfl
namespace Go.Proofs.Ythionnhbnfblcaa
/- THE CELL 'sum', in the pinned program and in every row, IS THE sha256 OF THE DUMP (.gsa) THAT YthionnhbnfblcaaProg.lean LOADS. Nothing in Lean hashes anything: it is a label: what it is worth is what the hold of that sum in a sandbox is worth. -/
noncomputable def Try.pinned : Pinned := { name := "ythionnhbnfblcaa", sum := "167135d83d6d9a3dcbb05d96b69c323c73ca7bc401d377a99d87593a1d778e0b", checked := Try.checked }
namespace Rows
def none {H : Type} : Left H := { results := [], args := [] }

/-- 'laws.FnExactOwnSame': WHATEVER THE INPUT: true; the input reads as it did. -/
def fnExactOwnSameSpec : ChangeSpec := { name := "fnExactOwnSame", fn := fun _ => fun
  | [d1, d2] => { results := [.lit (.bool true)], args := [d1, d2] }
  | _ => none }
def fnExactOwnSameRow : OpenClaim := { program := "ythionnhbnfblcaa", sum := "167135d83d6d9a3dcbb05d96b69c323c73ca7bc401d377a99d87593a1d778e0b", func := "loop.example/pannage/laws.FnExactOwnSame", spec := "fnExactOwnSame", apart := false }
def FnExactOwnSameSaid : Prop := fnExactOwnSameRow.holds Try.pinned (OpenSpec.ofChange fnExactOwnSameSpec)

/-- ITS FALSE NEIGHBOUR: 'it returns false'. Refute it at one input. -/
def fnExactOwnSameWrong : ChangeSpec := { name := "fnExactOwnSame", fn := fun _ => fun
  | [d1, d2] => { results := [.lit (.bool false)], args := [d1, d2] }
  | _ => none }
def FnExactOwnSameWrongFalsely : Prop := fnExactOwnSameRow.holds Try.pinned (OpenSpec.ofChange fnExactOwnSameWrong)

/-- 'laws.FnExactOwnOk': WHATEVER THE INPUT: true; the input reads as it did. -/
def fnExactOwnOkSpec : ChangeSpec := { name := "fnExactOwnOk", fn := fun _ => fun
  | [d] => { results := [.lit (.bool true)], args := [d] }
  | _ => none }
def fnExactOwnOkRow : OpenClaim := { program := "ythionnhbnfblcaa", sum := "167135d83d6d9a3dcbb05d96b69c323c73ca7bc401d377a99d87593a1d778e0b", func := "loop.example/pannage/laws.FnExactOwnOk", spec := "fnExactOwnOk", apart := false }
def FnExactOwnOkSaid : Prop := fnExactOwnOkRow.holds Try.pinned (OpenSpec.ofChange fnExactOwnOkSpec)

/-- ITS FALSE NEIGHBOUR: 'it returns false'. Refute it at one input. -/
def fnExactOwnOkWrong : ChangeSpec := { name := "fnExactOwnOk", fn := fun _ => fun
  | [d] => { results := [.lit (.bool false)], args := [d] }
  | _ => none }
def FnExactOwnOkWrongFalsely : Prop := fnExactOwnOkRow.holds Try.pinned (OpenSpec.ofChange fnExactOwnOkWrong)

/-- 'laws.FnExactOwnRead': WHATEVER THE INPUT: true; the input reads as it did. -/
def fnExactOwnReadSpec : ChangeSpec := { name := "fnExactOwnRead", fn := fun _ => fun
  | [d1, d2] => { results := [.lit (.bool true)], args := [d1, d2] }
  | _ => none }
def fnExactOwnReadRow : OpenClaim := { program := "ythionnhbnfblcaa", sum := "167135d83d6d9a3dcbb05d96b69c323c73ca7bc401d377a99d87593a1d778e0b", func := "loop.example/pannage/laws.FnExactOwnRead", spec := "fnExactOwnRead", apart := false }
def FnExactOwnReadSaid : Prop := fnExactOwnReadRow.holds Try.pinned (OpenSpec.ofChange fnExactOwnReadSpec)

/-- ITS FALSE NEIGHBOUR: 'it returns false'. Refute it at one input. -/
def fnExactOwnReadWrong : ChangeSpec := { name := "fnExactOwnRead", fn := fun _ => fun
  | [d1, d2] => { results := [.lit (.bool false)], args := [d1, d2] }
  | _ => none }
def FnExactOwnReadWrongFalsely : Prop := fnExactOwnReadRow.holds Try.pinned (OpenSpec.ofChange fnExactOwnReadWrong)

/-- 'laws.FnExactOwnPatches': WHATEVER THE INPUT: true; the input reads as it did. -/
def fnExactOwnPatchesSpec : ChangeSpec := { name := "fnExactOwnPatches", fn := fun _ => fun
  | [d1, d2] => { results := [.lit (.bool true)], args := [d1, d2] }
  | _ => none }
def fnExactOwnPatchesRow : OpenClaim := { program := "ythionnhbnfblcaa", sum := "167135d83d6d9a3dcbb05d96b69c323c73ca7bc401d377a99d87593a1d778e0b", func := "loop.example/pannage/laws.FnExactOwnPatches", spec := "fnExactOwnPatches", apart := false }
def FnExactOwnPatchesSaid : Prop := fnExactOwnPatchesRow.holds Try.pinned (OpenSpec.ofChange fnExactOwnPatchesSpec)

/-- ITS FALSE NEIGHBOUR: 'it returns false'. Refute it at one input. -/
def fnExactOwnPatchesWrong : ChangeSpec := { name := "fnExactOwnPatches", fn := fun _ => fun
  | [d1, d2] => { results := [.lit (.bool false)], args := [d1, d2] }
  | _ => none }
def FnExactOwnPatchesWrongFalsely : Prop := fnExactOwnPatchesRow.holds Try.pinned (OpenSpec.ofChange fnExactOwnPatchesWrong)

/-- 'laws.FnExactOwnClean': WHATEVER THE INPUT: true; the input reads as it did. -/
def fnExactOwnCleanSpec : ChangeSpec := { name := "fnExactOwnClean", fn := fun _ => fun
  | [d1, d2] => { results := [.lit (.bool true)], args := [d1, d2] }
  | _ => none }
def fnExactOwnCleanRow : OpenClaim := { program := "ythionnhbnfblcaa", sum := "167135d83d6d9a3dcbb05d96b69c323c73ca7bc401d377a99d87593a1d778e0b", func := "loop.example/pannage/laws.FnExactOwnClean", spec := "fnExactOwnClean", unfollowed := true, recurses := true, apart := false }
def FnExactOwnCleanSaid : Prop := fnExactOwnCleanRow.holds Try.pinned (OpenSpec.ofChange fnExactOwnCleanSpec)

/-- ITS FALSE NEIGHBOUR: 'it returns false'. Refute it at one input. -/
def fnExactOwnCleanWrong : ChangeSpec := { name := "fnExactOwnClean", fn := fun _ => fun
  | [d1, d2] => { results := [.lit (.bool false)], args := [d1, d2] }
  | _ => none }
def FnExactOwnCleanWrongFalsely : Prop := fnExactOwnCleanRow.holds Try.pinned (OpenSpec.ofChange fnExactOwnCleanWrong)

/-- 'laws.FnExactOwnFill': WHATEVER THE INPUT: true; the input reads as it did. -/
def fnExactOwnFillSpec : ChangeSpec := { name := "fnExactOwnFill", fn := fun _ => fun
  | [d1, d2, d3] => { results := [.lit (.bool true)], args := [d1, d2, d3] }
  | _ => none }
def fnExactOwnFillRow : OpenClaim := { program := "ythionnhbnfblcaa", sum := "167135d83d6d9a3dcbb05d96b69c323c73ca7bc401d377a99d87593a1d778e0b", func := "loop.example/pannage/laws.FnExactOwnFill", spec := "fnExactOwnFill", unfollowed := true, recurses := true, apart := false }
def FnExactOwnFillSaid : Prop := fnExactOwnFillRow.holds Try.pinned (OpenSpec.ofChange fnExactOwnFillSpec)

/-- ITS FALSE NEIGHBOUR: 'it returns false'. Refute it at one input. -/
def fnExactOwnFillWrong : ChangeSpec := { name := "fnExactOwnFill", fn := fun _ => fun
  | [d1, d2, d3] => { results := [.lit (.bool false)], args := [d1, d2, d3] }
  | _ => none }
def FnExactOwnFillWrongFalsely : Prop := fnExactOwnFillRow.holds Try.pinned (OpenSpec.ofChange fnExactOwnFillWrong)

/-- 'laws.FnExactOwnDrop': WHATEVER THE INPUT: true; the input reads as it did. -/
def fnExactOwnDropSpec : ChangeSpec := { name := "fnExactOwnDrop", fn := fun _ => fun
  | [d1, d2] => { results := [.lit (.bool true)], args := [d1, d2] }
  | _ => none }
def fnExactOwnDropRow : OpenClaim := { program := "ythionnhbnfblcaa", sum := "167135d83d6d9a3dcbb05d96b69c323c73ca7bc401d377a99d87593a1d778e0b", func := "loop.example/pannage/laws.FnExactOwnDrop", spec := "fnExactOwnDrop", unfollowed := true, recurses := true, apart := false }
def FnExactOwnDropSaid : Prop := fnExactOwnDropRow.holds Try.pinned (OpenSpec.ofChange fnExactOwnDropSpec)

/-- ITS FALSE NEIGHBOUR: 'it returns false'. Refute it at one input. -/
def fnExactOwnDropWrong : ChangeSpec := { name := "fnExactOwnDrop", fn := fun _ => fun
  | [d1, d2] => { results := [.lit (.bool false)], args := [d1, d2] }
  | _ => none }
def FnExactOwnDropWrongFalsely : Prop := fnExactOwnDropRow.holds Try.pinned (OpenSpec.ofChange fnExactOwnDropWrong)

/-- 'laws.FnOwnSame': WHATEVER THE INPUT: true; the input reads as it did. -/
def fnOwnSameSpec : ChangeSpec := { name := "fnOwnSame", fn := fun _ => fun
  | [d] => { results := [.lit (.bool true)], args := [d] }
  | _ => none }
def fnOwnSameRow : OpenClaim := { program := "ythionnhbnfblcaa", sum := "167135d83d6d9a3dcbb05d96b69c323c73ca7bc401d377a99d87593a1d778e0b", func := "loop.example/pannage/laws.FnOwnSame", spec := "fnOwnSame", apart := false }
def FnOwnSameSaid : Prop := fnOwnSameRow.holds Try.pinned (OpenSpec.ofChange fnOwnSameSpec)

/-- ITS FALSE NEIGHBOUR: 'it returns false'. Refute it at one input. -/
def fnOwnSameWrong : ChangeSpec := { name := "fnOwnSame", fn := fun _ => fun
  | [d] => { results := [.lit (.bool false)], args := [d] }
  | _ => none }
def FnOwnSameWrongFalsely : Prop := fnOwnSameRow.holds Try.pinned (OpenSpec.ofChange fnOwnSameWrong)

/-- 'laws.FnOwnRead': WHATEVER THE INPUT: true; the input reads as it did. -/
def fnOwnReadSpec : ChangeSpec := { name := "fnOwnRead", fn := fun _ => fun
  | [d] => { results := [.lit (.bool true)], args := [d] }
  | _ => none }
def fnOwnReadRow : OpenClaim := { program := "ythionnhbnfblcaa", sum := "167135d83d6d9a3dcbb05d96b69c323c73ca7bc401d377a99d87593a1d778e0b", func := "loop.example/pannage/laws.FnOwnRead", spec := "fnOwnRead", apart := false }
def FnOwnReadSaid : Prop := fnOwnReadRow.holds Try.pinned (OpenSpec.ofChange fnOwnReadSpec)

/-- ITS FALSE NEIGHBOUR: 'it returns false'. Refute it at one input. -/
def fnOwnReadWrong : ChangeSpec := { name := "fnOwnRead", fn := fun _ => fun
  | [d] => { results := [.lit (.bool false)], args := [d] }
  | _ => none }
def FnOwnReadWrongFalsely : Prop := fnOwnReadRow.holds Try.pinned (OpenSpec.ofChange fnOwnReadWrong)

/-- 'laws.FnExactOwnWrite': WHATEVER THE INPUT: true; the input reads as it did. -/
def fnExactOwnWriteSpec : ChangeSpec := { name := "fnExactOwnWrite", fn := fun _ => fun
  | [d1, d2, d3] => { results := [.lit (.bool true)], args := [d1, d2, d3] }
  | _ => none }
def fnExactOwnWriteRow : OpenClaim := { program := "ythionnhbnfblcaa", sum := "167135d83d6d9a3dcbb05d96b69c323c73ca7bc401d377a99d87593a1d778e0b", func := "loop.example/pannage/laws.FnExactOwnWrite", spec := "fnExactOwnWrite", inPlace := ["internal/abi.NoEscape", "internal/bytealg.MakeNoZero"], unfollowed := true, recurses := true, apart := false }
def FnExactOwnWriteSaid : Prop := fnExactOwnWriteRow.holds Try.pinned (OpenSpec.ofChange fnExactOwnWriteSpec)

/-- ITS FALSE NEIGHBOUR: 'it returns false'. Refute it at one input. -/
def fnExactOwnWriteWrong : ChangeSpec := { name := "fnExactOwnWrite", fn := fun _ => fun
  | [d1, d2, d3] => { results := [.lit (.bool false)], args := [d1, d2, d3] }
  | _ => none }
def FnExactOwnWriteWrongFalsely : Prop := fnExactOwnWriteRow.holds Try.pinned (OpenSpec.ofChange fnExactOwnWriteWrong)

/- THE SECOND FORM. 'bulk': how many values and letters a reading holds, each counted each time it is reached (what is shared counts as often as it is met; a slice's spare places count too). A statement '..UptoSaid' is the law's where the arguments, and the package variables that the reading takes, are together of bulk at most 1048576: NARROWER than '..Said'. Prove '..Said' where nothing that the law and all that it calls make is longer than what came in: it says more and counts as full. Else prove '..UptoSaid'. A law counts once. -/
mutual
def uptoBulk {H : Type} : DataW H → Nat
  | .lit (.string bytes) => bytes.length + 1
  | .lit _ => 1
  | .nil => 1
  | .ptr d => uptoBulk d + 1
  | .slice elems spare => uptoBulkAll elems + uptoBulkAll spare + 1
  | .agg parts => uptoBulkAll parts + 1
  | .iface _ d => uptoBulk d + 1
  | .map entries => uptoBulkEntries entries + 1
  | .held _ => 1
def uptoBulkAll {H : Type} : List (DataW H) → Nat
  | [] => 0
  | d :: r => uptoBulk d + uptoBulkAll r
def uptoBulkEntries {H : Type} : List (Lit × DataW H) → Nat
  | [] => 0
  | x :: r => uptoBulkEntry x + uptoBulkEntries r
def uptoBulkEntry {H : Type} : Lit × DataW H → Nat
  | (.string bytes, d) => bytes.length + uptoBulk d + 1
  | (_, d) => uptoBulk d + 1
 end
def uptoSmall : (H : Type) → List (DataW H) → Bool := fun _ ds => decide (uptoBulkAll ds ≤ 1048576)
def OpenSpec.upto (s : _root_.Go.ChangeSpec) : _root_.Go.OpenSpec := { _root_.Go.OpenSpec.ofChange s with cond := some uptoSmall }

/-- 'laws.FnExactOwnSame', WHERE WHAT IT READS IS OF BULK AT MOST 1048576: true; the input reads as it did. -/
def fnExactOwnSameUptoRow : OpenClaim := { program := "ythionnhbnfblcaa", sum := "167135d83d6d9a3dcbb05d96b69c323c73ca7bc401d377a99d87593a1d778e0b", func := "loop.example/pannage/laws.FnExactOwnSame", spec := "fnExactOwnSame", apart := false, narrowed := true }
def FnExactOwnSameUptoSaid : Prop := fnExactOwnSameUptoRow.holds Try.pinned (OpenSpec.upto fnExactOwnSameSpec)

/-- 'laws.FnExactOwnOk', WHERE WHAT IT READS IS OF BULK AT MOST 1048576: true; the input reads as it did. -/
def fnExactOwnOkUptoRow : OpenClaim := { program := "ythionnhbnfblcaa", sum := "167135d83d6d9a3dcbb05d96b69c323c73ca7bc401d377a99d87593a1d778e0b", func := "loop.example/pannage/laws.FnExactOwnOk", spec := "fnExactOwnOk", apart := false, narrowed := true }
def FnExactOwnOkUptoSaid : Prop := fnExactOwnOkUptoRow.holds Try.pinned (OpenSpec.upto fnExactOwnOkSpec)

/-- 'laws.FnExactOwnRead', WHERE WHAT IT READS IS OF BULK AT MOST 1048576: true; the input reads as it did. -/
def fnExactOwnReadUptoRow : OpenClaim := { program := "ythionnhbnfblcaa", sum := "167135d83d6d9a3dcbb05d96b69c323c73ca7bc401d377a99d87593a1d778e0b", func := "loop.example/pannage/laws.FnExactOwnRead", spec := "fnExactOwnRead", apart := false, narrowed := true }
def FnExactOwnReadUptoSaid : Prop := fnExactOwnReadUptoRow.holds Try.pinned (OpenSpec.upto fnExactOwnReadSpec)

/-- 'laws.FnExactOwnPatches', WHERE WHAT IT READS IS OF BULK AT MOST 1048576: true; the input reads as it did. -/
def fnExactOwnPatchesUptoRow : OpenClaim := { program := "ythionnhbnfblcaa", sum := "167135d83d6d9a3dcbb05d96b69c323c73ca7bc401d377a99d87593a1d778e0b", func := "loop.example/pannage/laws.FnExactOwnPatches", spec := "fnExactOwnPatches", apart := false, narrowed := true }
def FnExactOwnPatchesUptoSaid : Prop := fnExactOwnPatchesUptoRow.holds Try.pinned (OpenSpec.upto fnExactOwnPatchesSpec)

/-- 'laws.FnExactOwnClean', WHERE WHAT IT READS IS OF BULK AT MOST 1048576: true; the input reads as it did. -/
def fnExactOwnCleanUptoRow : OpenClaim := { program := "ythionnhbnfblcaa", sum := "167135d83d6d9a3dcbb05d96b69c323c73ca7bc401d377a99d87593a1d778e0b", func := "loop.example/pannage/laws.FnExactOwnClean", spec := "fnExactOwnClean", unfollowed := true, recurses := true, apart := false, narrowed := true }
def FnExactOwnCleanUptoSaid : Prop := fnExactOwnCleanUptoRow.holds Try.pinned (OpenSpec.upto fnExactOwnCleanSpec)

/-- 'laws.FnExactOwnFill', WHERE WHAT IT READS IS OF BULK AT MOST 1048576: true; the input reads as it did. -/
def fnExactOwnFillUptoRow : OpenClaim := { program := "ythionnhbnfblcaa", sum := "167135d83d6d9a3dcbb05d96b69c323c73ca7bc401d377a99d87593a1d778e0b", func := "loop.example/pannage/laws.FnExactOwnFill", spec := "fnExactOwnFill", unfollowed := true, recurses := true, apart := false, narrowed := true }
def FnExactOwnFillUptoSaid : Prop := fnExactOwnFillUptoRow.holds Try.pinned (OpenSpec.upto fnExactOwnFillSpec)

/-- 'laws.FnExactOwnDrop', WHERE WHAT IT READS IS OF BULK AT MOST 1048576: true; the input reads as it did. -/
def fnExactOwnDropUptoRow : OpenClaim := { program := "ythionnhbnfblcaa", sum := "167135d83d6d9a3dcbb05d96b69c323c73ca7bc401d377a99d87593a1d778e0b", func := "loop.example/pannage/laws.FnExactOwnDrop", spec := "fnExactOwnDrop", unfollowed := true, recurses := true, apart := false, narrowed := true }
def FnExactOwnDropUptoSaid : Prop := fnExactOwnDropUptoRow.holds Try.pinned (OpenSpec.upto fnExactOwnDropSpec)

/-- 'laws.FnOwnSame', WHERE WHAT IT READS IS OF BULK AT MOST 1048576: true; the input reads as it did. -/
def fnOwnSameUptoRow : OpenClaim := { program := "ythionnhbnfblcaa", sum := "167135d83d6d9a3dcbb05d96b69c323c73ca7bc401d377a99d87593a1d778e0b", func := "loop.example/pannage/laws.FnOwnSame", spec := "fnOwnSame", apart := false, narrowed := true }
def FnOwnSameUptoSaid : Prop := fnOwnSameUptoRow.holds Try.pinned (OpenSpec.upto fnOwnSameSpec)

/-- 'laws.FnOwnRead', WHERE WHAT IT READS IS OF BULK AT MOST 1048576: true; the input reads as it did. -/
def fnOwnReadUptoRow : OpenClaim := { program := "ythionnhbnfblcaa", sum := "167135d83d6d9a3dcbb05d96b69c323c73ca7bc401d377a99d87593a1d778e0b", func := "loop.example/pannage/laws.FnOwnRead", spec := "fnOwnRead", apart := false, narrowed := true }
def FnOwnReadUptoSaid : Prop := fnOwnReadUptoRow.holds Try.pinned (OpenSpec.upto fnOwnReadSpec)

/-- 'laws.FnExactOwnWrite', WHERE WHAT IT READS IS OF BULK AT MOST 1048576: true; the input reads as it did. -/
def fnExactOwnWriteUptoRow : OpenClaim := { program := "ythionnhbnfblcaa", sum := "167135d83d6d9a3dcbb05d96b69c323c73ca7bc401d377a99d87593a1d778e0b", func := "loop.example/pannage/laws.FnExactOwnWrite", spec := "fnExactOwnWrite", inPlace := ["internal/abi.NoEscape", "internal/bytealg.MakeNoZero"], unfollowed := true, recurses := true, apart := false, narrowed := true }
def FnExactOwnWriteUptoSaid : Prop := fnExactOwnWriteUptoRow.holds Try.pinned (OpenSpec.upto fnExactOwnWriteSpec)

end Rows
end Go.Proofs.Ythionnhbnfblcaa

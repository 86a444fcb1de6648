/-
  No cell of these rows narrows 'for every input' (looked for: loops, veiled, ifaces, maps, wideKeys, modest, calm, conditions, laid).
  DERIVED. THE GIVEN ROWS OF THIS SEAT. 11 by the template 'for every input the law returns true; each argument reads behind the call as it read before'; 0 by the template 'total and deterministic' (their statements: YtbgehlihpkefmaaTotals.lean).
  GIVEN WITH THE SEED: the statements are not yours to turn. If you find one false, say at which input.
  Laid BY PROGRAM, IN A SANDBOX (cutbox-rows.mjs): the forced cells as the released guide's own fill.sh prints them over the translation cff38e1e68ce160f… (all of the seat's roots in one cut). By AI agents, Wed Nov 11 2026. No macro, syntax, notation, axiom, sorry.
-/
import Derived.Test.YtbgehlihpkefmaaChecked
import GoSem.Claim
import GoSem.ClaimJoined
import GoSem.ClaimMapViews
import Derived.JoinedTies
import Derived.KernelRfl
namespace Go.Proofs.Ytbgehlihpkefmaa
/- THE CELL 'sum', in the pinned program and in every row, IS THE sha256 OF THE DUMP (.gsa) THAT YtbgehlihpkefmaaProg.lean LOADS. Nothing in Lean hashes anything: it is a label: what it is worth is what the hold of that sum in a sandbox is worth. -/
noncomputable def Try.pinned : Pinned := { name := "ytbgehlihpkefmaa", sum := "cff38e1e68ce160fe44c912a81d0e37dd54b6228886e426d45f0298a3b1e3f53", checked := Try.checked }
namespace Rows
def none {H : Type} : Left H := { results := [], args := [] }

/-- 'laws.FnLockOne': WHATEVER THE INPUT: true; the input reads as it did. -/
def fnLockOneSpec : ChangeSpec := { name := "fnLockOne", fn := fun _ => fun
  | [d] => { results := [.lit (.bool true)], args := [d] }
  | _ => none }
def fnLockOneRow : OpenClaim := { program := "ytbgehlihpkefmaa", sum := "cff38e1e68ce160fe44c912a81d0e37dd54b6228886e426d45f0298a3b1e3f53", func := "loop.example/pannage/laws.FnLockOne", spec := "fnLockOne", apart := false }
def FnLockOneSaid : Prop := fnLockOneRow.holds Try.pinned (OpenSpec.ofChange fnLockOneSpec)

/-- ITS FALSE NEIGHBOUR: 'it returns false'. Refute it at one input. -/
def fnLockOneWrong : ChangeSpec := { name := "fnLockOne", fn := fun _ => fun
  | [d] => { results := [.lit (.bool false)], args := [d] }
  | _ => none }
def FnLockOneWrongFalsely : Prop := fnLockOneRow.holds Try.pinned (OpenSpec.ofChange fnLockOneWrong)

/-- 'laws.FnLockLess': WHATEVER THE INPUT: true; the input reads as it did. -/
def fnLockLessSpec : ChangeSpec := { name := "fnLockLess", fn := fun _ => fun
  | [d1, d2] => { results := [.lit (.bool true)], args := [d1, d2] }
  | _ => none }
def fnLockLessRow : OpenClaim := { program := "ytbgehlihpkefmaa", sum := "cff38e1e68ce160fe44c912a81d0e37dd54b6228886e426d45f0298a3b1e3f53", func := "loop.example/pannage/laws.FnLockLess", spec := "fnLockLess", apart := false }
def FnLockLessSaid : Prop := fnLockLessRow.holds Try.pinned (OpenSpec.ofChange fnLockLessSpec)

/-- ITS FALSE NEIGHBOUR: 'it returns false'. Refute it at one input. -/
def fnLockLessWrong : ChangeSpec := { name := "fnLockLess", fn := fun _ => fun
  | [d1, d2] => { results := [.lit (.bool false)], args := [d1, d2] }
  | _ => none }
def FnLockLessWrongFalsely : Prop := fnLockLessRow.holds Try.pinned (OpenSpec.ofChange fnLockLessWrong)

/-- 'laws.FnLockSame': WHATEVER THE INPUT: true; the input reads as it did. -/
def fnLockSameSpec : ChangeSpec := { name := "fnLockSame", fn := fun _ => fun
  | [d] => { results := [.lit (.bool true)], args := [d] }
  | _ => none }
def fnLockSameRow : OpenClaim := { program := "ytbgehlihpkefmaa", sum := "cff38e1e68ce160fe44c912a81d0e37dd54b6228886e426d45f0298a3b1e3f53", func := "loop.example/pannage/laws.FnLockSame", spec := "fnLockSame", unfollowed := true, recurses := true, apart := false }
def FnLockSameSaid : Prop := fnLockSameRow.holds Try.pinned (OpenSpec.ofChange fnLockSameSpec)

/-- ITS FALSE NEIGHBOUR: 'it returns false'. Refute it at one input. -/
def fnLockSameWrong : ChangeSpec := { name := "fnLockSame", fn := fun _ => fun
  | [d] => { results := [.lit (.bool false)], args := [d] }
  | _ => none }
def FnLockSameWrongFalsely : Prop := fnLockSameRow.holds Try.pinned (OpenSpec.ofChange fnLockSameWrong)

/-- 'laws.FnLockDrop': WHATEVER THE INPUT: true; the input reads as it did. -/
def fnLockDropSpec : ChangeSpec := { name := "fnLockDrop", fn := fun _ => fun
  | [d] => { results := [.lit (.bool true)], args := [d] }
  | _ => none }
def fnLockDropRow : OpenClaim := { program := "ytbgehlihpkefmaa", sum := "cff38e1e68ce160fe44c912a81d0e37dd54b6228886e426d45f0298a3b1e3f53", func := "loop.example/pannage/laws.FnLockDrop", spec := "fnLockDrop", unfollowed := true, recurses := true, apart := false }
def FnLockDropSaid : Prop := fnLockDropRow.holds Try.pinned (OpenSpec.ofChange fnLockDropSpec)

/-- ITS FALSE NEIGHBOUR: 'it returns false'. Refute it at one input. -/
def fnLockDropWrong : ChangeSpec := { name := "fnLockDrop", fn := fun _ => fun
  | [d] => { results := [.lit (.bool false)], args := [d] }
  | _ => none }
def FnLockDropWrongFalsely : Prop := fnLockDropRow.holds Try.pinned (OpenSpec.ofChange fnLockDropWrong)

/-- 'laws.FnLockOff': WHATEVER THE INPUT: true; the input reads as it did. -/
def fnLockOffSpec : ChangeSpec := { name := "fnLockOff", fn := fun _ => fun
  | [d] => { results := [.lit (.bool true)], args := [d] }
  | _ => none }
def fnLockOffRow : OpenClaim := { program := "ytbgehlihpkefmaa", sum := "cff38e1e68ce160fe44c912a81d0e37dd54b6228886e426d45f0298a3b1e3f53", func := "loop.example/pannage/laws.FnLockOff", spec := "fnLockOff", unfollowed := true, recurses := true, apart := false }
def FnLockOffSaid : Prop := fnLockOffRow.holds Try.pinned (OpenSpec.ofChange fnLockOffSpec)

/-- ITS FALSE NEIGHBOUR: 'it returns false'. Refute it at one input. -/
def fnLockOffWrong : ChangeSpec := { name := "fnLockOff", fn := fun _ => fun
  | [d] => { results := [.lit (.bool false)], args := [d] }
  | _ => none }
def FnLockOffWrongFalsely : Prop := fnLockOffRow.holds Try.pinned (OpenSpec.ofChange fnLockOffWrong)

/-- 'laws.FnLockAgain': WHATEVER THE INPUT: true; the input reads as it did. -/
def fnLockAgainSpec : ChangeSpec := { name := "fnLockAgain", fn := fun _ => fun
  | [d] => { results := [.lit (.bool true)], args := [d] }
  | _ => none }
def fnLockAgainRow : OpenClaim := { program := "ytbgehlihpkefmaa", sum := "cff38e1e68ce160fe44c912a81d0e37dd54b6228886e426d45f0298a3b1e3f53", func := "loop.example/pannage/laws.FnLockAgain", spec := "fnLockAgain", unfollowed := true, recurses := true, apart := false }
def FnLockAgainSaid : Prop := fnLockAgainRow.holds Try.pinned (OpenSpec.ofChange fnLockAgainSpec)

/-- ITS FALSE NEIGHBOUR: 'it returns false'. Refute it at one input. -/
def fnLockAgainWrong : ChangeSpec := { name := "fnLockAgain", fn := fun _ => fun
  | [d] => { results := [.lit (.bool false)], args := [d] }
  | _ => none }
def FnLockAgainWrongFalsely : Prop := fnLockAgainRow.holds Try.pinned (OpenSpec.ofChange fnLockAgainWrong)

/-- 'laws.FnLockBars': WHATEVER THE INPUT: true; the input reads as it did. -/
def fnLockBarsSpec : ChangeSpec := { name := "fnLockBars", fn := fun _ => fun
  | [d] => { results := [.lit (.bool true)], args := [d] }
  | _ => none }
def fnLockBarsRow : OpenClaim := { program := "ytbgehlihpkefmaa", sum := "cff38e1e68ce160fe44c912a81d0e37dd54b6228886e426d45f0298a3b1e3f53", func := "loop.example/pannage/laws.FnLockBars", spec := "fnLockBars", unfollowed := true, recurses := true, apart := false }
def FnLockBarsSaid : Prop := fnLockBarsRow.holds Try.pinned (OpenSpec.ofChange fnLockBarsSpec)

/-- ITS FALSE NEIGHBOUR: 'it returns false'. Refute it at one input. -/
def fnLockBarsWrong : ChangeSpec := { name := "fnLockBars", fn := fun _ => fun
  | [d] => { results := [.lit (.bool false)], args := [d] }
  | _ => none }
def FnLockBarsWrongFalsely : Prop := fnLockBarsRow.holds Try.pinned (OpenSpec.ofChange fnLockBarsWrong)

/-- 'laws.FnLockTurn': WHATEVER THE INPUT: true; the input reads as it did. -/
def fnLockTurnSpec : ChangeSpec := { name := "fnLockTurn", fn := fun _ => fun
  | [d1, d2] => { results := [.lit (.bool true)], args := [d1, d2] }
  | _ => none }
def fnLockTurnRow : OpenClaim := { program := "ytbgehlihpkefmaa", sum := "cff38e1e68ce160fe44c912a81d0e37dd54b6228886e426d45f0298a3b1e3f53", func := "loop.example/pannage/laws.FnLockTurn", spec := "fnLockTurn", unfollowed := true, recurses := true, apart := false }
def FnLockTurnSaid : Prop := fnLockTurnRow.holds Try.pinned (OpenSpec.ofChange fnLockTurnSpec)

/-- ITS FALSE NEIGHBOUR: 'it returns false'. Refute it at one input. -/
def fnLockTurnWrong : ChangeSpec := { name := "fnLockTurn", fn := fun _ => fun
  | [d1, d2] => { results := [.lit (.bool false)], args := [d1, d2] }
  | _ => none }
def FnLockTurnWrongFalsely : Prop := fnLockTurnRow.holds Try.pinned (OpenSpec.ofChange fnLockTurnWrong)

/-- 'laws.FnLockNone': WHATEVER THE INPUT: true; the input reads as it did. -/
def fnLockNoneSpec : ChangeSpec := { name := "fnLockNone", fn := fun _ => fun
  | [d] => { results := [.lit (.bool true)], args := [d] }
  | _ => none }
def fnLockNoneRow : OpenClaim := { program := "ytbgehlihpkefmaa", sum := "cff38e1e68ce160fe44c912a81d0e37dd54b6228886e426d45f0298a3b1e3f53", func := "loop.example/pannage/laws.FnLockNone", spec := "fnLockNone", unfollowed := true, recurses := true, apart := false }
def FnLockNoneSaid : Prop := fnLockNoneRow.holds Try.pinned (OpenSpec.ofChange fnLockNoneSpec)

/-- ITS FALSE NEIGHBOUR: 'it returns false'. Refute it at one input. -/
def fnLockNoneWrong : ChangeSpec := { name := "fnLockNone", fn := fun _ => fun
  | [d] => { results := [.lit (.bool false)], args := [d] }
  | _ => none }
def FnLockNoneWrongFalsely : Prop := fnLockNoneRow.holds Try.pinned (OpenSpec.ofChange fnLockNoneWrong)

/-- 'laws.FnLockDown': WHATEVER THE INPUT: true; the input reads as it did. -/
def fnLockDownSpec : ChangeSpec := { name := "fnLockDown", fn := fun _ => fun
  | [d] => { results := [.lit (.bool true)], args := [d] }
  | _ => none }
def fnLockDownRow : OpenClaim := { program := "ytbgehlihpkefmaa", sum := "cff38e1e68ce160fe44c912a81d0e37dd54b6228886e426d45f0298a3b1e3f53", func := "loop.example/pannage/laws.FnLockDown", spec := "fnLockDown", unfollowed := true, recurses := true, apart := false }
def FnLockDownSaid : Prop := fnLockDownRow.holds Try.pinned (OpenSpec.ofChange fnLockDownSpec)

/-- ITS FALSE NEIGHBOUR: 'it returns false'. Refute it at one input. -/
def fnLockDownWrong : ChangeSpec := { name := "fnLockDown", fn := fun _ => fun
  | [d] => { results := [.lit (.bool false)], args := [d] }
  | _ => none }
def FnLockDownWrongFalsely : Prop := fnLockDownRow.holds Try.pinned (OpenSpec.ofChange fnLockDownWrong)

/-- 'laws.FnLockGive': WHATEVER THE INPUT: true; the input reads as it did. -/
def fnLockGiveSpec : ChangeSpec := { name := "fnLockGive", fn := fun _ => fun
  | [d] => { results := [.lit (.bool true)], args := [d] }
  | _ => none }
def fnLockGiveRow : OpenClaim := { program := "ytbgehlihpkefmaa", sum := "cff38e1e68ce160fe44c912a81d0e37dd54b6228886e426d45f0298a3b1e3f53", func := "loop.example/pannage/laws.FnLockGive", spec := "fnLockGive", unfollowed := true, recurses := true, apart := false }
def FnLockGiveSaid : Prop := fnLockGiveRow.holds Try.pinned (OpenSpec.ofChange fnLockGiveSpec)

/-- ITS FALSE NEIGHBOUR: 'it returns false'. Refute it at one input. -/
def fnLockGiveWrong : ChangeSpec := { name := "fnLockGive", fn := fun _ => fun
  | [d] => { results := [.lit (.bool false)], args := [d] }
  | _ => none }
def FnLockGiveWrongFalsely : Prop := fnLockGiveRow.holds Try.pinned (OpenSpec.ofChange fnLockGiveWrong)

/- THE SECOND FORM. 'bulk': how many values and letters a reading holds, each counted each time it is reached (what is shared counts as often as it is met; a slice's spare places count too). A statement '..UptoSaid' is the law's where the arguments, and the package variables that the reading takes, are together of bulk at most 1048576: NARROWER than '..Said'. Prove '..Said' where nothing that the law and all that it calls make is longer than what came in: it says more and counts as full. Else prove '..UptoSaid'. A law counts once. -/
mutual
def uptoBulk {H : Type} : DataW H → Nat
  | .lit (.string bytes) => bytes.length + 1
  | .lit _ => 1
  | .nil => 1
  | .ptr d => uptoBulk d + 1
  | .slice elems spare => uptoBulkAll elems + uptoBulkAll spare + 1
  | .agg parts => uptoBulkAll parts + 1
  | .iface _ d => uptoBulk d + 1
  | .map entries => uptoBulkEntries entries + 1
  | .held _ => 1
def uptoBulkAll {H : Type} : List (DataW H) → Nat
  | [] => 0
  | d :: r => uptoBulk d + uptoBulkAll r
def uptoBulkEntries {H : Type} : List (Lit × DataW H) → Nat
  | [] => 0
  | x :: r => uptoBulkEntry x + uptoBulkEntries r
def uptoBulkEntry {H : Type} : Lit × DataW H → Nat
  | (.string bytes, d) => bytes.length + uptoBulk d + 1
  | (_, d) => uptoBulk d + 1
 end
def uptoSmall : (H : Type) → List (DataW H) → Bool := fun _ ds => decide (uptoBulkAll ds ≤ 1048576)
def OpenSpec.upto (s : _root_.Go.ChangeSpec) : _root_.Go.OpenSpec := { _root_.Go.OpenSpec.ofChange s with cond := some uptoSmall }

/-- 'laws.FnLockOne', WHERE WHAT IT READS IS OF BULK AT MOST 1048576: true; the input reads as it did. -/
def fnLockOneUptoRow : OpenClaim := { program := "ytbgehlihpkefmaa", sum := "cff38e1e68ce160fe44c912a81d0e37dd54b6228886e426d45f0298a3b1e3f53", func := "loop.example/pannage/laws.FnLockOne", spec := "fnLockOne", apart := false, narrowed := true }
def FnLockOneUptoSaid : Prop := fnLockOneUptoRow.holds Try.pinned (OpenSpec.upto fnLockOneSpec)

/-- 'laws.FnLockLess', WHERE WHAT IT READS IS OF BULK AT MOST 1048576: true; the input reads as it did. -/
def fnLockLessUptoRow : OpenClaim := { program := "ytbgehlihpkefmaa", sum := "cff38e1e68ce160fe44c912a81d0e37dd54b6228886e426d45f0298a3b1e3f53", func := "loop.example/pannage/laws.FnLockLess", spec := "fnLockLess", apart := false, narrowed := true }
def FnLockLessUptoSaid : Prop := fnLockLessUptoRow.holds Try.pinned (OpenSpec.upto fnLockLessSpec)

/-- 'laws.FnLockSame', WHERE WHAT IT READS IS OF BULK AT MOST 1048576: true; the input reads as it did. -/
def fnLockSameUptoRow : OpenClaim := { program := "ytbgehlihpkefmaa", sum := "cff38e1e68ce160fe44c912a81d0e37dd54b6228886e426d45f0298a3b1e3f53", func := "loop.example/pannage/laws.FnLockSame", spec := "fnLockSame", unfollowed := true, recurses := true, apart := false, narrowed := true }
def FnLockSameUptoSaid : Prop := fnLockSameUptoRow.holds Try.pinned (OpenSpec.upto fnLockSameSpec)

/-- 'laws.FnLockDrop', WHERE WHAT IT READS IS OF BULK AT MOST 1048576: true; the input reads as it did. -/
def fnLockDropUptoRow : OpenClaim := { program := "ytbgehlihpkefmaa", sum := "cff38e1e68ce160fe44c912a81d0e37dd54b6228886e426d45f0298a3b1e3f53", func := "loop.example/pannage/laws.FnLockDrop", spec := "fnLockDrop", unfollowed := true, recurses := true, apart := false, narrowed := true }
def FnLockDropUptoSaid : Prop := fnLockDropUptoRow.holds Try.pinned (OpenSpec.upto fnLockDropSpec)

/-- 'laws.FnLockOff', WHERE WHAT IT READS IS OF BULK AT MOST 1048576: true; the input reads as it did. -/
def fnLockOffUptoRow : OpenClaim := { program := "ytbgehlihpkefmaa", sum := "cff38e1e68ce160fe44c912a81d0e37dd54b6228886e426d45f0298a3b1e3f53", func := "loop.example/pannage/laws.FnLockOff", spec := "fnLockOff", unfollowed := true, recurses := true, apart := false, narrowed := true }
def FnLockOffUptoSaid : Prop := fnLockOffUptoRow.holds Try.pinned (OpenSpec.upto fnLockOffSpec)

/-- 'laws.FnLockAgain', WHERE WHAT IT READS IS OF BULK AT MOST 1048576: true; the input reads as it did. -/
def fnLockAgainUptoRow : OpenClaim := { program := "ytbgehlihpkefmaa", sum := "cff38e1e68ce160fe44c912a81d0e37dd54b6228886e426d45f0298a3b1e3f53", func := "loop.example/pannage/laws.FnLockAgain", spec := "fnLockAgain", unfollowed := true, recurses := true, apart := false, narrowed := true }
def FnLockAgainUptoSaid : Prop := fnLockAgainUptoRow.holds Try.pinned (OpenSpec.upto fnLockAgainSpec)

/-- 'laws.FnLockBars', WHERE WHAT IT READS IS OF BULK AT MOST 1048576: true; the input reads as it did. -/
def fnLockBarsUptoRow : OpenClaim := { program := "ytbgehlihpkefmaa", sum := "cff38e1e68ce160fe44c912a81d0e37dd54b6228886e426d45f0298a3b1e3f53", func := "loop.example/pannage/laws.FnLockBars", spec := "fnLockBars", unfollowed := true, recurses := true, apart := false, narrowed := true }
def FnLockBarsUptoSaid : Prop := fnLockBarsUptoRow.holds Try.pinned (OpenSpec.upto fnLockBarsSpec)

/-- 'laws.FnLockTurn', WHERE WHAT IT READS IS OF BULK AT MOST 1048576: true; the input reads as it did. -/
def fnLockTurnUptoRow : OpenClaim := { program := "ytbgehlihpkefmaa", sum := "cff38e1e68ce160fe44c912a81d0e37dd54b6228886e426d45f0298a3b1e3f53", func := "loop.example/pannage/laws.FnLockTurn", spec := "fnLockTurn", unfollowed := true, recurses := true, apart := false, narrowed := true }
def FnLockTurnUptoSaid : Prop := fnLockTurnUptoRow.holds Try.pinned (OpenSpec.upto fnLockTurnSpec)

/-- 'laws.FnLockNone', WHERE WHAT IT READS IS OF BULK AT MOST 1048576: true; the input reads as it did. -/
def fnLockNoneUptoRow : OpenClaim := { program := "ytbgehlihpkefmaa", sum := "cff38e1e68ce160fe44c912a81d0e37dd54b6228886e426d45f0298a3b1e3f53", func := "loop.example/pannage/laws.FnLockNone", spec := "fnLockNone", unfollowed := true, recurses := true, apart := false, narrowed := true }
def FnLockNoneUptoSaid : Prop := fnLockNoneUptoRow.holds Try.pinned (OpenSpec.upto fnLockNoneSpec)

/-- 'laws.FnLockDown', WHERE WHAT IT READS IS OF BULK AT MOST 1048576: true; the input reads as it did. -/
def fnLockDownUptoRow : OpenClaim := { program := "ytbgehlihpkefmaa", sum := "cff38e1e68ce160fe44c912a81d0e37dd54b6228886e426d45f0298a3b1e3f53", func := "loop.example/pannage/laws.FnLockDown", spec := "fnLockDown", unfollowed := true, recurses := true, apart := false, narrowed := true }
def FnLockDownUptoSaid : Prop := fnLockDownUptoRow.holds Try.pinned (OpenSpec.upto fnLockDownSpec)

/-- 'laws.FnLockGive', WHERE WHAT IT READS IS OF BULK AT MOST 1048576: true; the input reads as it did. -/
def fnLockGiveUptoRow : OpenClaim := { program := "ytbgehlihpkefmaa", sum := "cff38e1e68ce160fe44c912a81d0e37dd54b6228886e426d45f0298a3b1e3f53", func := "loop.example/pannage/laws.FnLockGive", spec := "fnLockGive", unfollowed := true, recurses := true, apart := false, narrowed := true }
def FnLockGiveUptoSaid : Prop := fnLockGiveUptoRow.holds Try.pinned (OpenSpec.upto fnLockGiveSpec)

end Rows
end Go.Proofs.Ytbgehlihpkefmaa

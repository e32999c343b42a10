/-
  No cell of these rows narrows 'for every input' (looked for: loops, veiled, ifaces, maps, wideKeys, modest, calm, conditions, laid).
  DERIVED. THE GIVEN ROWS OF THIS SEAT. 13 by the template 'for every input the law returns true; each argument reads behind the call as it read before'; 0 by the template 'total and deterministic' (their statements: YtgahnhncmjgenaaTotals.lean).
  GIVEN WITH THE SEED: the statements are not yours to turn. If you find one false, say at which input.
  Laid BY PROGRAM, IN A SANDBOX (cutbox-rows.mjs): the forced cells as the released guide's own fill.sh prints them over the translation 25295584a0f07dfc… (all of the seat's roots in one cut). By AI agents, Wed Nov 11 2026. No macro, syntax, notation, axiom, sorry.
-/
import Derived.Test.YtgahnhncmjgenaaChecked
import GoSem.Claim
import GoSem.ClaimJoined
import GoSem.ClaimMapViews
import Derived.JoinedTies
import Derived.KernelRfl
namespace Go.Proofs.Ytgahnhncmjgenaa
/- THE CELL 'sum', in the pinned program and in every row, IS THE sha256 OF THE DUMP (.gsa) THAT YtgahnhncmjgenaaProg.lean LOADS. Nothing in Lean hashes anything: it is a label: what it is worth is what the hold of that sum in a sandbox is worth. -/
noncomputable def Try.pinned : Pinned := { name := "ytgahnhncmjgenaa", sum := "25295584a0f07dfc1a747c3475995fe20e8cb5719f5acadbff64987bb8eb0798", checked := Try.checked }
namespace Rows
def none {H : Type} : Left H := { results := [], args := [] }

/-- 'laws.FnExactHeadOk': WHATEVER THE INPUT: true; the input reads as it did. -/
def fnExactHeadOkSpec : ChangeSpec := { name := "fnExactHeadOk", fn := fun _ => fun
  | [d] => { results := [.lit (.bool true)], args := [d] }
  | _ => none }
def fnExactHeadOkRow : OpenClaim := { program := "ytgahnhncmjgenaa", sum := "25295584a0f07dfc1a747c3475995fe20e8cb5719f5acadbff64987bb8eb0798", func := "loop.example/lamson/laws.FnExactHeadOk", spec := "fnExactHeadOk", inPlace := ["internal/bytealg.IndexByteString"], unfollowed := true, recurses := true, apart := false }
def FnExactHeadOkSaid : Prop := fnExactHeadOkRow.holds Try.pinned (OpenSpec.ofChange fnExactHeadOkSpec)

/-- ITS FALSE NEIGHBOUR: 'it returns false'. Refute it at one input. -/
def fnExactHeadOkWrong : ChangeSpec := { name := "fnExactHeadOk", fn := fun _ => fun
  | [d] => { results := [.lit (.bool false)], args := [d] }
  | _ => none }
def FnExactHeadOkWrongFalsely : Prop := fnExactHeadOkRow.holds Try.pinned (OpenSpec.ofChange fnExactHeadOkWrong)

/-- 'laws.FnHeadLess': WHATEVER THE INPUT: true; the input reads as it did. -/
def fnHeadLessSpec : ChangeSpec := { name := "fnHeadLess", fn := fun _ => fun
  | [d1, d2] => { results := [.lit (.bool true)], args := [d1, d2] }
  | _ => none }
def fnHeadLessRow : OpenClaim := { program := "ytgahnhncmjgenaa", sum := "25295584a0f07dfc1a747c3475995fe20e8cb5719f5acadbff64987bb8eb0798", func := "loop.example/lamson/laws.FnHeadLess", spec := "fnHeadLess", inPlace := ["internal/bytealg.IndexByteString"], unfollowed := true, recurses := true, apart := false }
def FnHeadLessSaid : Prop := fnHeadLessRow.holds Try.pinned (OpenSpec.ofChange fnHeadLessSpec)

/-- ITS FALSE NEIGHBOUR: 'it returns false'. Refute it at one input. -/
def fnHeadLessWrong : ChangeSpec := { name := "fnHeadLess", fn := fun _ => fun
  | [d1, d2] => { results := [.lit (.bool false)], args := [d1, d2] }
  | _ => none }
def FnHeadLessWrongFalsely : Prop := fnHeadLessRow.holds Try.pinned (OpenSpec.ofChange fnHeadLessWrong)

/-- 'laws.FnExactHeadGet': WHATEVER THE INPUT: true; the input reads as it did. -/
def fnExactHeadGetSpec : ChangeSpec := { name := "fnExactHeadGet", fn := fun _ => fun
  | [d1, d2] => { results := [.lit (.bool true)], args := [d1, d2] }
  | _ => none }
def fnExactHeadGetRow : OpenClaim := { program := "ytgahnhncmjgenaa", sum := "25295584a0f07dfc1a747c3475995fe20e8cb5719f5acadbff64987bb8eb0798", func := "loop.example/lamson/laws.FnExactHeadGet", spec := "fnExactHeadGet", inPlace := ["internal/bytealg.IndexByteString"], unfollowed := true, recurses := true, apart := false }
def FnExactHeadGetSaid : Prop := fnExactHeadGetRow.holds Try.pinned (OpenSpec.ofChange fnExactHeadGetSpec)

/-- ITS FALSE NEIGHBOUR: 'it returns false'. Refute it at one input. -/
def fnExactHeadGetWrong : ChangeSpec := { name := "fnExactHeadGet", fn := fun _ => fun
  | [d1, d2] => { results := [.lit (.bool false)], args := [d1, d2] }
  | _ => none }
def FnExactHeadGetWrongFalsely : Prop := fnExactHeadGetRow.holds Try.pinned (OpenSpec.ofChange fnExactHeadGetWrong)

/-- 'laws.FnHeadGet': WHATEVER THE INPUT: true; the input reads as it did. -/
def fnHeadGetSpec : ChangeSpec := { name := "fnHeadGet", fn := fun _ => fun
  | [d] => { results := [.lit (.bool true)], args := [d] }
  | _ => none }
def fnHeadGetRow : OpenClaim := { program := "ytgahnhncmjgenaa", sum := "25295584a0f07dfc1a747c3475995fe20e8cb5719f5acadbff64987bb8eb0798", func := "loop.example/lamson/laws.FnHeadGet", spec := "fnHeadGet", inPlace := ["internal/bytealg.IndexByteString"], unfollowed := true, recurses := true, apart := false }
def FnHeadGetSaid : Prop := fnHeadGetRow.holds Try.pinned (OpenSpec.ofChange fnHeadGetSpec)

/-- ITS FALSE NEIGHBOUR: 'it returns false'. Refute it at one input. -/
def fnHeadGetWrong : ChangeSpec := { name := "fnHeadGet", fn := fun _ => fun
  | [d] => { results := [.lit (.bool false)], args := [d] }
  | _ => none }
def FnHeadGetWrongFalsely : Prop := fnHeadGetRow.holds Try.pinned (OpenSpec.ofChange fnHeadGetWrong)

/-- 'laws.FnExactTableOk': WHATEVER THE INPUT: true; the input reads as it did. -/
def fnExactTableOkSpec : ChangeSpec := { name := "fnExactTableOk", fn := fun _ => fun
  | [d] => { results := [.lit (.bool true)], args := [d] }
  | _ => none }
def fnExactTableOkRow : OpenClaim := { program := "ytgahnhncmjgenaa", sum := "25295584a0f07dfc1a747c3475995fe20e8cb5719f5acadbff64987bb8eb0798", func := "loop.example/lamson/laws.FnExactTableOk", spec := "fnExactTableOk", inPlace := ["internal/bytealg.IndexByteString"], unfollowed := true, recurses := true, apart := false }
def FnExactTableOkSaid : Prop := fnExactTableOkRow.holds Try.pinned (OpenSpec.ofChange fnExactTableOkSpec)

/-- ITS FALSE NEIGHBOUR: 'it returns false'. Refute it at one input. -/
def fnExactTableOkWrong : ChangeSpec := { name := "fnExactTableOk", fn := fun _ => fun
  | [d] => { results := [.lit (.bool false)], args := [d] }
  | _ => none }
def FnExactTableOkWrongFalsely : Prop := fnExactTableOkRow.holds Try.pinned (OpenSpec.ofChange fnExactTableOkWrong)

/-- 'laws.FnExactTableSize': WHATEVER THE INPUT: true; the input reads as it did. -/
def fnExactTableSizeSpec : ChangeSpec := { name := "fnExactTableSize", fn := fun _ => fun
  | [d] => { results := [.lit (.bool true)], args := [d] }
  | _ => none }
def fnExactTableSizeRow : OpenClaim := { program := "ytgahnhncmjgenaa", sum := "25295584a0f07dfc1a747c3475995fe20e8cb5719f5acadbff64987bb8eb0798", func := "loop.example/lamson/laws.FnExactTableSize", spec := "fnExactTableSize", inPlace := ["internal/bytealg.IndexByteString"], unfollowed := true, recurses := true, apart := false }
def FnExactTableSizeSaid : Prop := fnExactTableSizeRow.holds Try.pinned (OpenSpec.ofChange fnExactTableSizeSpec)

/-- ITS FALSE NEIGHBOUR: 'it returns false'. Refute it at one input. -/
def fnExactTableSizeWrong : ChangeSpec := { name := "fnExactTableSize", fn := fun _ => fun
  | [d] => { results := [.lit (.bool false)], args := [d] }
  | _ => none }
def FnExactTableSizeWrongFalsely : Prop := fnExactTableSizeRow.holds Try.pinned (OpenSpec.ofChange fnExactTableSizeWrong)

/-- 'laws.FnTableOk': WHATEVER THE INPUT: true; the input reads as it did. -/
def fnTableOkSpec : ChangeSpec := { name := "fnTableOk", fn := fun _ => fun
  | [d1, d2] => { results := [.lit (.bool true)], args := [d1, d2] }
  | _ => none }
def fnTableOkRow : OpenClaim := { program := "ytgahnhncmjgenaa", sum := "25295584a0f07dfc1a747c3475995fe20e8cb5719f5acadbff64987bb8eb0798", func := "loop.example/lamson/laws.FnTableOk", spec := "fnTableOk", inPlace := ["internal/bytealg.IndexByteString"], unfollowed := true, recurses := true, apart := false }
def FnTableOkSaid : Prop := fnTableOkRow.holds Try.pinned (OpenSpec.ofChange fnTableOkSpec)

/-- ITS FALSE NEIGHBOUR: 'it returns false'. Refute it at one input. -/
def fnTableOkWrong : ChangeSpec := { name := "fnTableOk", fn := fun _ => fun
  | [d1, d2] => { results := [.lit (.bool false)], args := [d1, d2] }
  | _ => none }
def FnTableOkWrongFalsely : Prop := fnTableOkRow.holds Try.pinned (OpenSpec.ofChange fnTableOkWrong)

/-- 'laws.FnTableSize': WHATEVER THE INPUT: true; the input reads as it did. -/
def fnTableSizeSpec : ChangeSpec := { name := "fnTableSize", fn := fun _ => fun
  | [d1, d2] => { results := [.lit (.bool true)], args := [d1, d2] }
  | _ => none }
def fnTableSizeRow : OpenClaim := { program := "ytgahnhncmjgenaa", sum := "25295584a0f07dfc1a747c3475995fe20e8cb5719f5acadbff64987bb8eb0798", func := "loop.example/lamson/laws.FnTableSize", spec := "fnTableSize", inPlace := ["internal/bytealg.IndexByteString"], unfollowed := true, recurses := true, apart := false }
def FnTableSizeSaid : Prop := fnTableSizeRow.holds Try.pinned (OpenSpec.ofChange fnTableSizeSpec)

/-- ITS FALSE NEIGHBOUR: 'it returns false'. Refute it at one input. -/
def fnTableSizeWrong : ChangeSpec := { name := "fnTableSize", fn := fun _ => fun
  | [d1, d2] => { results := [.lit (.bool false)], args := [d1, d2] }
  | _ => none }
def FnTableSizeWrongFalsely : Prop := fnTableSizeRow.holds Try.pinned (OpenSpec.ofChange fnTableSizeWrong)

/-- 'laws.FnExactTableAt': WHATEVER THE INPUT: true; the input reads as it did. -/
def fnExactTableAtSpec : ChangeSpec := { name := "fnExactTableAt", fn := fun _ => fun
  | [d1, d2] => { results := [.lit (.bool true)], args := [d1, d2] }
  | _ => none }
def fnExactTableAtRow : OpenClaim := { program := "ytgahnhncmjgenaa", sum := "25295584a0f07dfc1a747c3475995fe20e8cb5719f5acadbff64987bb8eb0798", func := "loop.example/lamson/laws.FnExactTableAt", spec := "fnExactTableAt", inPlace := ["internal/bytealg.IndexByteString"], unfollowed := true, recurses := true, apart := false }
def FnExactTableAtSaid : Prop := fnExactTableAtRow.holds Try.pinned (OpenSpec.ofChange fnExactTableAtSpec)

/-- ITS FALSE NEIGHBOUR: 'it returns false'. Refute it at one input. -/
def fnExactTableAtWrong : ChangeSpec := { name := "fnExactTableAt", fn := fun _ => fun
  | [d1, d2] => { results := [.lit (.bool false)], args := [d1, d2] }
  | _ => none }
def FnExactTableAtWrongFalsely : Prop := fnExactTableAtRow.holds Try.pinned (OpenSpec.ofChange fnExactTableAtWrong)

/-- 'laws.FnExactTableFind': WHATEVER THE INPUT: true; the input reads as it did. -/
def fnExactTableFindSpec : ChangeSpec := { name := "fnExactTableFind", fn := fun _ => fun
  | [d1, d2] => { results := [.lit (.bool true)], args := [d1, d2] }
  | _ => none }
def fnExactTableFindRow : OpenClaim := { program := "ytgahnhncmjgenaa", sum := "25295584a0f07dfc1a747c3475995fe20e8cb5719f5acadbff64987bb8eb0798", func := "loop.example/lamson/laws.FnExactTableFind", spec := "fnExactTableFind", inPlace := ["internal/bytealg.IndexByteString"], unfollowed := true, recurses := true, apart := false }
def FnExactTableFindSaid : Prop := fnExactTableFindRow.holds Try.pinned (OpenSpec.ofChange fnExactTableFindSpec)

/-- ITS FALSE NEIGHBOUR: 'it returns false'. Refute it at one input. -/
def fnExactTableFindWrong : ChangeSpec := { name := "fnExactTableFind", fn := fun _ => fun
  | [d1, d2] => { results := [.lit (.bool false)], args := [d1, d2] }
  | _ => none }
def FnExactTableFindWrongFalsely : Prop := fnExactTableFindRow.holds Try.pinned (OpenSpec.ofChange fnExactTableFindWrong)

/-- 'laws.FnTableAt': WHATEVER THE INPUT: true; the input reads as it did. -/
def fnTableAtSpec : ChangeSpec := { name := "fnTableAt", fn := fun _ => fun
  | [d] => { results := [.lit (.bool true)], args := [d] }
  | _ => none }
def fnTableAtRow : OpenClaim := { program := "ytgahnhncmjgenaa", sum := "25295584a0f07dfc1a747c3475995fe20e8cb5719f5acadbff64987bb8eb0798", func := "loop.example/lamson/laws.FnTableAt", spec := "fnTableAt", inPlace := ["internal/bytealg.IndexByteString"], unfollowed := true, recurses := true, apart := false }
def FnTableAtSaid : Prop := fnTableAtRow.holds Try.pinned (OpenSpec.ofChange fnTableAtSpec)

/-- ITS FALSE NEIGHBOUR: 'it returns false'. Refute it at one input. -/
def fnTableAtWrong : ChangeSpec := { name := "fnTableAt", fn := fun _ => fun
  | [d] => { results := [.lit (.bool false)], args := [d] }
  | _ => none }
def FnTableAtWrongFalsely : Prop := fnTableAtRow.holds Try.pinned (OpenSpec.ofChange fnTableAtWrong)

/-- 'laws.FnFixedOk': WHATEVER THE INPUT: true; the input reads as it did. -/
def fnFixedOkSpec : ChangeSpec := { name := "fnFixedOk", fn := fun _ => fun
  | [d1, d2] => { results := [.lit (.bool true)], args := [d1, d2] }
  | _ => none }
def fnFixedOkRow : OpenClaim := { program := "ytgahnhncmjgenaa", sum := "25295584a0f07dfc1a747c3475995fe20e8cb5719f5acadbff64987bb8eb0798", func := "loop.example/lamson/laws.FnFixedOk", spec := "fnFixedOk", inPlace := ["internal/bytealg.IndexByteString"], unfollowed := true, recurses := true, apart := false }
def FnFixedOkSaid : Prop := fnFixedOkRow.holds Try.pinned (OpenSpec.ofChange fnFixedOkSpec)

/-- ITS FALSE NEIGHBOUR: 'it returns false'. Refute it at one input. -/
def fnFixedOkWrong : ChangeSpec := { name := "fnFixedOk", fn := fun _ => fun
  | [d1, d2] => { results := [.lit (.bool false)], args := [d1, d2] }
  | _ => none }
def FnFixedOkWrongFalsely : Prop := fnFixedOkRow.holds Try.pinned (OpenSpec.ofChange fnFixedOkWrong)

/-- 'laws.FnTableFind': WHATEVER THE INPUT: true; the input reads as it did. -/
def fnTableFindSpec : ChangeSpec := { name := "fnTableFind", fn := fun _ => fun
  | [d] => { results := [.lit (.bool true)], args := [d] }
  | _ => none }
def fnTableFindRow : OpenClaim := { program := "ytgahnhncmjgenaa", sum := "25295584a0f07dfc1a747c3475995fe20e8cb5719f5acadbff64987bb8eb0798", func := "loop.example/lamson/laws.FnTableFind", spec := "fnTableFind", inPlace := ["internal/bytealg.IndexByteString"], unfollowed := true, recurses := true, apart := false }
def FnTableFindSaid : Prop := fnTableFindRow.holds Try.pinned (OpenSpec.ofChange fnTableFindSpec)

/-- ITS FALSE NEIGHBOUR: 'it returns false'. Refute it at one input. -/
def fnTableFindWrong : ChangeSpec := { name := "fnTableFind", fn := fun _ => fun
  | [d] => { results := [.lit (.bool false)], args := [d] }
  | _ => none }
def FnTableFindWrongFalsely : Prop := fnTableFindRow.holds Try.pinned (OpenSpec.ofChange fnTableFindWrong)

/- THE SECOND FORM. 'bulk': how many values and letters a reading holds, each counted each time it is reached (what is shared counts as often as it is met; a slice's spare places count too). A statement '..UptoSaid' is the law's where the arguments, and the package variables that the reading takes, are together of bulk at most 1048576: NARROWER than '..Said'. Prove '..Said' where nothing that the law and all that it calls make is longer than what came in: it says more and counts as full. Else prove '..UptoSaid'. A law counts once. -/
mutual
def uptoBulk {H : Type} : DataW H → Nat
  | .lit (.string bytes) => bytes.length + 1
  | .lit _ => 1
  | .nil => 1
  | .ptr d => uptoBulk d + 1
  | .slice elems spare => uptoBulkAll elems + uptoBulkAll spare + 1
  | .agg parts => uptoBulkAll parts + 1
  | .iface _ d => uptoBulk d + 1
  | .map entries => uptoBulkEntries entries + 1
  | .held _ => 1
def uptoBulkAll {H : Type} : List (DataW H) → Nat
  | [] => 0
  | d :: r => uptoBulk d + uptoBulkAll r
def uptoBulkEntries {H : Type} : List (Lit × DataW H) → Nat
  | [] => 0
  | x :: r => uptoBulkEntry x + uptoBulkEntries r
def uptoBulkEntry {H : Type} : Lit × DataW H → Nat
  | (.string bytes, d) => bytes.length + uptoBulk d + 1
  | (_, d) => uptoBulk d + 1
 end
def uptoSmall : (H : Type) → List (DataW H) → Bool := fun _ ds => decide (uptoBulkAll ds ≤ 1048576)
def OpenSpec.upto (s : _root_.Go.ChangeSpec) : _root_.Go.OpenSpec := { _root_.Go.OpenSpec.ofChange s with cond := some uptoSmall }

/-- 'laws.FnExactHeadOk', WHERE WHAT IT READS IS OF BULK AT MOST 1048576: true; the input reads as it did. -/
def fnExactHeadOkUptoRow : OpenClaim := { program := "ytgahnhncmjgenaa", sum := "25295584a0f07dfc1a747c3475995fe20e8cb5719f5acadbff64987bb8eb0798", func := "loop.example/lamson/laws.FnExactHeadOk", spec := "fnExactHeadOk", inPlace := ["internal/bytealg.IndexByteString"], unfollowed := true, recurses := true, apart := false, narrowed := true }
def FnExactHeadOkUptoSaid : Prop := fnExactHeadOkUptoRow.holds Try.pinned (OpenSpec.upto fnExactHeadOkSpec)

/-- 'laws.FnHeadLess', WHERE WHAT IT READS IS OF BULK AT MOST 1048576: true; the input reads as it did. -/
def fnHeadLessUptoRow : OpenClaim := { program := "ytgahnhncmjgenaa", sum := "25295584a0f07dfc1a747c3475995fe20e8cb5719f5acadbff64987bb8eb0798", func := "loop.example/lamson/laws.FnHeadLess", spec := "fnHeadLess", inPlace := ["internal/bytealg.IndexByteString"], unfollowed := true, recurses := true, apart := false, narrowed := true }
def FnHeadLessUptoSaid : Prop := fnHeadLessUptoRow.holds Try.pinned (OpenSpec.upto fnHeadLessSpec)

/-- 'laws.FnExactHeadGet', WHERE WHAT IT READS IS OF BULK AT MOST 1048576: true; the input reads as it did. -/
def fnExactHeadGetUptoRow : OpenClaim := { program := "ytgahnhncmjgenaa", sum := "25295584a0f07dfc1a747c3475995fe20e8cb5719f5acadbff64987bb8eb0798", func := "loop.example/lamson/laws.FnExactHeadGet", spec := "fnExactHeadGet", inPlace := ["internal/bytealg.IndexByteString"], unfollowed := true, recurses := true, apart := false, narrowed := true }
def FnExactHeadGetUptoSaid : Prop := fnExactHeadGetUptoRow.holds Try.pinned (OpenSpec.upto fnExactHeadGetSpec)

/-- 'laws.FnHeadGet', WHERE WHAT IT READS IS OF BULK AT MOST 1048576: true; the input reads as it did. -/
def fnHeadGetUptoRow : OpenClaim := { program := "ytgahnhncmjgenaa", sum := "25295584a0f07dfc1a747c3475995fe20e8cb5719f5acadbff64987bb8eb0798", func := "loop.example/lamson/laws.FnHeadGet", spec := "fnHeadGet", inPlace := ["internal/bytealg.IndexByteString"], unfollowed := true, recurses := true, apart := false, narrowed := true }
def FnHeadGetUptoSaid : Prop := fnHeadGetUptoRow.holds Try.pinned (OpenSpec.upto fnHeadGetSpec)

/-- 'laws.FnExactTableOk', WHERE WHAT IT READS IS OF BULK AT MOST 1048576: true; the input reads as it did. -/
def fnExactTableOkUptoRow : OpenClaim := { program := "ytgahnhncmjgenaa", sum := "25295584a0f07dfc1a747c3475995fe20e8cb5719f5acadbff64987bb8eb0798", func := "loop.example/lamson/laws.FnExactTableOk", spec := "fnExactTableOk", inPlace := ["internal/bytealg.IndexByteString"], unfollowed := true, recurses := true, apart := false, narrowed := true }
def FnExactTableOkUptoSaid : Prop := fnExactTableOkUptoRow.holds Try.pinned (OpenSpec.upto fnExactTableOkSpec)

/-- 'laws.FnExactTableSize', WHERE WHAT IT READS IS OF BULK AT MOST 1048576: true; the input reads as it did. -/
def fnExactTableSizeUptoRow : OpenClaim := { program := "ytgahnhncmjgenaa", sum := "25295584a0f07dfc1a747c3475995fe20e8cb5719f5acadbff64987bb8eb0798", func := "loop.example/lamson/laws.FnExactTableSize", spec := "fnExactTableSize", inPlace := ["internal/bytealg.IndexByteString"], unfollowed := true, recurses := true, apart := false, narrowed := true }
def FnExactTableSizeUptoSaid : Prop := fnExactTableSizeUptoRow.holds Try.pinned (OpenSpec.upto fnExactTableSizeSpec)

/-- 'laws.FnTableOk', WHERE WHAT IT READS IS OF BULK AT MOST 1048576: true; the input reads as it did. -/
def fnTableOkUptoRow : OpenClaim := { program := "ytgahnhncmjgenaa", sum := "25295584a0f07dfc1a747c3475995fe20e8cb5719f5acadbff64987bb8eb0798", func := "loop.example/lamson/laws.FnTableOk", spec := "fnTableOk", inPlace := ["internal/bytealg.IndexByteString"], unfollowed := true, recurses := true, apart := false, narrowed := true }
def FnTableOkUptoSaid : Prop := fnTableOkUptoRow.holds Try.pinned (OpenSpec.upto fnTableOkSpec)

/-- 'laws.FnTableSize', WHERE WHAT IT READS IS OF BULK AT MOST 1048576: true; the input reads as it did. -/
def fnTableSizeUptoRow : OpenClaim := { program := "ytgahnhncmjgenaa", sum := "25295584a0f07dfc1a747c3475995fe20e8cb5719f5acadbff64987bb8eb0798", func := "loop.example/lamson/laws.FnTableSize", spec := "fnTableSize", inPlace := ["internal/bytealg.IndexByteString"], unfollowed := true, recurses := true, apart := false, narrowed := true }
def FnTableSizeUptoSaid : Prop := fnTableSizeUptoRow.holds Try.pinned (OpenSpec.upto fnTableSizeSpec)

/-- 'laws.FnExactTableAt', WHERE WHAT IT READS IS OF BULK AT MOST 1048576: true; the input reads as it did. -/
def fnExactTableAtUptoRow : OpenClaim := { program := "ytgahnhncmjgenaa", sum := "25295584a0f07dfc1a747c3475995fe20e8cb5719f5acadbff64987bb8eb0798", func := "loop.example/lamson/laws.FnExactTableAt", spec := "fnExactTableAt", inPlace := ["internal/bytealg.IndexByteString"], unfollowed := true, recurses := true, apart := false, narrowed := true }
def FnExactTableAtUptoSaid : Prop := fnExactTableAtUptoRow.holds Try.pinned (OpenSpec.upto fnExactTableAtSpec)

/-- 'laws.FnExactTableFind', WHERE WHAT IT READS IS OF BULK AT MOST 1048576: true; the input reads as it did. -/
def fnExactTableFindUptoRow : OpenClaim := { program := "ytgahnhncmjgenaa", sum := "25295584a0f07dfc1a747c3475995fe20e8cb5719f5acadbff64987bb8eb0798", func := "loop.example/lamson/laws.FnExactTableFind", spec := "fnExactTableFind", inPlace := ["internal/bytealg.IndexByteString"], unfollowed := true, recurses := true, apart := false, narrowed := true }
def FnExactTableFindUptoSaid : Prop := fnExactTableFindUptoRow.holds Try.pinned (OpenSpec.upto fnExactTableFindSpec)

/-- 'laws.FnTableAt', WHERE WHAT IT READS IS OF BULK AT MOST 1048576: true; the input reads as it did. -/
def fnTableAtUptoRow : OpenClaim := { program := "ytgahnhncmjgenaa", sum := "25295584a0f07dfc1a747c3475995fe20e8cb5719f5acadbff64987bb8eb0798", func := "loop.example/lamson/laws.FnTableAt", spec := "fnTableAt", inPlace := ["internal/bytealg.IndexByteString"], unfollowed := true, recurses := true, apart := false, narrowed := true }
def FnTableAtUptoSaid : Prop := fnTableAtUptoRow.holds Try.pinned (OpenSpec.upto fnTableAtSpec)

/-- 'laws.FnFixedOk', WHERE WHAT IT READS IS OF BULK AT MOST 1048576: true; the input reads as it did. -/
def fnFixedOkUptoRow : OpenClaim := { program := "ytgahnhncmjgenaa", sum := "25295584a0f07dfc1a747c3475995fe20e8cb5719f5acadbff64987bb8eb0798", func := "loop.example/lamson/laws.FnFixedOk", spec := "fnFixedOk", inPlace := ["internal/bytealg.IndexByteString"], unfollowed := true, recurses := true, apart := false, narrowed := true }
def FnFixedOkUptoSaid : Prop := fnFixedOkUptoRow.holds Try.pinned (OpenSpec.upto fnFixedOkSpec)

/-- 'laws.FnTableFind', WHERE WHAT IT READS IS OF BULK AT MOST 1048576: true; the input reads as it did. -/
def fnTableFindUptoRow : OpenClaim := { program := "ytgahnhncmjgenaa", sum := "25295584a0f07dfc1a747c3475995fe20e8cb5719f5acadbff64987bb8eb0798", func := "loop.example/lamson/laws.FnTableFind", spec := "fnTableFind", inPlace := ["internal/bytealg.IndexByteString"], unfollowed := true, recurses := true, apart := false, narrowed := true }
def FnTableFindUptoSaid : Prop := fnTableFindUptoRow.holds Try.pinned (OpenSpec.upto fnTableFindSpec)

end Rows
end Go.Proofs.Ytgahnhncmjgenaa

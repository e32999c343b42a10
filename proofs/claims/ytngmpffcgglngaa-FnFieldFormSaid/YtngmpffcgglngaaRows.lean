/-
  No cell of these rows narrows 'for every input' (looked for: loops, veiled, ifaces, maps, wideKeys, modest, calm, conditions, laid).
  DERIVED. THE GIVEN ROWS OF THIS SEAT. 12 by the template 'for every input the law returns true; each argument reads behind the call as it read before'; 0 by the template 'total and deterministic' (their statements: YtngmpffcgglngaaTotals.lean).
  GIVEN WITH THE SEED: the statements are not yours to turn. If you find one false, say at which input.
  Laid BY PROGRAM, IN A SANDBOX (cutbox-rows.mjs): the forced cells as the released guide's own fill.sh prints them over the translation 599f1365b6575c1c… (all of the seat's roots in one cut). By AI agents, Wed Nov 11 2026. No macro, syntax, notation, axiom, sorry.
-/
import Derived.Test.YtngmpffcgglngaaChecked
import GoSem.Claim
import GoSem.ClaimJoined
import GoSem.ClaimMapViews
import Derived.JoinedTies
import Derived.KernelRfl
namespace Go.Proofs.Ytngmpffcgglngaa
/- THE CELL 'sum', in the pinned program and in every row, IS THE sha256 OF THE DUMP (.gsa) THAT YtngmpffcgglngaaProg.lean LOADS. Nothing in Lean hashes anything: it is a label: what it is worth is what the hold of that sum in a sandbox is worth. -/
noncomputable def Try.pinned : Pinned := { name := "ytngmpffcgglngaa", sum := "599f1365b6575c1c43a85274adb236c854031e8d3ee2d74bb71565dc1d33a717", checked := Try.checked }
namespace Rows
def none {H : Type} : Left H := { results := [], args := [] }

/-- 'laws.FnExactNumWrite': WHATEVER THE INPUT: true; the input reads as it did. -/
def fnExactNumWriteSpec : ChangeSpec := { name := "fnExactNumWrite", fn := fun _ => fun
  | [d1, d2, d3] => { results := [.lit (.bool true)], args := [d1, d2, d3] }
  | _ => none }
def fnExactNumWriteRow : OpenClaim := { program := "ytngmpffcgglngaa", sum := "599f1365b6575c1c43a85274adb236c854031e8d3ee2d74bb71565dc1d33a717", func := "loop.example/lamson/laws.FnExactNumWrite", spec := "fnExactNumWrite", apart := false }
def FnExactNumWriteSaid : Prop := fnExactNumWriteRow.holds Try.pinned (OpenSpec.ofChange fnExactNumWriteSpec)

/-- ITS FALSE NEIGHBOUR: 'it returns false'. Refute it at one input. -/
def fnExactNumWriteWrong : ChangeSpec := { name := "fnExactNumWrite", fn := fun _ => fun
  | [d1, d2, d3] => { results := [.lit (.bool false)], args := [d1, d2, d3] }
  | _ => none }
def FnExactNumWriteWrongFalsely : Prop := fnExactNumWriteRow.holds Try.pinned (OpenSpec.ofChange fnExactNumWriteWrong)

/-- 'laws.FnExactNumRead': WHATEVER THE INPUT: true; the input reads as it did. -/
def fnExactNumReadSpec : ChangeSpec := { name := "fnExactNumRead", fn := fun _ => fun
  | [d1, d2] => { results := [.lit (.bool true)], args := [d1, d2] }
  | _ => none }
def fnExactNumReadRow : OpenClaim := { program := "ytngmpffcgglngaa", sum := "599f1365b6575c1c43a85274adb236c854031e8d3ee2d74bb71565dc1d33a717", func := "loop.example/lamson/laws.FnExactNumRead", spec := "fnExactNumRead", apart := false }
def FnExactNumReadSaid : Prop := fnExactNumReadRow.holds Try.pinned (OpenSpec.ofChange fnExactNumReadSpec)

/-- ITS FALSE NEIGHBOUR: 'it returns false'. Refute it at one input. -/
def fnExactNumReadWrong : ChangeSpec := { name := "fnExactNumRead", fn := fun _ => fun
  | [d1, d2] => { results := [.lit (.bool false)], args := [d1, d2] }
  | _ => none }
def FnExactNumReadWrongFalsely : Prop := fnExactNumReadRow.holds Try.pinned (OpenSpec.ofChange fnExactNumReadWrong)

/-- 'laws.FnNumShort': WHATEVER THE INPUT: true; the input reads as it did. -/
def fnNumShortSpec : ChangeSpec := { name := "fnNumShort", fn := fun _ => fun
  | [d1, d2] => { results := [.lit (.bool true)], args := [d1, d2] }
  | _ => none }
def fnNumShortRow : OpenClaim := { program := "ytngmpffcgglngaa", sum := "599f1365b6575c1c43a85274adb236c854031e8d3ee2d74bb71565dc1d33a717", func := "loop.example/lamson/laws.FnNumShort", spec := "fnNumShort", apart := false }
def FnNumShortSaid : Prop := fnNumShortRow.holds Try.pinned (OpenSpec.ofChange fnNumShortSpec)

/-- ITS FALSE NEIGHBOUR: 'it returns false'. Refute it at one input. -/
def fnNumShortWrong : ChangeSpec := { name := "fnNumShort", fn := fun _ => fun
  | [d1, d2] => { results := [.lit (.bool false)], args := [d1, d2] }
  | _ => none }
def FnNumShortWrongFalsely : Prop := fnNumShortRow.holds Try.pinned (OpenSpec.ofChange fnNumShortWrong)

/-- 'laws.FnNumBack': WHATEVER THE INPUT: true; the input reads as it did. -/
def fnNumBackSpec : ChangeSpec := { name := "fnNumBack", fn := fun _ => fun
  | [d1, d2] => { results := [.lit (.bool true)], args := [d1, d2] }
  | _ => none }
def fnNumBackRow : OpenClaim := { program := "ytngmpffcgglngaa", sum := "599f1365b6575c1c43a85274adb236c854031e8d3ee2d74bb71565dc1d33a717", func := "loop.example/lamson/laws.FnNumBack", spec := "fnNumBack", apart := false }
def FnNumBackSaid : Prop := fnNumBackRow.holds Try.pinned (OpenSpec.ofChange fnNumBackSpec)

/-- ITS FALSE NEIGHBOUR: 'it returns false'. Refute it at one input. -/
def fnNumBackWrong : ChangeSpec := { name := "fnNumBack", fn := fun _ => fun
  | [d1, d2] => { results := [.lit (.bool false)], args := [d1, d2] }
  | _ => none }
def FnNumBackWrongFalsely : Prop := fnNumBackRow.holds Try.pinned (OpenSpec.ofChange fnNumBackWrong)

/-- 'laws.FnNumBits': WHATEVER THE INPUT: true; the input reads as it did. -/
def fnNumBitsSpec : ChangeSpec := { name := "fnNumBits", fn := fun _ => fun
  | [d] => { results := [.lit (.bool true)], args := [d] }
  | _ => none }
def fnNumBitsRow : OpenClaim := { program := "ytngmpffcgglngaa", sum := "599f1365b6575c1c43a85274adb236c854031e8d3ee2d74bb71565dc1d33a717", func := "loop.example/lamson/laws.FnNumBits", spec := "fnNumBits", apart := false }
def FnNumBitsSaid : Prop := fnNumBitsRow.holds Try.pinned (OpenSpec.ofChange fnNumBitsSpec)

/-- ITS FALSE NEIGHBOUR: 'it returns false'. Refute it at one input. -/
def fnNumBitsWrong : ChangeSpec := { name := "fnNumBits", fn := fun _ => fun
  | [d] => { results := [.lit (.bool false)], args := [d] }
  | _ => none }
def FnNumBitsWrongFalsely : Prop := fnNumBitsRow.holds Try.pinned (OpenSpec.ofChange fnNumBitsWrong)

/-- 'laws.FnNumCut': WHATEVER THE INPUT: true; the input reads as it did. -/
def fnNumCutSpec : ChangeSpec := { name := "fnNumCut", fn := fun _ => fun
  | [d] => { results := [.lit (.bool true)], args := [d] }
  | _ => none }
def fnNumCutRow : OpenClaim := { program := "ytngmpffcgglngaa", sum := "599f1365b6575c1c43a85274adb236c854031e8d3ee2d74bb71565dc1d33a717", func := "loop.example/lamson/laws.FnNumCut", spec := "fnNumCut", apart := false }
def FnNumCutSaid : Prop := fnNumCutRow.holds Try.pinned (OpenSpec.ofChange fnNumCutSpec)

/-- ITS FALSE NEIGHBOUR: 'it returns false'. Refute it at one input. -/
def fnNumCutWrong : ChangeSpec := { name := "fnNumCut", fn := fun _ => fun
  | [d] => { results := [.lit (.bool false)], args := [d] }
  | _ => none }
def FnNumCutWrongFalsely : Prop := fnNumCutRow.holds Try.pinned (OpenSpec.ofChange fnNumCutWrong)

/-- 'laws.FnNumTwo': WHATEVER THE INPUT: true; the input reads as it did. -/
def fnNumTwoSpec : ChangeSpec := { name := "fnNumTwo", fn := fun _ => fun
  | [d1, d2] => { results := [.lit (.bool true)], args := [d1, d2] }
  | _ => none }
def fnNumTwoRow : OpenClaim := { program := "ytngmpffcgglngaa", sum := "599f1365b6575c1c43a85274adb236c854031e8d3ee2d74bb71565dc1d33a717", func := "loop.example/lamson/laws.FnNumTwo", spec := "fnNumTwo", apart := false }
def FnNumTwoSaid : Prop := fnNumTwoRow.holds Try.pinned (OpenSpec.ofChange fnNumTwoSpec)

/-- ITS FALSE NEIGHBOUR: 'it returns false'. Refute it at one input. -/
def fnNumTwoWrong : ChangeSpec := { name := "fnNumTwo", fn := fun _ => fun
  | [d1, d2] => { results := [.lit (.bool false)], args := [d1, d2] }
  | _ => none }
def FnNumTwoWrongFalsely : Prop := fnNumTwoRow.holds Try.pinned (OpenSpec.ofChange fnNumTwoWrong)

/-- 'laws.FnNumHead': WHATEVER THE INPUT: true; the input reads as it did. -/
def fnNumHeadSpec : ChangeSpec := { name := "fnNumHead", fn := fun _ => fun
  | [d1, d2] => { results := [.lit (.bool true)], args := [d1, d2] }
  | _ => none }
def fnNumHeadRow : OpenClaim := { program := "ytngmpffcgglngaa", sum := "599f1365b6575c1c43a85274adb236c854031e8d3ee2d74bb71565dc1d33a717", func := "loop.example/lamson/laws.FnNumHead", spec := "fnNumHead", apart := false }
def FnNumHeadSaid : Prop := fnNumHeadRow.holds Try.pinned (OpenSpec.ofChange fnNumHeadSpec)

/-- ITS FALSE NEIGHBOUR: 'it returns false'. Refute it at one input. -/
def fnNumHeadWrong : ChangeSpec := { name := "fnNumHead", fn := fun _ => fun
  | [d1, d2] => { results := [.lit (.bool false)], args := [d1, d2] }
  | _ => none }
def FnNumHeadWrongFalsely : Prop := fnNumHeadRow.holds Try.pinned (OpenSpec.ofChange fnNumHeadWrong)

/-- 'laws.FnNumStrict': WHATEVER THE INPUT: true; the input reads as it did. -/
def fnNumStrictSpec : ChangeSpec := { name := "fnNumStrict", fn := fun _ => fun
  | [d] => { results := [.lit (.bool true)], args := [d] }
  | _ => none }
def fnNumStrictRow : OpenClaim := { program := "ytngmpffcgglngaa", sum := "599f1365b6575c1c43a85274adb236c854031e8d3ee2d74bb71565dc1d33a717", func := "loop.example/lamson/laws.FnNumStrict", spec := "fnNumStrict", apart := false }
def FnNumStrictSaid : Prop := fnNumStrictRow.holds Try.pinned (OpenSpec.ofChange fnNumStrictSpec)

/-- ITS FALSE NEIGHBOUR: 'it returns false'. Refute it at one input. -/
def fnNumStrictWrong : ChangeSpec := { name := "fnNumStrict", fn := fun _ => fun
  | [d] => { results := [.lit (.bool false)], args := [d] }
  | _ => none }
def FnNumStrictWrongFalsely : Prop := fnNumStrictRow.holds Try.pinned (OpenSpec.ofChange fnNumStrictWrong)

/-- 'laws.FnWordCut': WHATEVER THE INPUT: true; the input reads as it did. -/
def fnWordCutSpec : ChangeSpec := { name := "fnWordCut", fn := fun _ => fun
  | [d1, d2] => { results := [.lit (.bool true)], args := [d1, d2] }
  | _ => none }
def fnWordCutRow : OpenClaim := { program := "ytngmpffcgglngaa", sum := "599f1365b6575c1c43a85274adb236c854031e8d3ee2d74bb71565dc1d33a717", func := "loop.example/lamson/laws.FnWordCut", spec := "fnWordCut", inPlace := ["internal/bytealg.IndexByteString"], apart := false }
def FnWordCutSaid : Prop := fnWordCutRow.holds Try.pinned (OpenSpec.ofChange fnWordCutSpec)

/-- ITS FALSE NEIGHBOUR: 'it returns false'. Refute it at one input. -/
def fnWordCutWrong : ChangeSpec := { name := "fnWordCut", fn := fun _ => fun
  | [d1, d2] => { results := [.lit (.bool false)], args := [d1, d2] }
  | _ => none }
def FnWordCutWrongFalsely : Prop := fnWordCutRow.holds Try.pinned (OpenSpec.ofChange fnWordCutWrong)

/-- 'laws.FnExactFieldOk': WHATEVER THE INPUT: true; the input reads as it did. -/
def fnExactFieldOkSpec : ChangeSpec := { name := "fnExactFieldOk", fn := fun _ => fun
  | [d] => { results := [.lit (.bool true)], args := [d] }
  | _ => none }
def fnExactFieldOkRow : OpenClaim := { program := "ytngmpffcgglngaa", sum := "599f1365b6575c1c43a85274adb236c854031e8d3ee2d74bb71565dc1d33a717", func := "loop.example/lamson/laws.FnExactFieldOk", spec := "fnExactFieldOk", inPlace := ["internal/bytealg.IndexByteString"], apart := false }
def FnExactFieldOkSaid : Prop := fnExactFieldOkRow.holds Try.pinned (OpenSpec.ofChange fnExactFieldOkSpec)

/-- ITS FALSE NEIGHBOUR: 'it returns false'. Refute it at one input. -/
def fnExactFieldOkWrong : ChangeSpec := { name := "fnExactFieldOk", fn := fun _ => fun
  | [d] => { results := [.lit (.bool false)], args := [d] }
  | _ => none }
def FnExactFieldOkWrongFalsely : Prop := fnExactFieldOkRow.holds Try.pinned (OpenSpec.ofChange fnExactFieldOkWrong)

/-- 'laws.FnFieldForm': WHATEVER THE INPUT: true; the input reads as it did. -/
def fnFieldFormSpec : ChangeSpec := { name := "fnFieldForm", fn := fun _ => fun
  | [d1, d2] => { results := [.lit (.bool true)], args := [d1, d2] }
  | _ => none }
def fnFieldFormRow : OpenClaim := { program := "ytngmpffcgglngaa", sum := "599f1365b6575c1c43a85274adb236c854031e8d3ee2d74bb71565dc1d33a717", func := "loop.example/lamson/laws.FnFieldForm", spec := "fnFieldForm", inPlace := ["internal/bytealg.IndexByteString"], apart := false }
def FnFieldFormSaid : Prop := fnFieldFormRow.holds Try.pinned (OpenSpec.ofChange fnFieldFormSpec)

/-- ITS FALSE NEIGHBOUR: 'it returns false'. Refute it at one input. -/
def fnFieldFormWrong : ChangeSpec := { name := "fnFieldForm", fn := fun _ => fun
  | [d1, d2] => { results := [.lit (.bool false)], args := [d1, d2] }
  | _ => none }
def FnFieldFormWrongFalsely : Prop := fnFieldFormRow.holds Try.pinned (OpenSpec.ofChange fnFieldFormWrong)

/- THE SECOND FORM. 'bulk': how many values and letters a reading holds, each counted each time it is reached (what is shared counts as often as it is met; a slice's spare places count too). A statement '..UptoSaid' is the law's where the arguments, and the package variables that the reading takes, are together of bulk at most 1048576: NARROWER than '..Said'. Prove '..Said' where nothing that the law and all that it calls make is longer than what came in: it says more and counts as full. Else prove '..UptoSaid'. A law counts once. -/
mutual
def uptoBulk {H : Type} : DataW H → Nat
  | .lit (.string bytes) => bytes.length + 1
  | .lit _ => 1
  | .nil => 1
  | .ptr d => uptoBulk d + 1
  | .slice elems spare => uptoBulkAll elems + uptoBulkAll spare + 1
  | .agg parts => uptoBulkAll parts + 1
  | .iface _ d => uptoBulk d + 1
  | .map entries => uptoBulkEntries entries + 1
  | .held _ => 1
def uptoBulkAll {H : Type} : List (DataW H) → Nat
  | [] => 0
  | d :: r => uptoBulk d + uptoBulkAll r
def uptoBulkEntries {H : Type} : List (Lit × DataW H) → Nat
  | [] => 0
  | x :: r => uptoBulkEntry x + uptoBulkEntries r
def uptoBulkEntry {H : Type} : Lit × DataW H → Nat
  | (.string bytes, d) => bytes.length + uptoBulk d + 1
  | (_, d) => uptoBulk d + 1
 end
def uptoSmall : (H : Type) → List (DataW H) → Bool := fun _ ds => decide (uptoBulkAll ds ≤ 1048576)
def OpenSpec.upto (s : _root_.Go.ChangeSpec) : _root_.Go.OpenSpec := { _root_.Go.OpenSpec.ofChange s with cond := some uptoSmall }

/-- 'laws.FnExactNumWrite', WHERE WHAT IT READS IS OF BULK AT MOST 1048576: true; the input reads as it did. -/
def fnExactNumWriteUptoRow : OpenClaim := { program := "ytngmpffcgglngaa", sum := "599f1365b6575c1c43a85274adb236c854031e8d3ee2d74bb71565dc1d33a717", func := "loop.example/lamson/laws.FnExactNumWrite", spec := "fnExactNumWrite", apart := false, narrowed := true }
def FnExactNumWriteUptoSaid : Prop := fnExactNumWriteUptoRow.holds Try.pinned (OpenSpec.upto fnExactNumWriteSpec)

/-- 'laws.FnExactNumRead', WHERE WHAT IT READS IS OF BULK AT MOST 1048576: true; the input reads as it did. -/
def fnExactNumReadUptoRow : OpenClaim := { program := "ytngmpffcgglngaa", sum := "599f1365b6575c1c43a85274adb236c854031e8d3ee2d74bb71565dc1d33a717", func := "loop.example/lamson/laws.FnExactNumRead", spec := "fnExactNumRead", apart := false, narrowed := true }
def FnExactNumReadUptoSaid : Prop := fnExactNumReadUptoRow.holds Try.pinned (OpenSpec.upto fnExactNumReadSpec)

/-- 'laws.FnNumShort', WHERE WHAT IT READS IS OF BULK AT MOST 1048576: true; the input reads as it did. -/
def fnNumShortUptoRow : OpenClaim := { program := "ytngmpffcgglngaa", sum := "599f1365b6575c1c43a85274adb236c854031e8d3ee2d74bb71565dc1d33a717", func := "loop.example/lamson/laws.FnNumShort", spec := "fnNumShort", apart := false, narrowed := true }
def FnNumShortUptoSaid : Prop := fnNumShortUptoRow.holds Try.pinned (OpenSpec.upto fnNumShortSpec)

/-- 'laws.FnNumBack', WHERE WHAT IT READS IS OF BULK AT MOST 1048576: true; the input reads as it did. -/
def fnNumBackUptoRow : OpenClaim := { program := "ytngmpffcgglngaa", sum := "599f1365b6575c1c43a85274adb236c854031e8d3ee2d74bb71565dc1d33a717", func := "loop.example/lamson/laws.FnNumBack", spec := "fnNumBack", apart := false, narrowed := true }
def FnNumBackUptoSaid : Prop := fnNumBackUptoRow.holds Try.pinned (OpenSpec.upto fnNumBackSpec)

/-- 'laws.FnNumBits', WHERE WHAT IT READS IS OF BULK AT MOST 1048576: true; the input reads as it did. -/
def fnNumBitsUptoRow : OpenClaim := { program := "ytngmpffcgglngaa", sum := "599f1365b6575c1c43a85274adb236c854031e8d3ee2d74bb71565dc1d33a717", func := "loop.example/lamson/laws.FnNumBits", spec := "fnNumBits", apart := false, narrowed := true }
def FnNumBitsUptoSaid : Prop := fnNumBitsUptoRow.holds Try.pinned (OpenSpec.upto fnNumBitsSpec)

/-- 'laws.FnNumCut', WHERE WHAT IT READS IS OF BULK AT MOST 1048576: true; the input reads as it did. -/
def fnNumCutUptoRow : OpenClaim := { program := "ytngmpffcgglngaa", sum := "599f1365b6575c1c43a85274adb236c854031e8d3ee2d74bb71565dc1d33a717", func := "loop.example/lamson/laws.FnNumCut", spec := "fnNumCut", apart := false, narrowed := true }
def FnNumCutUptoSaid : Prop := fnNumCutUptoRow.holds Try.pinned (OpenSpec.upto fnNumCutSpec)

/-- 'laws.FnNumTwo', WHERE WHAT IT READS IS OF BULK AT MOST 1048576: true; the input reads as it did. -/
def fnNumTwoUptoRow : OpenClaim := { program := "ytngmpffcgglngaa", sum := "599f1365b6575c1c43a85274adb236c854031e8d3ee2d74bb71565dc1d33a717", func := "loop.example/lamson/laws.FnNumTwo", spec := "fnNumTwo", apart := false, narrowed := true }
def FnNumTwoUptoSaid : Prop := fnNumTwoUptoRow.holds Try.pinned (OpenSpec.upto fnNumTwoSpec)

/-- 'laws.FnNumHead', WHERE WHAT IT READS IS OF BULK AT MOST 1048576: true; the input reads as it did. -/
def fnNumHeadUptoRow : OpenClaim := { program := "ytngmpffcgglngaa", sum := "599f1365b6575c1c43a85274adb236c854031e8d3ee2d74bb71565dc1d33a717", func := "loop.example/lamson/laws.FnNumHead", spec := "fnNumHead", apart := false, narrowed := true }
def FnNumHeadUptoSaid : Prop := fnNumHeadUptoRow.holds Try.pinned (OpenSpec.upto fnNumHeadSpec)

/-- 'laws.FnNumStrict', WHERE WHAT IT READS IS OF BULK AT MOST 1048576: true; the input reads as it did. -/
def fnNumStrictUptoRow : OpenClaim := { program := "ytngmpffcgglngaa", sum := "599f1365b6575c1c43a85274adb236c854031e8d3ee2d74bb71565dc1d33a717", func := "loop.example/lamson/laws.FnNumStrict", spec := "fnNumStrict", apart := false, narrowed := true }
def FnNumStrictUptoSaid : Prop := fnNumStrictUptoRow.holds Try.pinned (OpenSpec.upto fnNumStrictSpec)

/-- 'laws.FnWordCut', WHERE WHAT IT READS IS OF BULK AT MOST 1048576: true; the input reads as it did. -/
def fnWordCutUptoRow : OpenClaim := { program := "ytngmpffcgglngaa", sum := "599f1365b6575c1c43a85274adb236c854031e8d3ee2d74bb71565dc1d33a717", func := "loop.example/lamson/laws.FnWordCut", spec := "fnWordCut", inPlace := ["internal/bytealg.IndexByteString"], apart := false, narrowed := true }
def FnWordCutUptoSaid : Prop := fnWordCutUptoRow.holds Try.pinned (OpenSpec.upto fnWordCutSpec)

/-- 'laws.FnExactFieldOk', WHERE WHAT IT READS IS OF BULK AT MOST 1048576: true; the input reads as it did. -/
def fnExactFieldOkUptoRow : OpenClaim := { program := "ytngmpffcgglngaa", sum := "599f1365b6575c1c43a85274adb236c854031e8d3ee2d74bb71565dc1d33a717", func := "loop.example/lamson/laws.FnExactFieldOk", spec := "fnExactFieldOk", inPlace := ["internal/bytealg.IndexByteString"], apart := false, narrowed := true }
def FnExactFieldOkUptoSaid : Prop := fnExactFieldOkUptoRow.holds Try.pinned (OpenSpec.upto fnExactFieldOkSpec)

/-- 'laws.FnFieldForm', WHERE WHAT IT READS IS OF BULK AT MOST 1048576: true; the input reads as it did. -/
def fnFieldFormUptoRow : OpenClaim := { program := "ytngmpffcgglngaa", sum := "599f1365b6575c1c43a85274adb236c854031e8d3ee2d74bb71565dc1d33a717", func := "loop.example/lamson/laws.FnFieldForm", spec := "fnFieldForm", inPlace := ["internal/bytealg.IndexByteString"], apart := false, narrowed := true }
def FnFieldFormUptoSaid : Prop := fnFieldFormUptoRow.holds Try.pinned (OpenSpec.upto fnFieldFormSpec)

end Rows
end Go.Proofs.Ytngmpffcgglngaa

/-
  No cell of these rows narrows 'for every input' (looked for: loops, veiled, ifaces, maps, wideKeys, modest, calm, conditions, laid).
  DERIVED. THE GIVEN ROWS OF THIS SEAT. 12 by the template 'for every input the law returns true; each argument reads behind the call as it read before'; 0 by the template 'total and deterministic' (their statements: YtgcmpckfmpfnkaaTotals.lean).
  GIVEN WITH THE SEED: the statements are not yours to turn. If you find one false, say at which input.
  Laid BY PROGRAM, IN A SANDBOX (cutbox-rows.mjs): the forced cells as the released guide's own fill.sh prints them over the translation b42417a2a4274584… (all of the seat's roots in one cut). By AI agents, Wed Nov 11 2026. No macro, syntax, notation, axiom, sorry.
-/
import Derived.Test.YtgcmpckfmpfnkaaChecked
import GoSem.Claim
import GoSem.ClaimJoined
import GoSem.ClaimMapViews
import Derived.JoinedTies
import Derived.KernelRfl
namespace Go.Proofs.Ytgcmpckfmpfnkaa
/- THE CELL 'sum', in the pinned program and in every row, IS THE sha256 OF THE DUMP (.gsa) THAT YtgcmpckfmpfnkaaProg.lean LOADS. Nothing in Lean hashes anything: it is a label: what it is worth is what the hold of that sum in a sandbox is worth. -/
noncomputable def Try.pinned : Pinned := { name := "ytgcmpckfmpfnkaa", sum := "b42417a2a42745848ec9350c524db248110567717bc176105c46f9e5a287d7d3", checked := Try.checked }
namespace Rows
def none {H : Type} : Left H := { results := [], args := [] }

/-- 'laws.FnExactConstants': WHATEVER THE INPUT: true; the input reads as it did. -/
def fnExactConstantsSpec : ChangeSpec := { name := "fnExactConstants", fn := fun _ => fun
  | [] => { results := [.lit (.bool true)], args := [] }
  | _ => none }
def fnExactConstantsRow : OpenClaim := { program := "ytgcmpckfmpfnkaa", sum := "b42417a2a42745848ec9350c524db248110567717bc176105c46f9e5a287d7d3", func := "loop.example/lamson/laws.FnExactConstants", spec := "fnExactConstants", apart := false }
def FnExactConstantsSaid : Prop := fnExactConstantsRow.holds Try.pinned (OpenSpec.ofChange fnExactConstantsSpec)

/-- ITS FALSE NEIGHBOUR: 'it returns false'. Refute it at one input. -/
def fnExactConstantsWrong : ChangeSpec := { name := "fnExactConstants", fn := fun _ => fun
  | [] => { results := [.lit (.bool false)], args := [] }
  | _ => none }
def FnExactConstantsWrongFalsely : Prop := fnExactConstantsRow.holds Try.pinned (OpenSpec.ofChange fnExactConstantsWrong)

/-- 'laws.FnExactFlowOk': WHATEVER THE INPUT: true; the input reads as it did. -/
def fnExactFlowOkSpec : ChangeSpec := { name := "fnExactFlowOk", fn := fun _ => fun
  | [d] => { results := [.lit (.bool true)], args := [d] }
  | _ => none }
def fnExactFlowOkRow : OpenClaim := { program := "ytgcmpckfmpfnkaa", sum := "b42417a2a42745848ec9350c524db248110567717bc176105c46f9e5a287d7d3", func := "loop.example/lamson/laws.FnExactFlowOk", spec := "fnExactFlowOk", apart := false }
def FnExactFlowOkSaid : Prop := fnExactFlowOkRow.holds Try.pinned (OpenSpec.ofChange fnExactFlowOkSpec)

/-- ITS FALSE NEIGHBOUR: 'it returns false'. Refute it at one input. -/
def fnExactFlowOkWrong : ChangeSpec := { name := "fnExactFlowOk", fn := fun _ => fun
  | [d] => { results := [.lit (.bool false)], args := [d] }
  | _ => none }
def FnExactFlowOkWrongFalsely : Prop := fnExactFlowOkRow.holds Try.pinned (OpenSpec.ofChange fnExactFlowOkWrong)

/-- 'laws.FnExactFlowGot': WHATEVER THE INPUT: true; the input reads as it did. -/
def fnExactFlowGotSpec : ChangeSpec := { name := "fnExactFlowGot", fn := fun _ => fun
  | [d1, d2] => { results := [.lit (.bool true)], args := [d1, d2] }
  | _ => none }
def fnExactFlowGotRow : OpenClaim := { program := "ytgcmpckfmpfnkaa", sum := "b42417a2a42745848ec9350c524db248110567717bc176105c46f9e5a287d7d3", func := "loop.example/lamson/laws.FnExactFlowGot", spec := "fnExactFlowGot", apart := false }
def FnExactFlowGotSaid : Prop := fnExactFlowGotRow.holds Try.pinned (OpenSpec.ofChange fnExactFlowGotSpec)

/-- ITS FALSE NEIGHBOUR: 'it returns false'. Refute it at one input. -/
def fnExactFlowGotWrong : ChangeSpec := { name := "fnExactFlowGot", fn := fun _ => fun
  | [d1, d2] => { results := [.lit (.bool false)], args := [d1, d2] }
  | _ => none }
def FnExactFlowGotWrongFalsely : Prop := fnExactFlowGotRow.holds Try.pinned (OpenSpec.ofChange fnExactFlowGotWrong)

/-- 'laws.FnExactFlowMore': WHATEVER THE INPUT: true; the input reads as it did. -/
def fnExactFlowMoreSpec : ChangeSpec := { name := "fnExactFlowMore", fn := fun _ => fun
  | [d1, d2] => { results := [.lit (.bool true)], args := [d1, d2] }
  | _ => none }
def fnExactFlowMoreRow : OpenClaim := { program := "ytgcmpckfmpfnkaa", sum := "b42417a2a42745848ec9350c524db248110567717bc176105c46f9e5a287d7d3", func := "loop.example/lamson/laws.FnExactFlowMore", spec := "fnExactFlowMore", apart := false }
def FnExactFlowMoreSaid : Prop := fnExactFlowMoreRow.holds Try.pinned (OpenSpec.ofChange fnExactFlowMoreSpec)

/-- ITS FALSE NEIGHBOUR: 'it returns false'. Refute it at one input. -/
def fnExactFlowMoreWrong : ChangeSpec := { name := "fnExactFlowMore", fn := fun _ => fun
  | [d1, d2] => { results := [.lit (.bool false)], args := [d1, d2] }
  | _ => none }
def FnExactFlowMoreWrongFalsely : Prop := fnExactFlowMoreRow.holds Try.pinned (OpenSpec.ofChange fnExactFlowMoreWrong)

/-- 'laws.FnExactFlowSend': WHATEVER THE INPUT: true; the input reads as it did. -/
def fnExactFlowSendSpec : ChangeSpec := { name := "fnExactFlowSend", fn := fun _ => fun
  | [d1, d2] => { results := [.lit (.bool true)], args := [d1, d2] }
  | _ => none }
def fnExactFlowSendRow : OpenClaim := { program := "ytgcmpckfmpfnkaa", sum := "b42417a2a42745848ec9350c524db248110567717bc176105c46f9e5a287d7d3", func := "loop.example/lamson/laws.FnExactFlowSend", spec := "fnExactFlowSend", apart := false }
def FnExactFlowSendSaid : Prop := fnExactFlowSendRow.holds Try.pinned (OpenSpec.ofChange fnExactFlowSendSpec)

/-- ITS FALSE NEIGHBOUR: 'it returns false'. Refute it at one input. -/
def fnExactFlowSendWrong : ChangeSpec := { name := "fnExactFlowSend", fn := fun _ => fun
  | [d1, d2] => { results := [.lit (.bool false)], args := [d1, d2] }
  | _ => none }
def FnExactFlowSendWrongFalsely : Prop := fnExactFlowSendRow.holds Try.pinned (OpenSpec.ofChange fnExactFlowSendWrong)

/-- 'laws.FnExactFlowGive': WHATEVER THE INPUT: true; the input reads as it did. -/
def fnExactFlowGiveSpec : ChangeSpec := { name := "fnExactFlowGive", fn := fun _ => fun
  | [d1, d2] => { results := [.lit (.bool true)], args := [d1, d2] }
  | _ => none }
def fnExactFlowGiveRow : OpenClaim := { program := "ytgcmpckfmpfnkaa", sum := "b42417a2a42745848ec9350c524db248110567717bc176105c46f9e5a287d7d3", func := "loop.example/lamson/laws.FnExactFlowGive", spec := "fnExactFlowGive", apart := false }
def FnExactFlowGiveSaid : Prop := fnExactFlowGiveRow.holds Try.pinned (OpenSpec.ofChange fnExactFlowGiveSpec)

/-- ITS FALSE NEIGHBOUR: 'it returns false'. Refute it at one input. -/
def fnExactFlowGiveWrong : ChangeSpec := { name := "fnExactFlowGive", fn := fun _ => fun
  | [d1, d2] => { results := [.lit (.bool false)], args := [d1, d2] }
  | _ => none }
def FnExactFlowGiveWrongFalsely : Prop := fnExactFlowGiveRow.holds Try.pinned (OpenSpec.ofChange fnExactFlowGiveWrong)

/-- 'laws.FnFlowOk': WHATEVER THE INPUT: true; the input reads as it did. -/
def fnFlowOkSpec : ChangeSpec := { name := "fnFlowOk", fn := fun _ => fun
  | [d1, d2] => { results := [.lit (.bool true)], args := [d1, d2] }
  | _ => none }
def fnFlowOkRow : OpenClaim := { program := "ytgcmpckfmpfnkaa", sum := "b42417a2a42745848ec9350c524db248110567717bc176105c46f9e5a287d7d3", func := "loop.example/lamson/laws.FnFlowOk", spec := "fnFlowOk", apart := false }
def FnFlowOkSaid : Prop := fnFlowOkRow.holds Try.pinned (OpenSpec.ofChange fnFlowOkSpec)

/-- ITS FALSE NEIGHBOUR: 'it returns false'. Refute it at one input. -/
def fnFlowOkWrong : ChangeSpec := { name := "fnFlowOk", fn := fun _ => fun
  | [d1, d2] => { results := [.lit (.bool false)], args := [d1, d2] }
  | _ => none }
def FnFlowOkWrongFalsely : Prop := fnFlowOkRow.holds Try.pinned (OpenSpec.ofChange fnFlowOkWrong)

/-- 'laws.FnFlowSend': WHATEVER THE INPUT: true; the input reads as it did. -/
def fnFlowSendSpec : ChangeSpec := { name := "fnFlowSend", fn := fun _ => fun
  | [d1, d2] => { results := [.lit (.bool true)], args := [d1, d2] }
  | _ => none }
def fnFlowSendRow : OpenClaim := { program := "ytgcmpckfmpfnkaa", sum := "b42417a2a42745848ec9350c524db248110567717bc176105c46f9e5a287d7d3", func := "loop.example/lamson/laws.FnFlowSend", spec := "fnFlowSend", apart := false }
def FnFlowSendSaid : Prop := fnFlowSendRow.holds Try.pinned (OpenSpec.ofChange fnFlowSendSpec)

/-- ITS FALSE NEIGHBOUR: 'it returns false'. Refute it at one input. -/
def fnFlowSendWrong : ChangeSpec := { name := "fnFlowSend", fn := fun _ => fun
  | [d1, d2] => { results := [.lit (.bool false)], args := [d1, d2] }
  | _ => none }
def FnFlowSendWrongFalsely : Prop := fnFlowSendRow.holds Try.pinned (OpenSpec.ofChange fnFlowSendWrong)

/-- 'laws.FnFlowGive': WHATEVER THE INPUT: true; the input reads as it did. -/
def fnFlowGiveSpec : ChangeSpec := { name := "fnFlowGive", fn := fun _ => fun
  | [d] => { results := [.lit (.bool true)], args := [d] }
  | _ => none }
def fnFlowGiveRow : OpenClaim := { program := "ytgcmpckfmpfnkaa", sum := "b42417a2a42745848ec9350c524db248110567717bc176105c46f9e5a287d7d3", func := "loop.example/lamson/laws.FnFlowGive", spec := "fnFlowGive", apart := false }
def FnFlowGiveSaid : Prop := fnFlowGiveRow.holds Try.pinned (OpenSpec.ofChange fnFlowGiveSpec)

/-- ITS FALSE NEIGHBOUR: 'it returns false'. Refute it at one input. -/
def fnFlowGiveWrong : ChangeSpec := { name := "fnFlowGive", fn := fun _ => fun
  | [d] => { results := [.lit (.bool false)], args := [d] }
  | _ => none }
def FnFlowGiveWrongFalsely : Prop := fnFlowGiveRow.holds Try.pinned (OpenSpec.ofChange fnFlowGiveWrong)

/-- 'laws.FnFlowBoth': WHATEVER THE INPUT: true; the input reads as it did. -/
def fnFlowBothSpec : ChangeSpec := { name := "fnFlowBoth", fn := fun _ => fun
  | [d1, d2] => { results := [.lit (.bool true)], args := [d1, d2] }
  | _ => none }
def fnFlowBothRow : OpenClaim := { program := "ytgcmpckfmpfnkaa", sum := "b42417a2a42745848ec9350c524db248110567717bc176105c46f9e5a287d7d3", func := "loop.example/lamson/laws.FnFlowBoth", spec := "fnFlowBoth", apart := false }
def FnFlowBothSaid : Prop := fnFlowBothRow.holds Try.pinned (OpenSpec.ofChange fnFlowBothSpec)

/-- ITS FALSE NEIGHBOUR: 'it returns false'. Refute it at one input. -/
def fnFlowBothWrong : ChangeSpec := { name := "fnFlowBoth", fn := fun _ => fun
  | [d1, d2] => { results := [.lit (.bool false)], args := [d1, d2] }
  | _ => none }
def FnFlowBothWrongFalsely : Prop := fnFlowBothRow.holds Try.pinned (OpenSpec.ofChange fnFlowBothWrong)

/-- 'laws.FnExactTableFixed': WHATEVER THE INPUT: true; the input reads as it did. -/
def fnExactTableFixedSpec : ChangeSpec := { name := "fnExactTableFixed", fn := fun _ => fun
  | [] => { results := [.lit (.bool true)], args := [] }
  | _ => none }
def fnExactTableFixedRow : OpenClaim := { program := "ytgcmpckfmpfnkaa", sum := "b42417a2a42745848ec9350c524db248110567717bc176105c46f9e5a287d7d3", func := "loop.example/lamson/laws.FnExactTableFixed", spec := "fnExactTableFixed", apart := false }
def FnExactTableFixedSaid : Prop := fnExactTableFixedRow.holds Try.pinned (OpenSpec.ofChange fnExactTableFixedSpec)

/-- ITS FALSE NEIGHBOUR: 'it returns false'. Refute it at one input. -/
def fnExactTableFixedWrong : ChangeSpec := { name := "fnExactTableFixed", fn := fun _ => fun
  | [] => { results := [.lit (.bool false)], args := [] }
  | _ => none }
def FnExactTableFixedWrongFalsely : Prop := fnExactTableFixedRow.holds Try.pinned (OpenSpec.ofChange fnExactTableFixedWrong)

/-- 'laws.FnExactWordOk': WHATEVER THE INPUT: true; the input reads as it did. -/
def fnExactWordOkSpec : ChangeSpec := { name := "fnExactWordOk", fn := fun _ => fun
  | [d] => { results := [.lit (.bool true)], args := [d] }
  | _ => none }
def fnExactWordOkRow : OpenClaim := { program := "ytgcmpckfmpfnkaa", sum := "b42417a2a42745848ec9350c524db248110567717bc176105c46f9e5a287d7d3", func := "loop.example/lamson/laws.FnExactWordOk", spec := "fnExactWordOk", inPlace := ["internal/bytealg.IndexByteString"], apart := false }
def FnExactWordOkSaid : Prop := fnExactWordOkRow.holds Try.pinned (OpenSpec.ofChange fnExactWordOkSpec)

/-- ITS FALSE NEIGHBOUR: 'it returns false'. Refute it at one input. -/
def fnExactWordOkWrong : ChangeSpec := { name := "fnExactWordOk", fn := fun _ => fun
  | [d] => { results := [.lit (.bool false)], args := [d] }
  | _ => none }
def FnExactWordOkWrongFalsely : Prop := fnExactWordOkRow.holds Try.pinned (OpenSpec.ofChange fnExactWordOkWrong)

/- THE SECOND FORM. 'bulk': how many values and letters a reading holds, each counted each time it is reached (what is shared counts as often as it is met; a slice's spare places count too). A statement '..UptoSaid' is the law's where the arguments, and the package variables that the reading takes, are together of bulk at most 1048576: NARROWER than '..Said'. Prove '..Said' where nothing that the law and all that it calls make is longer than what came in: it says more and counts as full. Else prove '..UptoSaid'. A law counts once. -/
mutual
def uptoBulk {H : Type} : DataW H → Nat
  | .lit (.string bytes) => bytes.length + 1
  | .lit _ => 1
  | .nil => 1
  | .ptr d => uptoBulk d + 1
  | .slice elems spare => uptoBulkAll elems + uptoBulkAll spare + 1
  | .agg parts => uptoBulkAll parts + 1
  | .iface _ d => uptoBulk d + 1
  | .map entries => uptoBulkEntries entries + 1
  | .held _ => 1
def uptoBulkAll {H : Type} : List (DataW H) → Nat
  | [] => 0
  | d :: r => uptoBulk d + uptoBulkAll r
def uptoBulkEntries {H : Type} : List (Lit × DataW H) → Nat
  | [] => 0
  | x :: r => uptoBulkEntry x + uptoBulkEntries r
def uptoBulkEntry {H : Type} : Lit × DataW H → Nat
  | (.string bytes, d) => bytes.length + uptoBulk d + 1
  | (_, d) => uptoBulk d + 1
 end
def uptoSmall : (H : Type) → List (DataW H) → Bool := fun _ ds => decide (uptoBulkAll ds ≤ 1048576)
def OpenSpec.upto (s : _root_.Go.ChangeSpec) : _root_.Go.OpenSpec := { _root_.Go.OpenSpec.ofChange s with cond := some uptoSmall }

/-- 'laws.FnExactConstants', WHERE WHAT IT READS IS OF BULK AT MOST 1048576: true; the input reads as it did. -/
def fnExactConstantsUptoRow : OpenClaim := { program := "ytgcmpckfmpfnkaa", sum := "b42417a2a42745848ec9350c524db248110567717bc176105c46f9e5a287d7d3", func := "loop.example/lamson/laws.FnExactConstants", spec := "fnExactConstants", apart := false, narrowed := true }
def FnExactConstantsUptoSaid : Prop := fnExactConstantsUptoRow.holds Try.pinned (OpenSpec.upto fnExactConstantsSpec)

/-- 'laws.FnExactFlowOk', WHERE WHAT IT READS IS OF BULK AT MOST 1048576: true; the input reads as it did. -/
def fnExactFlowOkUptoRow : OpenClaim := { program := "ytgcmpckfmpfnkaa", sum := "b42417a2a42745848ec9350c524db248110567717bc176105c46f9e5a287d7d3", func := "loop.example/lamson/laws.FnExactFlowOk", spec := "fnExactFlowOk", apart := false, narrowed := true }
def FnExactFlowOkUptoSaid : Prop := fnExactFlowOkUptoRow.holds Try.pinned (OpenSpec.upto fnExactFlowOkSpec)

/-- 'laws.FnExactFlowGot', WHERE WHAT IT READS IS OF BULK AT MOST 1048576: true; the input reads as it did. -/
def fnExactFlowGotUptoRow : OpenClaim := { program := "ytgcmpckfmpfnkaa", sum := "b42417a2a42745848ec9350c524db248110567717bc176105c46f9e5a287d7d3", func := "loop.example/lamson/laws.FnExactFlowGot", spec := "fnExactFlowGot", apart := false, narrowed := true }
def FnExactFlowGotUptoSaid : Prop := fnExactFlowGotUptoRow.holds Try.pinned (OpenSpec.upto fnExactFlowGotSpec)

/-- 'laws.FnExactFlowMore', WHERE WHAT IT READS IS OF BULK AT MOST 1048576: true; the input reads as it did. -/
def fnExactFlowMoreUptoRow : OpenClaim := { program := "ytgcmpckfmpfnkaa", sum := "b42417a2a42745848ec9350c524db248110567717bc176105c46f9e5a287d7d3", func := "loop.example/lamson/laws.FnExactFlowMore", spec := "fnExactFlowMore", apart := false, narrowed := true }
def FnExactFlowMoreUptoSaid : Prop := fnExactFlowMoreUptoRow.holds Try.pinned (OpenSpec.upto fnExactFlowMoreSpec)

/-- 'laws.FnExactFlowSend', WHERE WHAT IT READS IS OF BULK AT MOST 1048576: true; the input reads as it did. -/
def fnExactFlowSendUptoRow : OpenClaim := { program := "ytgcmpckfmpfnkaa", sum := "b42417a2a42745848ec9350c524db248110567717bc176105c46f9e5a287d7d3", func := "loop.example/lamson/laws.FnExactFlowSend", spec := "fnExactFlowSend", apart := false, narrowed := true }
def FnExactFlowSendUptoSaid : Prop := fnExactFlowSendUptoRow.holds Try.pinned (OpenSpec.upto fnExactFlowSendSpec)

/-- 'laws.FnExactFlowGive', WHERE WHAT IT READS IS OF BULK AT MOST 1048576: true; the input reads as it did. -/
def fnExactFlowGiveUptoRow : OpenClaim := { program := "ytgcmpckfmpfnkaa", sum := "b42417a2a42745848ec9350c524db248110567717bc176105c46f9e5a287d7d3", func := "loop.example/lamson/laws.FnExactFlowGive", spec := "fnExactFlowGive", apart := false, narrowed := true }
def FnExactFlowGiveUptoSaid : Prop := fnExactFlowGiveUptoRow.holds Try.pinned (OpenSpec.upto fnExactFlowGiveSpec)

/-- 'laws.FnFlowOk', WHERE WHAT IT READS IS OF BULK AT MOST 1048576: true; the input reads as it did. -/
def fnFlowOkUptoRow : OpenClaim := { program := "ytgcmpckfmpfnkaa", sum := "b42417a2a42745848ec9350c524db248110567717bc176105c46f9e5a287d7d3", func := "loop.example/lamson/laws.FnFlowOk", spec := "fnFlowOk", apart := false, narrowed := true }
def FnFlowOkUptoSaid : Prop := fnFlowOkUptoRow.holds Try.pinned (OpenSpec.upto fnFlowOkSpec)

/-- 'laws.FnFlowSend', WHERE WHAT IT READS IS OF BULK AT MOST 1048576: true; the input reads as it did. -/
def fnFlowSendUptoRow : OpenClaim := { program := "ytgcmpckfmpfnkaa", sum := "b42417a2a42745848ec9350c524db248110567717bc176105c46f9e5a287d7d3", func := "loop.example/lamson/laws.FnFlowSend", spec := "fnFlowSend", apart := false, narrowed := true }
def FnFlowSendUptoSaid : Prop := fnFlowSendUptoRow.holds Try.pinned (OpenSpec.upto fnFlowSendSpec)

/-- 'laws.FnFlowGive', WHERE WHAT IT READS IS OF BULK AT MOST 1048576: true; the input reads as it did. -/
def fnFlowGiveUptoRow : OpenClaim := { program := "ytgcmpckfmpfnkaa", sum := "b42417a2a42745848ec9350c524db248110567717bc176105c46f9e5a287d7d3", func := "loop.example/lamson/laws.FnFlowGive", spec := "fnFlowGive", apart := false, narrowed := true }
def FnFlowGiveUptoSaid : Prop := fnFlowGiveUptoRow.holds Try.pinned (OpenSpec.upto fnFlowGiveSpec)

/-- 'laws.FnFlowBoth', WHERE WHAT IT READS IS OF BULK AT MOST 1048576: true; the input reads as it did. -/
def fnFlowBothUptoRow : OpenClaim := { program := "ytgcmpckfmpfnkaa", sum := "b42417a2a42745848ec9350c524db248110567717bc176105c46f9e5a287d7d3", func := "loop.example/lamson/laws.FnFlowBoth", spec := "fnFlowBoth", apart := false, narrowed := true }
def FnFlowBothUptoSaid : Prop := fnFlowBothUptoRow.holds Try.pinned (OpenSpec.upto fnFlowBothSpec)

/-- 'laws.FnExactTableFixed', WHERE WHAT IT READS IS OF BULK AT MOST 1048576: true; the input reads as it did. -/
def fnExactTableFixedUptoRow : OpenClaim := { program := "ytgcmpckfmpfnkaa", sum := "b42417a2a42745848ec9350c524db248110567717bc176105c46f9e5a287d7d3", func := "loop.example/lamson/laws.FnExactTableFixed", spec := "fnExactTableFixed", apart := false, narrowed := true }
def FnExactTableFixedUptoSaid : Prop := fnExactTableFixedUptoRow.holds Try.pinned (OpenSpec.upto fnExactTableFixedSpec)

/-- 'laws.FnExactWordOk', WHERE WHAT IT READS IS OF BULK AT MOST 1048576: true; the input reads as it did. -/
def fnExactWordOkUptoRow : OpenClaim := { program := "ytgcmpckfmpfnkaa", sum := "b42417a2a42745848ec9350c524db248110567717bc176105c46f9e5a287d7d3", func := "loop.example/lamson/laws.FnExactWordOk", spec := "fnExactWordOk", inPlace := ["internal/bytealg.IndexByteString"], apart := false, narrowed := true }
def FnExactWordOkUptoSaid : Prop := fnExactWordOkUptoRow.holds Try.pinned (OpenSpec.upto fnExactWordOkSpec)

end Rows
end Go.Proofs.Ytgcmpckfmpfnkaa

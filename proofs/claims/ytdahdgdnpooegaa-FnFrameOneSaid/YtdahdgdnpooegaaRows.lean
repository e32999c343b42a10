/-
  No cell of these rows narrows 'for every input' (looked for: loops, veiled, ifaces, maps, wideKeys, modest, calm, conditions, laid).
  DERIVED. THE GIVEN ROWS OF THIS SEAT. 10 by the template 'for every input the law returns true; each argument reads behind the call as it read before'; 0 by the template 'total and deterministic' (their statements: YtdahdgdnpooegaaTotals.lean).
  GIVEN WITH THE SEED: the statements are not yours to turn. If you find one false, say at which input.
  Laid BY PROGRAM, IN A SANDBOX (cutbox-rows.mjs): the forced cells as the released guide's own fill.sh prints them over the translation 00ee7ac2b5dd4bd8… (all of the seat's roots in one cut). By AI agents, Wed Nov 11 2026. No macro, syntax, notation, axiom, sorry.
-/
import Derived.Test.YtdahdgdnpooegaaChecked
import GoSem.Claim
import GoSem.ClaimJoined
import GoSem.ClaimMapViews
import Derived.JoinedTies
import Derived.KernelRfl
namespace Go.Proofs.Ytdahdgdnpooegaa
/- THE CELL 'sum', in the pinned program and in every row, IS THE sha256 OF THE DUMP (.gsa) THAT YtdahdgdnpooegaaProg.lean LOADS. Nothing in Lean hashes anything: it is a label: what it is worth is what the hold of that sum in a sandbox is worth. -/
noncomputable def Try.pinned : Pinned := { name := "ytdahdgdnpooegaa", sum := "00ee7ac2b5dd4bd8cdb8cf6af616884998cd00c5ab2dcd0492a131d307f0db5a", checked := Try.checked }
namespace Rows
def none {H : Type} : Left H := { results := [], args := [] }

/-- 'laws.FnExactFrameOk': WHATEVER THE INPUT: true; the input reads as it did. -/
def fnExactFrameOkSpec : ChangeSpec := { name := "fnExactFrameOk", fn := fun _ => fun
  | [d] => { results := [.lit (.bool true)], args := [d] }
  | _ => none }
def fnExactFrameOkRow : OpenClaim := { program := "ytdahdgdnpooegaa", sum := "00ee7ac2b5dd4bd8cdb8cf6af616884998cd00c5ab2dcd0492a131d307f0db5a", func := "loop.example/lamson/laws.FnExactFrameOk", spec := "fnExactFrameOk", apart := false }
def FnExactFrameOkSaid : Prop := fnExactFrameOkRow.holds Try.pinned (OpenSpec.ofChange fnExactFrameOkSpec)

/-- ITS FALSE NEIGHBOUR: 'it returns false'. Refute it at one input. -/
def fnExactFrameOkWrong : ChangeSpec := { name := "fnExactFrameOk", fn := fun _ => fun
  | [d] => { results := [.lit (.bool false)], args := [d] }
  | _ => none }
def FnExactFrameOkWrongFalsely : Prop := fnExactFrameOkRow.holds Try.pinned (OpenSpec.ofChange fnExactFrameOkWrong)

/-- 'laws.FnExactFrameWrite': WHATEVER THE INPUT: true; the input reads as it did. -/
def fnExactFrameWriteSpec : ChangeSpec := { name := "fnExactFrameWrite", fn := fun _ => fun
  | [d] => { results := [.lit (.bool true)], args := [d] }
  | _ => none }
def fnExactFrameWriteRow : OpenClaim := { program := "ytdahdgdnpooegaa", sum := "00ee7ac2b5dd4bd8cdb8cf6af616884998cd00c5ab2dcd0492a131d307f0db5a", func := "loop.example/lamson/laws.FnExactFrameWrite", spec := "fnExactFrameWrite", apart := false }
def FnExactFrameWriteSaid : Prop := fnExactFrameWriteRow.holds Try.pinned (OpenSpec.ofChange fnExactFrameWriteSpec)

/-- ITS FALSE NEIGHBOUR: 'it returns false'. Refute it at one input. -/
def fnExactFrameWriteWrong : ChangeSpec := { name := "fnExactFrameWrite", fn := fun _ => fun
  | [d] => { results := [.lit (.bool false)], args := [d] }
  | _ => none }
def FnExactFrameWriteWrongFalsely : Prop := fnExactFrameWriteRow.holds Try.pinned (OpenSpec.ofChange fnExactFrameWriteWrong)

/-- 'laws.FnExactFrameRead': WHATEVER THE INPUT: true; the input reads as it did. -/
def fnExactFrameReadSpec : ChangeSpec := { name := "fnExactFrameRead", fn := fun _ => fun
  | [d] => { results := [.lit (.bool true)], args := [d] }
  | _ => none }
def fnExactFrameReadRow : OpenClaim := { program := "ytdahdgdnpooegaa", sum := "00ee7ac2b5dd4bd8cdb8cf6af616884998cd00c5ab2dcd0492a131d307f0db5a", func := "loop.example/lamson/laws.FnExactFrameRead", spec := "fnExactFrameRead", apart := false }
def FnExactFrameReadSaid : Prop := fnExactFrameReadRow.holds Try.pinned (OpenSpec.ofChange fnExactFrameReadSpec)

/-- ITS FALSE NEIGHBOUR: 'it returns false'. Refute it at one input. -/
def fnExactFrameReadWrong : ChangeSpec := { name := "fnExactFrameRead", fn := fun _ => fun
  | [d] => { results := [.lit (.bool false)], args := [d] }
  | _ => none }
def FnExactFrameReadWrongFalsely : Prop := fnExactFrameReadRow.holds Try.pinned (OpenSpec.ofChange fnExactFrameReadWrong)

/-- 'laws.FnFrameForm': WHATEVER THE INPUT: true; the input reads as it did. -/
def fnFrameFormSpec : ChangeSpec := { name := "fnFrameForm", fn := fun _ => fun
  | [d] => { results := [.lit (.bool true)], args := [d] }
  | _ => none }
def fnFrameFormRow : OpenClaim := { program := "ytdahdgdnpooegaa", sum := "00ee7ac2b5dd4bd8cdb8cf6af616884998cd00c5ab2dcd0492a131d307f0db5a", func := "loop.example/lamson/laws.FnFrameForm", spec := "fnFrameForm", apart := false }
def FnFrameFormSaid : Prop := fnFrameFormRow.holds Try.pinned (OpenSpec.ofChange fnFrameFormSpec)

/-- ITS FALSE NEIGHBOUR: 'it returns false'. Refute it at one input. -/
def fnFrameFormWrong : ChangeSpec := { name := "fnFrameForm", fn := fun _ => fun
  | [d] => { results := [.lit (.bool false)], args := [d] }
  | _ => none }
def FnFrameFormWrongFalsely : Prop := fnFrameFormRow.holds Try.pinned (OpenSpec.ofChange fnFrameFormWrong)

/-- 'laws.FnFrameOne': WHATEVER THE INPUT: true; the input reads as it did. -/
def fnFrameOneSpec : ChangeSpec := { name := "fnFrameOne", fn := fun _ => fun
  | [d1, d2] => { results := [.lit (.bool true)], args := [d1, d2] }
  | _ => none }
def fnFrameOneRow : OpenClaim := { program := "ytdahdgdnpooegaa", sum := "00ee7ac2b5dd4bd8cdb8cf6af616884998cd00c5ab2dcd0492a131d307f0db5a", func := "loop.example/lamson/laws.FnFrameOne", spec := "fnFrameOne", apart := false }
def FnFrameOneSaid : Prop := fnFrameOneRow.holds Try.pinned (OpenSpec.ofChange fnFrameOneSpec)

/-- ITS FALSE NEIGHBOUR: 'it returns false'. Refute it at one input. -/
def fnFrameOneWrong : ChangeSpec := { name := "fnFrameOne", fn := fun _ => fun
  | [d1, d2] => { results := [.lit (.bool false)], args := [d1, d2] }
  | _ => none }
def FnFrameOneWrongFalsely : Prop := fnFrameOneRow.holds Try.pinned (OpenSpec.ofChange fnFrameOneWrong)

/-- 'laws.FnFrameBack': WHATEVER THE INPUT: true; the input reads as it did. -/
def fnFrameBackSpec : ChangeSpec := { name := "fnFrameBack", fn := fun _ => fun
  | [d1, d2] => { results := [.lit (.bool true)], args := [d1, d2] }
  | _ => none }
def fnFrameBackRow : OpenClaim := { program := "ytdahdgdnpooegaa", sum := "00ee7ac2b5dd4bd8cdb8cf6af616884998cd00c5ab2dcd0492a131d307f0db5a", func := "loop.example/lamson/laws.FnFrameBack", spec := "fnFrameBack", apart := false }
def FnFrameBackSaid : Prop := fnFrameBackRow.holds Try.pinned (OpenSpec.ofChange fnFrameBackSpec)

/-- ITS FALSE NEIGHBOUR: 'it returns false'. Refute it at one input. -/
def fnFrameBackWrong : ChangeSpec := { name := "fnFrameBack", fn := fun _ => fun
  | [d1, d2] => { results := [.lit (.bool false)], args := [d1, d2] }
  | _ => none }
def FnFrameBackWrongFalsely : Prop := fnFrameBackRow.holds Try.pinned (OpenSpec.ofChange fnFrameBackWrong)

/-- 'laws.FnFrameLack': WHATEVER THE INPUT: true; the input reads as it did. -/
def fnFrameLackSpec : ChangeSpec := { name := "fnFrameLack", fn := fun _ => fun
  | [d1, d2] => { results := [.lit (.bool true)], args := [d1, d2] }
  | _ => none }
def fnFrameLackRow : OpenClaim := { program := "ytdahdgdnpooegaa", sum := "00ee7ac2b5dd4bd8cdb8cf6af616884998cd00c5ab2dcd0492a131d307f0db5a", func := "loop.example/lamson/laws.FnFrameLack", spec := "fnFrameLack", apart := false }
def FnFrameLackSaid : Prop := fnFrameLackRow.holds Try.pinned (OpenSpec.ofChange fnFrameLackSpec)

/-- ITS FALSE NEIGHBOUR: 'it returns false'. Refute it at one input. -/
def fnFrameLackWrong : ChangeSpec := { name := "fnFrameLack", fn := fun _ => fun
  | [d1, d2] => { results := [.lit (.bool false)], args := [d1, d2] }
  | _ => none }
def FnFrameLackWrongFalsely : Prop := fnFrameLackRow.holds Try.pinned (OpenSpec.ofChange fnFrameLackWrong)

/-- 'laws.FnFrameTwo': WHATEVER THE INPUT: true; the input reads as it did. -/
def fnFrameTwoSpec : ChangeSpec := { name := "fnFrameTwo", fn := fun _ => fun
  | [d1, d2] => { results := [.lit (.bool true)], args := [d1, d2] }
  | _ => none }
def fnFrameTwoRow : OpenClaim := { program := "ytdahdgdnpooegaa", sum := "00ee7ac2b5dd4bd8cdb8cf6af616884998cd00c5ab2dcd0492a131d307f0db5a", func := "loop.example/lamson/laws.FnFrameTwo", spec := "fnFrameTwo", apart := false }
def FnFrameTwoSaid : Prop := fnFrameTwoRow.holds Try.pinned (OpenSpec.ofChange fnFrameTwoSpec)

/-- ITS FALSE NEIGHBOUR: 'it returns false'. Refute it at one input. -/
def fnFrameTwoWrong : ChangeSpec := { name := "fnFrameTwo", fn := fun _ => fun
  | [d1, d2] => { results := [.lit (.bool false)], args := [d1, d2] }
  | _ => none }
def FnFrameTwoWrongFalsely : Prop := fnFrameTwoRow.holds Try.pinned (OpenSpec.ofChange fnFrameTwoWrong)

/-- 'laws.FnFrameBad': WHATEVER THE INPUT: true; the input reads as it did. -/
def fnFrameBadSpec : ChangeSpec := { name := "fnFrameBad", fn := fun _ => fun
  | [d1, d2] => { results := [.lit (.bool true)], args := [d1, d2] }
  | _ => none }
def fnFrameBadRow : OpenClaim := { program := "ytdahdgdnpooegaa", sum := "00ee7ac2b5dd4bd8cdb8cf6af616884998cd00c5ab2dcd0492a131d307f0db5a", func := "loop.example/lamson/laws.FnFrameBad", spec := "fnFrameBad", apart := false }
def FnFrameBadSaid : Prop := fnFrameBadRow.holds Try.pinned (OpenSpec.ofChange fnFrameBadSpec)

/-- ITS FALSE NEIGHBOUR: 'it returns false'. Refute it at one input. -/
def fnFrameBadWrong : ChangeSpec := { name := "fnFrameBad", fn := fun _ => fun
  | [d1, d2] => { results := [.lit (.bool false)], args := [d1, d2] }
  | _ => none }
def FnFrameBadWrongFalsely : Prop := fnFrameBadRow.holds Try.pinned (OpenSpec.ofChange fnFrameBadWrong)

/-- 'laws.FnFrameStrict': WHATEVER THE INPUT: true; the input reads as it did. -/
def fnFrameStrictSpec : ChangeSpec := { name := "fnFrameStrict", fn := fun _ => fun
  | [d] => { results := [.lit (.bool true)], args := [d] }
  | _ => none }
def fnFrameStrictRow : OpenClaim := { program := "ytdahdgdnpooegaa", sum := "00ee7ac2b5dd4bd8cdb8cf6af616884998cd00c5ab2dcd0492a131d307f0db5a", func := "loop.example/lamson/laws.FnFrameStrict", spec := "fnFrameStrict", apart := false }
def FnFrameStrictSaid : Prop := fnFrameStrictRow.holds Try.pinned (OpenSpec.ofChange fnFrameStrictSpec)

/-- ITS FALSE NEIGHBOUR: 'it returns false'. Refute it at one input. -/
def fnFrameStrictWrong : ChangeSpec := { name := "fnFrameStrict", fn := fun _ => fun
  | [d] => { results := [.lit (.bool false)], args := [d] }
  | _ => none }
def FnFrameStrictWrongFalsely : Prop := fnFrameStrictRow.holds Try.pinned (OpenSpec.ofChange fnFrameStrictWrong)

/- THE SECOND FORM. 'bulk': how many values and letters a reading holds, each counted each time it is reached (what is shared counts as often as it is met; a slice's spare places count too). A statement '..UptoSaid' is the law's where the arguments, and the package variables that the reading takes, are together of bulk at most 1048576: NARROWER than '..Said'. Prove '..Said' where nothing that the law and all that it calls make is longer than what came in: it says more and counts as full. Else prove '..UptoSaid'. A law counts once. -/
mutual
def uptoBulk {H : Type} : DataW H → Nat
  | .lit (.string bytes) => bytes.length + 1
  | .lit _ => 1
  | .nil => 1
  | .ptr d => uptoBulk d + 1
  | .slice elems spare => uptoBulkAll elems + uptoBulkAll spare + 1
  | .agg parts => uptoBulkAll parts + 1
  | .iface _ d => uptoBulk d + 1
  | .map entries => uptoBulkEntries entries + 1
  | .held _ => 1
def uptoBulkAll {H : Type} : List (DataW H) → Nat
  | [] => 0
  | d :: r => uptoBulk d + uptoBulkAll r
def uptoBulkEntries {H : Type} : List (Lit × DataW H) → Nat
  | [] => 0
  | x :: r => uptoBulkEntry x + uptoBulkEntries r
def uptoBulkEntry {H : Type} : Lit × DataW H → Nat
  | (.string bytes, d) => bytes.length + uptoBulk d + 1
  | (_, d) => uptoBulk d + 1
 end
def uptoSmall : (H : Type) → List (DataW H) → Bool := fun _ ds => decide (uptoBulkAll ds ≤ 1048576)
def OpenSpec.upto (s : _root_.Go.ChangeSpec) : _root_.Go.OpenSpec := { _root_.Go.OpenSpec.ofChange s with cond := some uptoSmall }

/-- 'laws.FnExactFrameOk', WHERE WHAT IT READS IS OF BULK AT MOST 1048576: true; the input reads as it did. -/
def fnExactFrameOkUptoRow : OpenClaim := { program := "ytdahdgdnpooegaa", sum := "00ee7ac2b5dd4bd8cdb8cf6af616884998cd00c5ab2dcd0492a131d307f0db5a", func := "loop.example/lamson/laws.FnExactFrameOk", spec := "fnExactFrameOk", apart := false, narrowed := true }
def FnExactFrameOkUptoSaid : Prop := fnExactFrameOkUptoRow.holds Try.pinned (OpenSpec.upto fnExactFrameOkSpec)

/-- 'laws.FnExactFrameWrite', WHERE WHAT IT READS IS OF BULK AT MOST 1048576: true; the input reads as it did. -/
def fnExactFrameWriteUptoRow : OpenClaim := { program := "ytdahdgdnpooegaa", sum := "00ee7ac2b5dd4bd8cdb8cf6af616884998cd00c5ab2dcd0492a131d307f0db5a", func := "loop.example/lamson/laws.FnExactFrameWrite", spec := "fnExactFrameWrite", apart := false, narrowed := true }
def FnExactFrameWriteUptoSaid : Prop := fnExactFrameWriteUptoRow.holds Try.pinned (OpenSpec.upto fnExactFrameWriteSpec)

/-- 'laws.FnExactFrameRead', WHERE WHAT IT READS IS OF BULK AT MOST 1048576: true; the input reads as it did. -/
def fnExactFrameReadUptoRow : OpenClaim := { program := "ytdahdgdnpooegaa", sum := "00ee7ac2b5dd4bd8cdb8cf6af616884998cd00c5ab2dcd0492a131d307f0db5a", func := "loop.example/lamson/laws.FnExactFrameRead", spec := "fnExactFrameRead", apart := false, narrowed := true }
def FnExactFrameReadUptoSaid : Prop := fnExactFrameReadUptoRow.holds Try.pinned (OpenSpec.upto fnExactFrameReadSpec)

/-- 'laws.FnFrameForm', WHERE WHAT IT READS IS OF BULK AT MOST 1048576: true; the input reads as it did. -/
def fnFrameFormUptoRow : OpenClaim := { program := "ytdahdgdnpooegaa", sum := "00ee7ac2b5dd4bd8cdb8cf6af616884998cd00c5ab2dcd0492a131d307f0db5a", func := "loop.example/lamson/laws.FnFrameForm", spec := "fnFrameForm", apart := false, narrowed := true }
def FnFrameFormUptoSaid : Prop := fnFrameFormUptoRow.holds Try.pinned (OpenSpec.upto fnFrameFormSpec)

/-- 'laws.FnFrameOne', WHERE WHAT IT READS IS OF BULK AT MOST 1048576: true; the input reads as it did. -/
def fnFrameOneUptoRow : OpenClaim := { program := "ytdahdgdnpooegaa", sum := "00ee7ac2b5dd4bd8cdb8cf6af616884998cd00c5ab2dcd0492a131d307f0db5a", func := "loop.example/lamson/laws.FnFrameOne", spec := "fnFrameOne", apart := false, narrowed := true }
def FnFrameOneUptoSaid : Prop := fnFrameOneUptoRow.holds Try.pinned (OpenSpec.upto fnFrameOneSpec)

/-- 'laws.FnFrameBack', WHERE WHAT IT READS IS OF BULK AT MOST 1048576: true; the input reads as it did. -/
def fnFrameBackUptoRow : OpenClaim := { program := "ytdahdgdnpooegaa", sum := "00ee7ac2b5dd4bd8cdb8cf6af616884998cd00c5ab2dcd0492a131d307f0db5a", func := "loop.example/lamson/laws.FnFrameBack", spec := "fnFrameBack", apart := false, narrowed := true }
def FnFrameBackUptoSaid : Prop := fnFrameBackUptoRow.holds Try.pinned (OpenSpec.upto fnFrameBackSpec)

/-- 'laws.FnFrameLack', WHERE WHAT IT READS IS OF BULK AT MOST 1048576: true; the input reads as it did. -/
def fnFrameLackUptoRow : OpenClaim := { program := "ytdahdgdnpooegaa", sum := "00ee7ac2b5dd4bd8cdb8cf6af616884998cd00c5ab2dcd0492a131d307f0db5a", func := "loop.example/lamson/laws.FnFrameLack", spec := "fnFrameLack", apart := false, narrowed := true }
def FnFrameLackUptoSaid : Prop := fnFrameLackUptoRow.holds Try.pinned (OpenSpec.upto fnFrameLackSpec)

/-- 'laws.FnFrameTwo', WHERE WHAT IT READS IS OF BULK AT MOST 1048576: true; the input reads as it did. -/
def fnFrameTwoUptoRow : OpenClaim := { program := "ytdahdgdnpooegaa", sum := "00ee7ac2b5dd4bd8cdb8cf6af616884998cd00c5ab2dcd0492a131d307f0db5a", func := "loop.example/lamson/laws.FnFrameTwo", spec := "fnFrameTwo", apart := false, narrowed := true }
def FnFrameTwoUptoSaid : Prop := fnFrameTwoUptoRow.holds Try.pinned (OpenSpec.upto fnFrameTwoSpec)

/-- 'laws.FnFrameBad', WHERE WHAT IT READS IS OF BULK AT MOST 1048576: true; the input reads as it did. -/
def fnFrameBadUptoRow : OpenClaim := { program := "ytdahdgdnpooegaa", sum := "00ee7ac2b5dd4bd8cdb8cf6af616884998cd00c5ab2dcd0492a131d307f0db5a", func := "loop.example/lamson/laws.FnFrameBad", spec := "fnFrameBad", apart := false, narrowed := true }
def FnFrameBadUptoSaid : Prop := fnFrameBadUptoRow.holds Try.pinned (OpenSpec.upto fnFrameBadSpec)

/-- 'laws.FnFrameStrict', WHERE WHAT IT READS IS OF BULK AT MOST 1048576: true; the input reads as it did. -/
def fnFrameStrictUptoRow : OpenClaim := { program := "ytdahdgdnpooegaa", sum := "00ee7ac2b5dd4bd8cdb8cf6af616884998cd00c5ab2dcd0492a131d307f0db5a", func := "loop.example/lamson/laws.FnFrameStrict", spec := "fnFrameStrict", apart := false, narrowed := true }
def FnFrameStrictUptoSaid : Prop := fnFrameStrictUptoRow.holds Try.pinned (OpenSpec.upto fnFrameStrictSpec)

end Rows
end Go.Proofs.Ytdahdgdnpooegaa

/-
  The law FnExactTableFixed's plain function answers true.
-/
import Derived.Test.YtgcmpckfmpfnkaaTx8
import Derived.Laws.Bits64
import Derived.Laws.BitsAllLaws
import Derived.SizedLaws
namespace Go.Proofs.Ytgcmpckfmpfnkaa.Pure
open Go Go.RowKit Go.Proofs.Ytgcmpckfmpfnkaa.T Go.Proofs.YtgcmpckfmpfnkaaW.PrintWords Go.Proofs.YtgcmpckfmpfnkaaW.PrintLast Go.Proofs.YtgcmpckfmpfnkaaW.PrintMore
theorem FnExactTableFixed : laws_FnExactTableFixed.Pure := ⟨30, by kernel_rfl⟩
end Go.Proofs.Ytgcmpckfmpfnkaa.Pure

/-
  The law FnExactConstants's plain function answers true.
-/
import Derived.Test.YtgcmpckfmpfnkaaCx1
import Derived.Laws.Bits64
import Derived.Laws.BitsAllLaws
import Derived.SizedLaws
namespace Go.Proofs.Ytgcmpckfmpfnkaa.Pure
open Go Go.RowKit Go.Proofs.Ytgcmpckfmpfnkaa.C Go.Proofs.YtgcmpckfmpfnkaaW.PrintWords Go.Proofs.YtgcmpckfmpfnkaaW.PrintLast Go.Proofs.YtgcmpckfmpfnkaaW.PrintMore
theorem FnExactConstants : laws_FnExactConstants.Pure := rfl
end Go.Proofs.Ytgcmpckfmpfnkaa.Pure

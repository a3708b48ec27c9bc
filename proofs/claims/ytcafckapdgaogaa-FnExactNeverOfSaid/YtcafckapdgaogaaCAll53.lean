/- Walks of functions that some laws of this seat reach, in the form of the print. -/
import Derived.Test.YtcafckapdgaogaaCAll1
import Derived.Test.YtcafckapdgaogaaV2
import Derived.Shelf.Abstract
-- PRINTED
namespace Go.Proofs.Ytcafckapdgaogaa.PAll
open Go.RowKit Go.Proofs.YtcafckapdgaogaaW.PrintWords Go.Proofs.YtcafckapdgaogaaW.PrintLast Go.Proofs.YtcafckapdgaogaaW.PrintMore
attribute [local go_sem] max2_int min2_int max_two min_two max_three min_three max_four min_four
set_option linter.unusedVariables false
set_option linter.unusedSimpArgs false


/-! ### impl_areBad: function 81 -/
def badB (n : Int) : Bool := decide (n < 0) || decide (27 ≤ n)
def impl_areBad.f (l0 : List Int) : Option (Bool) := some (decide (l0.length ≤ 27) && !(l0.any badB))
end Go.Proofs.Ytcafckapdgaogaa.PAll

/- Walks by hand of functions that some laws of this seat reach: numbersOf. -/
import Derived.Test.YtcafckapdgaogaaCAll61
import Derived.Shelf.Abstract
import Derived.Maps.OwnSet
import Derived.Shelf.SlIterI.Nil
namespace Go.Proofs.Ytcafckapdgaogaa.PAll
open Go.RowKit Go.Proofs.YtcafckapdgaogaaW.PrintWords Go.Proofs.YtcafckapdgaogaaW.PrintLast Go.Proofs.YtcafckapdgaogaaW.PrintMore
set_option linter.unusedVariables false
set_option linter.unusedSimpArgs false

/-! ### impl_numbersOf: function 89 -/
/-! the numbers of a map, in ascending order -/
def sortedKeys (D : List (Int × Int)) : List Int := (D.map (·.1)).mergeSort (fun x y => decide (x ≤ y))
section
open Go.Shelf Go.Sort
end

end Go.Proofs.Ytcafckapdgaogaa.PAll

/- Walks by hand of functions that some laws of this seat reach: numbersOf. -/
import Derived.Test.YtkogboechfieeaaCAll73
import Derived.Shelf.Abstract
import Derived.Maps.OwnSet
import Derived.Shelf.SlIterI.Nil
namespace Go.Proofs.Ytkogboechfieeaa.PAll
open Go.RowKit Go.Proofs.YtkogboechfieeaaW.PrintWords Go.Proofs.YtkogboechfieeaaW.PrintLast Go.Proofs.YtkogboechfieeaaW.PrintMore
set_option linter.unusedVariables false
set_option linter.unusedSimpArgs false

/-! ### impl_numbersOf: function 0 -/
/-! the numbers of a map, in ascending order -/
section
open Go.Shelf Go.Sort
end

end Go.Proofs.Ytkogboechfieeaa.PAll

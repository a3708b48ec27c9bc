/- Walks of functions that laws of this seat reach, in the form of the print. -/
import Derived.Test.YtkogboechfieeaaCAll0
import Derived.Test.YtkogboechfieeaaCAll1
import Derived.Test.YtkogboechfieeaaCAll17
import Derived.Test.YtkogboechfieeaaCAll6
import Derived.Test.YtkogboechfieeaaCAll9
import Derived.Test.YtkogboechfieeaaZ
-- PRINTED
namespace Go.Proofs.Ytkogboechfieeaa.PAll
open Go.RowKit Go.Proofs.YtkogboechfieeaaW.PrintWords Go.Proofs.YtkogboechfieeaaW.PrintLast Go.Proofs.YtkogboechfieeaaW.PrintMore
attribute [local go_sem] max2_int min2_int max_two min_two max_three min_three max_four min_four
set_option linter.unusedVariables false
set_option linter.unusedSimpArgs false

/-! ### impl_mayAct: function 78 -/
def impl_mayAct.f (k : Nat) (a0_0 : Int) (l0_1 : List Int) (l0_2 : List (List (S37))) (l1 : List Int) (a2_0 : Int) (a2_1 : Int) (a2_2 : Int) : Option (Bool) := (impl_isCrowd.f a0_0 a2_2).bind fun t650 => (if t650 = true then ((impl_mayChange.f k a0_0 l0_1 l0_2 l1 a2_0 a2_1 a2_2).bind fun t651 => (some t651)) else (some false))
/-! ### impl_AfterActs: function 32 -/
end Go.Proofs.Ytkogboechfieeaa.PAll

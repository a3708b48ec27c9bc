/- Walks of functions that laws of this seat reach, in the form of the print. -/
import Derived.Test.YtkogboechfieeaaCAll30
-- PRINTED
namespace Go.Proofs.Ytkogboechfieeaa.PAll
open Go.RowKit Go.Proofs.YtkogboechfieeaaW.PrintWords Go.Proofs.YtkogboechfieeaaW.PrintLast Go.Proofs.YtkogboechfieeaaW.PrintMore
attribute [local go_sem] max2_int min2_int max_two min_two max_three min_three max_four min_four
set_option linter.unusedVariables false
set_option linter.unusedSimpArgs false

/-! ### spec_SafeFor: function 43 -/
def spec_SafeFor.f (k : Nat) (a0_0 : Int) (l0_1 : List Int) (l0_2 : List (List (S37))) (l1 : List Int) (l2 : List Int) (a3 : Int) : Option (Bool) := (spec_l11Ok.f k a0_0 l0_1 l0_2 l1 l2).bind fun t24 => (if t24 = true then ((spec_CrowdOk.f a0_0 a3).bind fun t25 => (if t25 = true then ((spec_l11Breaks.f k a0_0 l0_1 l0_2 l1 l2 a3).bind fun t26 => (some (!t26))) else (some false))) else (some false))
-- NOT PRINTED: function 70 (impl_safeFor)

-- NOT PRINTED: function 22 (impl_SafeFor)

-- NOT PRINTED: function 12 (laws_FnExactSafeFor)

end Go.Proofs.Ytkogboechfieeaa.PAll

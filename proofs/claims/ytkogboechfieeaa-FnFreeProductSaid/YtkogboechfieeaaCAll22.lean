/- Walks of functions that laws of this seat reach, in the form of the print. -/
import Derived.Test.YtkogboechfieeaaCAll18
import Derived.Test.YtkogboechfieeaaCAll21
-- PRINTED
namespace Go.Proofs.Ytkogboechfieeaa.PAll
open Go.RowKit Go.Proofs.YtkogboechfieeaaW.PrintWords Go.Proofs.YtkogboechfieeaaW.PrintLast Go.Proofs.YtkogboechfieeaaW.PrintMore
attribute [local go_sem] max2_int min2_int max_two min_two max_three min_three max_four min_four
set_option linter.unusedVariables false
set_option linter.unusedSimpArgs false

/-! ### spec_MayChange: function 27 -/
def spec_MayChange.f (k : Nat) (a0_0 : Int) (l0_1 : List Int) (l0_2 : List (List (S37))) (l1 : List Int) (a2 : Int) (a3 : Int) (a4 : Int) : Option (Bool) := (spec_StateOk.f k a0_0 l0_1 l0_2 l1).bind fun t44 => (if t44 = true then ((spec_CrowdOk.f a0_0 a4).bind fun t45 => (if t45 = true then ((spec_l1In.f a2 0 (wrap64 ((l0_2.length : Int) - 1))).bind fun t47 => (if t47 = true then (if 0 ≤ a2 then (if a2 < (l0_2.length : Int) then ((spec_l1In.f a3 0 (wrap64 (((rd_L5 l0_2 a2).length : Int) - 1))).bind fun t48 => (if t48 = true then ((spec_l8May.f k a0_0 l0_1 l0_2 l1 a2 a3 a4).bind fun t49 => (some t49)) else (some false))) else (none)) else (none)) else (some false))) else (some false))) else (some false))
/-! ### laws_hasInt: function 28 -/
def laws_hasInt.l0 : Nat → List Int → Int → Int → Option (Bool)
 | 0, _, _, _ => none
 | k + 1, x0, x1, x5 => if x5 < (x0.length : Int) then (if 0 ≤ x5 then (if (rd x0 x5) = x1 then (some true) else (laws_hasInt.l0 k x0 x1 (wrap64 (x5 + 1)))) else (none)) else (some false)
def laws_hasInt.f (k : Nat) (l0 : List Int) (a1 : Int) : Option (Bool) := laws_hasInt.l0 k l0 a1 0
/-! ### impl_StateNumber: function 29 -/
def impl_StateNumber.f (k : Nat) (a0_0 : Int) (l0_1 : List Int) (l0_2 : List (List (S37))) (l1 : List Int) : Option (Int) := (impl_isState.f k a0_0 l0_1 l0_2 l1).bind fun t42 => (if t42 = true then ((impl_stateNumber.f k l1).bind fun t43 => (some t43)) else (some (-1)))
end Go.Proofs.Ytkogboechfieeaa.PAll

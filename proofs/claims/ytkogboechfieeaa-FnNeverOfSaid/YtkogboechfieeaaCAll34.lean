/- Walks of functions that laws of this seat reach, in the form of the print. -/
import Derived.Test.YtkogboechfieeaaCAll28
import Derived.Test.YtkogboechfieeaaCAll33
-- PRINTED
namespace Go.Proofs.Ytkogboechfieeaa.PAll
open Go.RowKit Go.Proofs.YtkogboechfieeaaW.PrintWords Go.Proofs.YtkogboechfieeaaW.PrintLast Go.Proofs.YtkogboechfieeaaW.PrintMore
attribute [local go_sem] max2_int min2_int max_two min_two max_three min_three max_four min_four
set_option linter.unusedVariables false
set_option linter.unusedSimpArgs false

/-! ### spec_AmendersOf: function 49 -/
mutual
def spec_AmendersOf.j0 : Nat → List Int → List Int → Bool → Int → List Int → List (List (S37)) → Option (List Int)
 | 0, _, _, _, _, _, _ => none
 | k + 1, x1, x2, x18, x1284000, x1284001, x1284002 => if x18 = true then (some (([] : List Int))) else (spec_AmendersOf.l0 k x1 x2 (([] : List Int)) 0 x1284000 x1284001 x1284002)
def spec_AmendersOf.l0 : Nat → List Int → List Int → List Int → Int → Int → List Int → List (List (S37)) → Option (List Int)
 | 0, _, _, _, _, _, _, _ => none
 | k + 1, x1, x2, x7, x8, x1284000, x1284001, x1284002 => if 0 ≤ x1284000 then (if x8 < (shl .i64 1 x1284000) then ((spec_l8Code.f k x1).bind fun t1295 => ((spec_l8Reach.f k x1284000 x1284001 x1284002 t1295 x8).bind fun t1296 => ((spec_l8Code.f k x2).bind fun t1299 => (if 0 ≤ t1299 then (if t1299 < (t1296.length : Int) then (if (rd t1296 t1299) ≥ 0 then (if x7.length < 17592186044416 then (spec_AmendersOf.l0 k x1 x2 (x7 ++ [x8]) (wrap64 (x8 + 1)) x1284000 x1284001 x1284002) else (none)) else (spec_AmendersOf.l0 k x1 x2 x7 (wrap64 (x8 + 1)) x1284000 x1284001 x1284002)) else (none)) else (none))))) else ((spec_l1Least.f k x1284000 x7).bind fun t1292 => (some t1292))) else (none)
end
def spec_AmendersOf.f (k : Nat) (a0_0 : Int) (l0_1 : List Int) (l0_2 : List (List (S37))) (l1 : List Int) (l2 : List Int) : Option (List Int) := (spec_StateOk.f k a0_0 l0_1 l0_2 l1).bind fun t1284 => (if t1284 = true then ((spec_StateOk.f k a0_0 l0_1 l0_2 l2).bind fun t1285 => (spec_AmendersOf.j0 k l1 l2 (!t1285) a0_0 l0_1 l0_2)) else (spec_AmendersOf.j0 k l1 l2 true a0_0 l0_1 l0_2))
-- NOT PRINTED: function 148 (slices_Compact_int_int)

-- NOT PRINTED: function 123 (impl_leastCrowds)

-- NOT PRINTED: function 97 (impl_leastOf)

-- NOT PRINTED: function 48 (impl_AmendersOf)

-- NOT PRINTED: function 14 (laws_FnExactAmendersOf)

end Go.Proofs.Ytkogboechfieeaa.PAll

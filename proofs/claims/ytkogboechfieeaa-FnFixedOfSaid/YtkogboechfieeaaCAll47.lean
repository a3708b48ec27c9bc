/- Walks of functions that laws of this seat reach, in the form of the print. -/
import Derived.Test.YtkogboechfieeaaCAll41
-- PRINTED
namespace Go.Proofs.Ytkogboechfieeaa.PAll
open Go.RowKit Go.Proofs.YtkogboechfieeaaW.PrintWords Go.Proofs.YtkogboechfieeaaW.PrintLast Go.Proofs.YtkogboechfieeaaW.PrintMore
attribute [local go_sem] max2_int min2_int max_two min_two max_three min_three max_four min_four
set_option linter.unusedVariables false
set_option linter.unusedSimpArgs false

/-! ### spec_DrawChangesTo: function 40 -/
def spec_DrawChangesTo.l0 : Nat → List Int → List Int → Int → List Int → Int → Int → List Int → List (List (S37)) → Option (Int × List Int × (List (List (S37))) × List Int × List Int × Int)
 | 0, _, _, _, _, _, _, _, _ => none
 | k + 1, x8, x9, x10, x594000, x594001, x606000, x606001, x606002 => if x10 < (x8.length : Int) then (if x10 < (x606002.length : Int) then (if 0 ≤ x10 then ((spec_l20Rd_pick.f k x594000 x594001 3).bind fun bt610 => (if (mx ((rd_L5 x606002 x10).length : Int) 1) = 0 then (none) else (if x9.length < 17592186044416 then (spec_DrawChangesTo.l0 k x8 (x9 ++ [Int.tmod bt610.1 (mx ((rd_L5 x606002 x10).length : Int) 1)]) (wrap64 (x10 + 1)) x594000 bt610.2 x606000 x606001 x606002) else (none)))) else (none)) else ((spec_l20Rd_pick.f k x594000 x594001 3).bind fun bt615 => (if x9.length < 17592186044416 then (spec_DrawChangesTo.l0 k x8 (x9 ++ [Int.tmod bt615.1 1]) (wrap64 (x10 + 1)) x594000 bt615.2 x606000 x606001 x606002) else (none)))) else ((spec_l20Crowd.f k x594000 x594001 x606000 x606001).bind fun bt620 => (some (x606000, x606001, x606002, x8, x9, bt620.1)))
def spec_DrawChangesTo.f (k : Nat) (l0 : List Int) : Option (Int × List Int × (List (List (S37))) × List Int × List Int × Int) := (spec_l20Open.f l0).bind fun bt591 => ((spec_l20State.f k bt591.1 bt591.2 14).bind fun bt594 => (spec_DrawChangesTo.l0 k bt594.2.2.2.1 (([] : List Int)) 0 bt591.1 bt594.2.2.2.2 bt594.1 bt594.2.1 bt594.2.2.1))
end Go.Proofs.Ytkogboechfieeaa.PAll

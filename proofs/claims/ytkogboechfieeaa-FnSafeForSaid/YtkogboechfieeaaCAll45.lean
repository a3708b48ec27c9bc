/- Walks of functions that laws of this seat reach, in the form of the print. -/
import Derived.Test.YtkogboechfieeaaCAll0
import Derived.Test.YtkogboechfieeaaCAll1
import Derived.Test.YtkogboechfieeaaCAll37
import Derived.Test.YtkogboechfieeaaCAll40
import Derived.Test.YtkogboechfieeaaCAll44
import Derived.Test.YtkogboechfieeaaZ
-- PRINTED
namespace Go.Proofs.Ytkogboechfieeaa.PAll
open Go.RowKit Go.Proofs.YtkogboechfieeaaW.PrintWords Go.Proofs.YtkogboechfieeaaW.PrintLast Go.Proofs.YtkogboechfieeaaW.PrintMore
attribute [local go_sem] max2_int min2_int max_two min_two max_three min_three max_four min_four
set_option linter.unusedVariables false
set_option linter.unusedSimpArgs false

/-! ### spec_l20Acted: function 77 -/
def spec_l20Acted.l0 : Nat → List Int → List (S59) → Int → List Int → Int → Int → List Int → List (List (S37)) → Option (Int × List Int × (List (List (S37))) × List Int × (List (S59)) × Int)
 | 0, _, _, _, _, _, _, _, _ => none
 | k + 1, x6, x7, x8, x1000, x1001, x776000, x776001, x776002 => if x8 > 0 then ((spec_l20Act.f k x1000 x1001 x776000 x776001 x776002).bind fun bt783 => (if x7.length < 5864062014805 then (spec_l20Acted.l0 k x6 (x7 ++ [(⟨bt783.1, bt783.2.1, bt783.2.2.1⟩ : S59)]) (wrap64 (x8 - 1)) x1000 bt783.2.2.2 x776000 x776001 x776002) else (none))) else (some (x776000, x776001, x776002, x6, x7, x1001))
def spec_l20Acted.f (k : Nat) (s0_0 : List Int) (s0_1 : Int) : Option (Int × List Int × (List (List (S37))) × List Int × (List (S59)) × Int) := (spec_l20State.f k s0_0 s0_1 14).bind fun bt764 => ((spec_l20Rd_pick.f k s0_0 bt764.2.2.2.2 8).bind fun bt779 => ((spec_l20Rd_pick.f k s0_0 bt779.2 60).bind fun bt781 => (spec_l20Acted.l0 k bt764.2.2.2.1 (([] : List (S59))) (wrap64 (bt779.1 + (wrap64 ((wrap64 (Int.tdiv bt781.1 59)) * 6)))) s0_0 bt781.2 bt764.1 bt764.2.1 bt764.2.2.1)))
end Go.Proofs.Ytkogboechfieeaa.PAll

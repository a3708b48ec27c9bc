/- Walks of functions that laws of this seat reach, in the form of the print. -/
import Derived.Test.YtkogboechfieeaaCAll41
-- PRINTED
namespace Go.Proofs.Ytkogboechfieeaa.PAll
open Go.RowKit Go.Proofs.YtkogboechfieeaaW.PrintWords Go.Proofs.YtkogboechfieeaaW.PrintLast Go.Proofs.YtkogboechfieeaaW.PrintMore
attribute [local go_sem] max2_int min2_int max_two min_two max_three min_three max_four min_four
set_option linter.unusedVariables false
set_option linter.unusedSimpArgs false

/-! ### spec_l20Act: function 103 -/
mutual
def spec_l20Act.j0 : Nat → Bool → List Int → Int → Int → List Int → List (List (S37)) → Int → Int → Int → Option (Int × Int × Int × Int)
 | 0, _, _, _, _, _, _, _, _, _ => none
 | k + 1, x28, x1000, x1001, x455000, x455001, x455002, x461000, x461001, x461002 => if x28 = true then (if 0 ≤ x461000 then (if x461000 < (x455002.length : Int) then ((spec_l20Rd_pick.f k x1000 x1001 (mx ((rd_L5 x455002 x461000).length : Int) 1)).bind fun bt466 => (spec_l20Act.j1 k x1000 bt466.2 x461000 bt466.1 x461002)) else (none)) else (none)) else (spec_l20Act.j1 k x1000 x1001 x461000 x461001 x461002)
def spec_l20Act.j1 : Nat → List Int → Int → Int → Int → Int → Option (Int × Int × Int × Int)
 | 0, _, _, _, _, _ => none
 | k + 1, x1000, x1001, x461000, x461001, x461002 => (spec_l20Rd_odd.f k x1000 x1001 30).bind fun bt468 => (if bt468.1 = true then ((some (([(-1), 3] : List Int) : List Int)).bind fun y470 => ((spec_l20Rd_pick.f k x1000 bt468.2 2).bind fun bt473 => (if 0 ≤ bt473.1 then (if bt473.1 < (y470.length : Int) then (some (rd y470 bt473.1, x461001, x461002, bt473.2)) else (none)) else (none)))) else (some (x461000, x461001, x461002, bt468.2)))
end
def spec_l20Act.f (k : Nat) (s0_0 : List Int) (s0_1 : Int) (a1_0 : Int) (l1_1 : List Int) (l1_2 : List (List (S37))) : Option (Int × Int × Int × Int) := (spec_l20Rd_pick.f k s0_0 s0_1 (mx (l1_2.length : Int) 1)).bind fun bt456 => ((spec_l20Crowd.f k s0_0 bt456.2 a1_0 l1_1).bind fun bt458 => ((spec_l20Rd_pick.f k s0_0 bt458.2 3).bind fun bt461 => ((spec_l20Rd_pick.f k s0_0 bt461.2 3).bind fun bt463 => (if bt463.1 > 0 then (spec_l20Act.j0 k (decide ((l1_2.length : Int) > 0)) s0_0 bt463.2 a1_0 l1_1 l1_2 bt456.1 bt461.1 bt458.1) else (spec_l20Act.j0 k false s0_0 bt463.2 a1_0 l1_1 l1_2 bt456.1 bt461.1 bt458.1)))))
end Go.Proofs.Ytkogboechfieeaa.PAll

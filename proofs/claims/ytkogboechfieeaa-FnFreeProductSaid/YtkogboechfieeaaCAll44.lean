/- Walks of functions that laws of this seat reach, in the form of the print. -/
import Derived.Test.YtkogboechfieeaaCAll41
-- PRINTED
namespace Go.Proofs.Ytkogboechfieeaa.PAll
open Go.RowKit Go.Proofs.YtkogboechfieeaaW.PrintWords Go.Proofs.YtkogboechfieeaaW.PrintLast Go.Proofs.YtkogboechfieeaaW.PrintMore
attribute [local go_sem] max2_int min2_int max_two min_two max_three min_three max_four min_four
set_option linter.unusedVariables false
set_option linter.unusedSimpArgs false

/-! ### spec_l20Act: function 103 -/
mutual
def spec_l20Act.j0 : Nat → Bool → List Int → Int → Int → List Int → List (List (S37)) → Int → Int → Int → Option (Int × Int × Int × Int)
 | 0, _, _, _, _, _, _, _, _, _ => none
 | k + 1, x28, x87, x78, x100, x101, x91, x82, x76, x84 => if x28 = true then (if 0 ≤ x82 then (if x82 < (x91.length : Int) then ((spec_l20Rd_pick.f k x87 x78 (mx ((rd_L5 x91 x82).length : Int) 1)).bind fun bt88 => (spec_l20Act.j1 k x87 bt88.2 x82 bt88.1 x84)) else (none)) else (none)) else (spec_l20Act.j1 k x87 x78 x82 x76 x84)
def spec_l20Act.j1 : Nat → List Int → Int → Int → Int → Int → Option (Int × Int × Int × Int)
 | 0, _, _, _, _, _ => none
 | k + 1, x87, x78, x82, x76, x84 => (spec_l20Rd_odd.f k x87 x78 30).bind fun bt93 => (if bt93.1 = true then ((some (([(-1), 3] : List Int) : List Int)).bind fun y83 => ((spec_l20Rd_pick.f k x87 bt93.2 2).bind fun bt79 => (if 0 ≤ bt79.1 then (if bt79.1 < (y83.length : Int) then (some (rd y83 bt79.1, x76, x84, bt79.2)) else (none)) else (none)))) else (some (x82, x76, x84, bt93.2)))
end
def spec_l20Act.f (k : Nat) (s0_0 : List Int) (s0_1 : Int) (a1_0 : Int) (l1_1 : List Int) (l1_2 : List (List (S37))) : Option (Int × Int × Int × Int) := (spec_l20Rd_pick.f k s0_0 s0_1 (mx (l1_2.length : Int) 1)).bind fun bt75 => ((spec_l20Crowd.f k s0_0 bt75.2 a1_0 l1_1).bind fun bt77 => ((spec_l20Rd_pick.f k s0_0 bt77.2 3).bind fun bt80 => ((spec_l20Rd_pick.f k s0_0 bt80.2 3).bind fun bt86 => (if bt86.1 > 0 then (spec_l20Act.j0 k (decide ((l1_2.length : Int) > 0)) s0_0 bt86.2 a1_0 l1_1 l1_2 bt75.1 bt80.1 bt77.1) else (spec_l20Act.j0 k false s0_0 bt86.2 a1_0 l1_1 l1_2 bt75.1 bt80.1 bt77.1)))))
end Go.Proofs.Ytkogboechfieeaa.PAll

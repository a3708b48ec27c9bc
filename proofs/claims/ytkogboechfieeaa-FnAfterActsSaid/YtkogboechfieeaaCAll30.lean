/- Walks of functions that laws of this seat reach, in the form of the print. -/
import Derived.Test.YtkogboechfieeaaCAll28
import Derived.Maps.OwnSet
import Derived.Shelf.Abstract
-- PRINTED
namespace Go.Proofs.Ytkogboechfieeaa.PAll
open Go.RowKit Go.Proofs.YtkogboechfieeaaW.PrintWords Go.Proofs.YtkogboechfieeaaW.PrintLast Go.Proofs.YtkogboechfieeaaW.PrintMore
attribute [local go_sem] max2_int min2_int max_two min_two max_three min_three max_four min_four
set_option linter.unusedVariables false
set_option linter.unusedSimpArgs false

/-! ### spec_ChangesTo: function 41 -/
def spec_ChangesTo.j0 : Nat → List Int → List Int → Int → Bool → Int → List Int → List (List (S37)) → Option (Int)
 | 0, _, _, _, _, _, _, _ => none
 | k + 1, x1, x2, x3, x26, x899000, x899001, x899002 => if x26 = true then (some (-1)) else ((spec_l8Code.f k x1).bind fun t902 => ((spec_l8Reach.f k x899000 x899001 x899002 t902 x3).bind fun t903 => ((spec_l8Code.f k x2).bind fun t906 => (if 0 ≤ t906 then (if t906 < (t903.length : Int) then (some (rd t903 t906)) else (none)) else (none)))))
def spec_ChangesTo.f (k : Nat) (a0_0 : Int) (l0_1 : List Int) (l0_2 : List (List (S37))) (l1 : List Int) (l2 : List Int) (a3 : Int) : Option (Int) := (spec_StateOk.f k a0_0 l0_1 l0_2 l1).bind fun t899 => (if t899 = true then ((spec_StateOk.f k a0_0 l0_1 l0_2 l2).bind fun t900 => (if t900 = true then ((spec_CrowdOk.f a0_0 a3).bind fun t901 => (spec_ChangesTo.j0 k l1 l2 a3 (!t901) a0_0 l0_1 l0_2)) else (spec_ChangesTo.j0 k l1 l2 a3 true a0_0 l0_1 l0_2))) else (spec_ChangesTo.j0 k l1 l2 a3 true a0_0 l0_1 l0_2))
-- NOT PRINTED: function 88 (impl_reach)

-- NOT PRINTED: function 30 (impl_ChangesTo)

-- NOT PRINTED: function 9 (laws_FnExactChangesTo)

/-! ### spec_l11Ok: function 81 -/
def spec_l11Ok.l0 : Nat → List Int → List Int → Int → Int → List Int → List (List (S37)) → Option (Bool)
 | 0, _, _, _, _, _, _ => none
 | k + 1, x1, x2, x7, x1169000, x1169001, x1169002 => if x7 < (x2.length : Int) then (if 0 ≤ x7 then ((spec_l1In.f (rd x2 x7) 0 26).bind fun t1170 => (if t1170 = true then (spec_l11Ok.l0 k x1 x2 (wrap64 (x7 + 1)) x1169000 x1169001 x1169002) else (some false))) else (none)) else ((spec_StateOk.f k x1169000 x1169001 x1169002 x1).bind fun t1171 => (if t1171 = true then (some (decide ((x2.length : Int) ≤ 27))) else (some false)))
def spec_l11Ok.f (k : Nat) (a0_0 : Int) (l0_1 : List Int) (l0_2 : List (List (S37))) (l1 : List Int) (l2 : List Int) : Option (Bool) := spec_l11Ok.l0 k l1 l2 0 a0_0 l0_1 l0_2
/-! ### spec_l11Breaks: function 82 -/
def spec_l11Breaks.l0 : Nat → List Int → List Int → Int → Option (Bool)
 | 0, _, _, _ => none
 | k + 1, x2, x9, x10 => if x10 < (x2.length : Int) then (if 0 ≤ x10 then (if 0 ≤ (rd x2 x10) then (if (rd x2 x10) < (x9.length : Int) then (if (rd x9 (rd x2 x10)) ≥ 0 then (some true) else (spec_l11Breaks.l0 k x2 x9 (wrap64 (x10 + 1)))) else (none)) else (none)) else (none)) else (some false)
def spec_l11Breaks.f (k : Nat) (a0_0 : Int) (l0_1 : List Int) (l0_2 : List (List (S37))) (l1 : List Int) (l2 : List Int) (a3 : Int) : Option (Bool) := (spec_l8Code.f k l1).bind fun t1177 => ((spec_l8Reach.f k a0_0 l0_1 l0_2 t1177 a3).bind fun t1178 => (spec_l11Breaks.l0 k l2 t1178 0))
end Go.Proofs.Ytkogboechfieeaa.PAll

/- Walks of functions that laws of this seat reach, in the form of the print. -/
import Derived.Test.YtkogboechfieeaaCAll21
import Derived.Test.YtkogboechfieeaaCAll27
-- PRINTED
namespace Go.Proofs.Ytkogboechfieeaa.PAll
open Go.RowKit Go.Proofs.YtkogboechfieeaaW.PrintWords Go.Proofs.YtkogboechfieeaaW.PrintLast Go.Proofs.YtkogboechfieeaaW.PrintMore
attribute [local go_sem] max2_int min2_int max_two min_two max_three min_three max_four min_four
set_option linter.unusedVariables false
set_option linter.unusedSimpArgs false

/-! ### spec_l8Reach: function 79 -/
mutual
def spec_l8Reach.l0 : Nat → Int → Int → List Int → Int → Int → List Int → List (List (S37)) → Option (List Int)
 | 0, _, _, _, _, _, _, _ => none
 | k + 1, x1, x2, x7, x8, x68, x70, x66 => if x8 < 27 then (if x7.length < 17592186044416 then (spec_l8Reach.l0 k x1 x2 (x7 ++ [(-1)]) (wrap64 (x8 + 1)) x68 x70 x66) else (none)) else (if 0 ≤ x1 then (if x1 < (x7.length : Int) then (spec_l8Reach.l1 k x2 (x7.set (x1 : Int).toNat 0) 0 x68 x70 x66) else (none)) else (none))
def spec_l8Reach.l1 : Nat → Int → List Int → Int → Int → List Int → List (List (S37)) → Option (List Int)
 | 0, _, _, _, _, _, _ => none
 | k + 1, x2, x7, x9, x68, x70, x66 => if x9 < (x7.length : Int) then (spec_l8Reach.l2 k x2 x7 x9 0 x68 x70 x66) else (some x7)
def spec_l8Reach.l2 : Nat → Int → List Int → Int → Int → Int → List Int → List (List (S37)) → Option (List Int)
 | 0, _, _, _, _, _, _, _ => none
 | k + 1, x2, x7, x9, x10, x68, x70, x66 => if x10 < (x7.length : Int) then (if 0 ≤ x10 then (if (rd x7 x10) = x9 then ((spec_l8State.f k x68 x70 x66 x10).bind fun t92 => (spec_l8Reach.l3 k x2 x7 x9 x10 t92 0 x68 x70 x66)) else (spec_l8Reach.l2 k x2 x7 x9 (wrap64 (x10 + 1)) x68 x70 x66)) else (none)) else (spec_l8Reach.l1 k x2 x7 (wrap64 (x9 + 1)) x68 x70 x66)
def spec_l8Reach.l3 : Nat → Int → List Int → Int → Int → List Int → Int → Int → List Int → List (List (S37)) → Option (List Int)
 | 0, _, _, _, _, _, _, _, _, _ => none
 | k + 1, x2, x7, x9, x10, x11, x12, x68, x70, x66 => if x12 < (x66.length : Int) then (spec_l8Reach.l4 k x2 x7 x9 x10 x11 x12 0 x68 x70 x66) else (spec_l8Reach.l2 k x2 x7 x9 (wrap64 (x10 + 1)) x68 x70 x66)
def spec_l8Reach.l4 : Nat → Int → List Int → Int → Int → List Int → Int → Int → Int → List Int → List (List (S37)) → Option (List Int)
 | 0, _, _, _, _, _, _, _, _, _, _ => none
 | k + 1, x2, x7, x9, x10, x11, x12, x13, x68, x70, x66 => if 0 ≤ x12 then (if x12 < (x66.length : Int) then (if x13 < ((rd_L5 x66 x12).length : Int) then ((spec_l8May.f k x68 x70 x66 x11 x12 x13 x2).bind fun t94 => (if t94 = true then ((some (([] : List Int) : List Int)).bind fun y83 => (if y83.length + x11.length < 17592186044416 then ((some (y83 ++ x11 : List Int)).bind fun y67 => (if x12 < (y67.length : Int) then ((some (y67.set (x12 : Int).toNat x13 : List Int)).bind fun y73 => ((spec_l8Code.f k y73).bind fun t81 => (if 0 ≤ t81 then (if t81 < (x7.length : Int) then (if (rd x7 t81) < 0 then ((spec_l8Code.f k y73).bind fun t82 => (if 0 ≤ t82 then (if t82 < (x7.length : Int) then (spec_l8Reach.l4 k x2 (x7.set (t82 : Int).toNat (wrap64 (x9 + 1))) x9 x10 x11 x12 (wrap64 (x13 + 1)) x68 x70 x66) else (none)) else (none))) else (spec_l8Reach.l4 k x2 x7 x9 x10 x11 x12 (wrap64 (x13 + 1)) x68 x70 x66)) else (none)) else (none)))) else (none))) else (none))) else (spec_l8Reach.l4 k x2 x7 x9 x10 x11 x12 (wrap64 (x13 + 1)) x68 x70 x66))) else (spec_l8Reach.l3 k x2 x7 x9 x10 x11 (wrap64 (x12 + 1)) x68 x70 x66)) else (none)) else (none)
end
def spec_l8Reach.f (k : Nat) (a0_0 : Int) (l0_1 : List Int) (l0_2 : List (List (S37))) (a1 : Int) (a2 : Int) : Option (List Int) := spec_l8Reach.l0 k a1 a2 (([] : List Int)) 0 a0_0 l0_1 l0_2
end Go.Proofs.Ytkogboechfieeaa.PAll

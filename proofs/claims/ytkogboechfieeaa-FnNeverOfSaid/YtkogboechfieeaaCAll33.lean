/- Walks of functions that laws of this seat reach, in the form of the print. -/
import Derived.Test.YtkogboechfieeaaCAll1
-- PRINTED
namespace Go.Proofs.Ytkogboechfieeaa.PAll
open Go.RowKit Go.Proofs.YtkogboechfieeaaW.PrintWords Go.Proofs.YtkogboechfieeaaW.PrintLast Go.Proofs.YtkogboechfieeaaW.PrintMore
attribute [local go_sem] max2_int min2_int max_two min_two max_three min_three max_four min_four
set_option linter.unusedVariables false
set_option linter.unusedSimpArgs false

/-! ### spec_l1Least: function 86 -/
mutual
def spec_l1Least.l0 : Nat → Int → List Int → List Int → Int → Option (List Int)
 | 0, _, _, _, _ => none
 | k + 1, x0, x1, x5, x6 => if 0 ≤ x0 then (if x6 < (shl .i64 1 x0) then (spec_l1Least.l1 k x0 x1 x5 x6 false true 0) else (some x5)) else (none)
def spec_l1Least.l1 : Nat → Int → List Int → List Int → Int → Bool → Bool → Int → Option (List Int)
 | 0, _, _, _, _, _, _, _ => none
 | k + 1, x0, x1, x5, x6, x7, x8, x9 => if x9 < (x1.length : Int) then (if x7 = true then (if x8 = true then (if 0 ≤ x9 then (if (rd x1 x9) = x6 then (spec_l1Least.l1 k x0 x1 x5 x6 true true (wrap64 (x9 + 1))) else (spec_l1Least.l1 k x0 x1 x5 x6 true ((Go.bits .and .i64 (rd x1 x9) x6) != (rd x1 x9)) (wrap64 (x9 + 1)))) else (none)) else (spec_l1Least.l1 k x0 x1 x5 x6 true false (wrap64 (x9 + 1)))) else (if 0 ≤ x9 then (if x8 = true then (if (rd x1 x9) = x6 then (spec_l1Least.l1 k x0 x1 x5 x6 ((rd x1 x9) == x6) true (wrap64 (x9 + 1))) else (spec_l1Least.l1 k x0 x1 x5 x6 ((rd x1 x9) == x6) ((Go.bits .and .i64 (rd x1 x9) x6) != (rd x1 x9)) (wrap64 (x9 + 1)))) else (spec_l1Least.l1 k x0 x1 x5 x6 ((rd x1 x9) == x6) false (wrap64 (x9 + 1)))) else (none))) else (if x7 = true then (if x8 = true then (if x5.length < 17592186044416 then (spec_l1Least.l0 k x0 x1 (x5 ++ [x6]) (wrap64 (x6 + 1))) else (none)) else (spec_l1Least.l0 k x0 x1 x5 (wrap64 (x6 + 1)))) else (spec_l1Least.l0 k x0 x1 x5 (wrap64 (x6 + 1))))
end
def spec_l1Least.f (k : Nat) (a0 : Int) (l1 : List Int) : Option (List Int) := spec_l1Least.l0 k a0 l1 (([] : List Int)) 0
end Go.Proofs.Ytkogboechfieeaa.PAll

/- Walks of functions that laws of this seat reach, in the form of the print. -/
import Derived.Test.YtojoblllgddckaaCAll0
import Derived.Test.YtojoblllgddckaaCAll1
import Derived.Test.YtojoblllgddckaaCAll5
import Derived.Test.YtojoblllgddckaaZ
-- PRINTED
namespace Go.Proofs.Ytojoblllgddckaa.PAll
open Go.RowKit Go.Proofs.YtojoblllgddckaaW.PrintWords Go.Proofs.YtojoblllgddckaaW.PrintLast Go.Proofs.YtojoblllgddckaaW.PrintMore
attribute [local go_sem] max2_int min2_int max_two min_two max_three min_three max_four min_four
set_option linter.unusedVariables false
set_option linter.unusedSimpArgs false

/-! ### impl_swingsOf: function 51 -/
def impl_swingsOf.l0 : Nat → List (S35) → Int → List Int → Int → Int → Int → List Int → Option (List Int)
 | 0, _, _, _, _, _, _, _ => none
 | k + 1, x1, x2, x7, x12, x13, x230000, x230001 => if x13 < x12 then (if 0 ≤ x2 then (if (Go.bits .and .i64 (shr .i64 x13 x2) 1) = 0 then ((impl_consents.f k x230000 x230001 x1 x13).bind fun t233 => (if t233 = true then (impl_swingsOf.l0 k x1 x2 x7 x12 (wrap64 (x13 + 1)) x230000 x230001) else ((impl_consents.f k x230000 x230001 x1 (Go.bits .or .i64 x13 (shl .i64 1 x2))).bind fun t234 => (if t234 = true then (if x7.length < 17592186044416 then (impl_swingsOf.l0 k x1 x2 (x7 ++ [x13]) x12 (wrap64 (x13 + 1)) x230000 x230001) else (none)) else (impl_swingsOf.l0 k x1 x2 x7 x12 (wrap64 (x13 + 1)) x230000 x230001))))) else (impl_swingsOf.l0 k x1 x2 x7 x12 (wrap64 (x13 + 1)) x230000 x230001)) else (none)) else (some x7)
def impl_swingsOf.f (k : Nat) (a0_0 : Int) (l0_1 : List Int) (l1 : List (S35)) (a2 : Int) : Option (List Int) := if 0 ≤ a0_0 then (impl_swingsOf.l0 k l1 a2 (([] : List Int)) (shl .i64 1 a0_0) 0 a0_0 l0_1) else (none)
/-! ### impl_factorial: function 52 -/
def impl_factorial.l0 : Nat → Int → Int → Int → Option (Int)
 | 0, _, _, _ => none
 | k + 1, x0, x3, x4 => if x4 ≤ x0 then (impl_factorial.l0 k x0 (wrap64 (x3 * x4)) (wrap64 (x4 + 1))) else (some x3)
def impl_factorial.f (k : Nat) (a0 : Int) : Option (Int) := impl_factorial.l0 k a0 1 2
end Go.Proofs.Ytojoblllgddckaa.PAll

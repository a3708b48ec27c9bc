/- Walks of functions that laws of this seat reach, in the form of the print. -/
import Derived.Test.YtkogboechfieeaaCAll9
-- PRINTED
namespace Go.Proofs.Ytkogboechfieeaa.PAll
open Go.RowKit Go.Proofs.YtkogboechfieeaaW.PrintWords Go.Proofs.YtkogboechfieeaaW.PrintLast Go.Proofs.YtkogboechfieeaaW.PrintMore
attribute [local go_sem] max2_int min2_int max_two min_two max_three min_three max_four min_four
set_option linter.unusedVariables false
set_option linter.unusedSimpArgs false

/-! ### impl_StateOk: function 36 -/
def impl_StateOk.f (k : Nat) (a0_0 : Int) (l0_1 : List Int) (l0_2 : List (List (S37))) (l1 : List Int) : Option (Bool) := (impl_isState.f k a0_0 l0_1 l0_2 l1).bind fun t17 => (some t17)
/-! ### spec_l8Code: function 80 -/
def spec_l8Code.l0 : Nat → List Int → Int → Int → Option (Int)
 | 0, _, _, _ => none
 | k + 1, x0, x3, x4 => if x4 ≥ 0 then (if 0 ≤ x4 then (if x4 < (x0.length : Int) then (spec_l8Code.l0 k x0 (wrap64 ((wrap64 (x3 * 3)) + (rd x0 x4))) (wrap64 (x4 - 1))) else (none)) else (none)) else (some x3)
def spec_l8Code.f (k : Nat) (l0 : List Int) : Option (Int) := spec_l8Code.l0 k l0 0 (wrap64 ((l0.length : Int) - 1))
/-! ### spec_l8State: function 84 -/
def spec_l8State.l0 : Nat → Int → List Int → Int → Int → List Int → List (List (S37)) → Option (List Int)
 | 0, _, _, _, _, _, _ => none
 | k + 1, x1, x5, x6, x20, x21, x16 => if x6 < (x16.length : Int) then (if x5.length < 17592186044416 then (spec_l8State.l0 k (wrap64 (Int.tdiv x1 3)) (x5 ++ [Int.tmod x1 3]) (wrap64 (x6 + 1)) x20 x21 x16) else (none)) else (some x5)
def spec_l8State.f (k : Nat) (a0_0 : Int) (l0_1 : List Int) (l0_2 : List (List (S37))) (a1 : Int) : Option (List Int) := spec_l8State.l0 k a1 (([] : List Int)) 0 a0_0 l0_1 l0_2
end Go.Proofs.Ytkogboechfieeaa.PAll

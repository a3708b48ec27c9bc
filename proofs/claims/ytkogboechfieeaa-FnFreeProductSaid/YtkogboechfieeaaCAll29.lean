/- Walks of functions that laws of this seat reach, in the form of the print. -/
import Derived.Test.YtkogboechfieeaaCAll28
-- PRINTED
namespace Go.Proofs.Ytkogboechfieeaa.PAll
open Go.RowKit Go.Proofs.YtkogboechfieeaaW.PrintWords Go.Proofs.YtkogboechfieeaaW.PrintLast Go.Proofs.YtkogboechfieeaaW.PrintMore
attribute [local go_sem] max2_int min2_int max_two min_two max_three min_three max_four min_four
set_option linter.unusedVariables false
set_option linter.unusedSimpArgs false

/-! ### spec_ReachOf: function 37 -/
mutual
def spec_ReachOf.j0 : Nat → List Int → Int → List Int → Bool → Int → List Int → List (List (S37)) → Option (List Int)
 | 0, _, _, _, _, _, _, _ => none
 | k + 1, x1, x2, x7, x22, x52, x53, x54 => if x22 = true then (some x7) else ((spec_l8Code.f k x1).bind fun t49 => ((spec_l8Reach.f k x52 x53 x54 t49 x2).bind fun t44 => (spec_ReachOf.l0 k x7 t44 0)))
def spec_ReachOf.l0 : Nat → List Int → List Int → Int → Option (List Int)
 | 0, _, _, _ => none
 | k + 1, x7, x8, x9 => if x9 < (x8.length : Int) then (if 0 ≤ x9 then (if (rd x8 x9) ≥ 0 then (if x7.length < 17592186044416 then (spec_ReachOf.l0 k (x7 ++ [x9]) x8 (wrap64 (x9 + 1))) else (none)) else (spec_ReachOf.l0 k x7 x8 (wrap64 (x9 + 1)))) else (none)) else (some x7)
end
def spec_ReachOf.f (k : Nat) (a0_0 : Int) (l0_1 : List Int) (l0_2 : List (List (S37))) (l1 : List Int) (a2 : Int) : Option (List Int) := (some (([] : List Int) : List Int)).bind fun y41 => ((spec_StateOk.f k a0_0 l0_1 l0_2 l1).bind fun t50 => (if t50 = true then ((spec_CrowdOk.f a0_0 a2).bind fun t47 => (spec_ReachOf.j0 k l1 a2 y41 (!t47) a0_0 l0_1 l0_2)) else (spec_ReachOf.j0 k l1 a2 y41 true a0_0 l0_1 l0_2)))
/-! ### laws_stateOf: function 38 -/
def laws_stateOf.l0 : Nat → Int → List Int → Int → Int → List Int → List (List (S37)) → Option (List Int)
 | 0, _, _, _, _, _, _ => none
 | k + 1, x1, x5, x6, x55, x56, x51 => if x6 < (x51.length : Int) then (if x5.length < 17592186044416 then (laws_stateOf.l0 k (wrap64 (Int.tdiv x1 3)) (x5 ++ [Int.tmod x1 3]) (wrap64 (x6 + 1)) x55 x56 x51) else (none)) else (some x5)
def laws_stateOf.f (k : Nat) (a0_0 : Int) (l0_1 : List Int) (l0_2 : List (List (S37))) (a1 : Int) : Option (List Int) := laws_stateOf.l0 k a1 (([] : List Int)) 0 a0_0 l0_1 l0_2
/-! ### laws_ascend: function 39 -/
def laws_ascend.l0 : Nat → List Int → Int → Option (Bool)
 | 0, _, _ => none
 | k + 1, x0, x3 => if x3 < (x0.length : Int) then (if 0 ≤ (wrap64 (x3 - 1)) then (if (wrap64 (x3 - 1)) < (x0.length : Int) then (if 0 ≤ x3 then (if (rd x0 (wrap64 (x3 - 1))) ≥ (rd x0 x3) then (some false) else (laws_ascend.l0 k x0 (wrap64 (x3 + 1)))) else (none)) else (none)) else (none)) else (some true)
def laws_ascend.f (k : Nat) (l0 : List Int) : Option (Bool) := laws_ascend.l0 k l0 1
end Go.Proofs.Ytkogboechfieeaa.PAll

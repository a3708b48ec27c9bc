/- Walks of functions that All reaches, in the form of the print. -/
-- PRINTED
import Derived.Test.YtcafckapdgaogaaCAll32
namespace Go.Proofs.Ytcafckapdgaogaa.PAll
open Go.RowKit Go.Proofs.YtcafckapdgaogaaW.PrintWords Go.Proofs.YtcafckapdgaogaaW.PrintLast Go.Proofs.YtcafckapdgaogaaW.PrintMore
attribute [local go_sem] max2_int min2_int max_two min_two max_three min_three max_four min_four
set_option linter.unusedVariables false
set_option linter.unusedSimpArgs false

/-! ### spec_ChangesTo: function 43 -/
def spec_ChangesTo.j0 : Nat → List Int → List Int → Int → Bool → Int → List Int → List (List (S86)) → Option (Int)
 | 0, _, _, _, _, _, _, _ => none
 | k + 1, x1, x2, x3, x26, x899000, x899001, x899002 => if x26 = true then (some (-1)) else ((spec_l8Code.f k x1).bind fun t902 => ((spec_l8Reach.f k x899000 x899001 x899002 t902 x3).bind fun t903 => ((spec_l8Code.f k x2).bind fun t906 => (if 0 ≤ t906 then (if t906 < (t903.length : Int) then (some (rd t903 t906)) else (none)) else (none)))))
def spec_ChangesTo.f (k : Nat) (a0_0 : Int) (l0_1 : List Int) (l0_2 : List (List (S86))) (l1 : List Int) (l2 : List Int) (a3 : Int) : Option (Int) := (spec_StateOk.f k a0_0 l0_1 l0_2 l1).bind fun t899 => (if t899 = true then ((spec_StateOk.f k a0_0 l0_1 l0_2 l2).bind fun t900 => (if t900 = true then ((spec_CrowdOk.f a0_0 a3).bind fun t901 => (spec_ChangesTo.j0 k l1 l2 a3 (!t901) a0_0 l0_1 l0_2)) else (spec_ChangesTo.j0 k l1 l2 a3 true a0_0 l0_1 l0_2))) else (spec_ChangesTo.j0 k l1 l2 a3 true a0_0 l0_1 l0_2))
-- NOT PRINTED: function 88 (impl_reach)

-- NOT PRINTED: function 44 (impl_ChangesTo)

-- NOT PRINTED: function 9 (laws_FnExactChangesTo)

/-! ### spec_ReachOf: function 45 -/
mutual
def spec_ReachOf.j0 : Nat → List Int → Int → List Int → Bool → Int → List Int → List (List (S86)) → Option (List Int)
 | 0, _, _, _, _, _, _, _ => none
 | k + 1, x1, x2, x7, x22, x943000, x943001, x943002 => if x22 = true then (some x7) else ((spec_l8Code.f k x1).bind fun t948 => ((spec_l8Reach.f k x943000 x943001 x943002 t948 x2).bind fun t949 => (spec_ReachOf.l0 k x7 t949 0)))
def spec_ReachOf.l0 : Nat → List Int → List Int → Int → Option (List Int)
 | 0, _, _, _ => none
 | k + 1, x7, x8, x9 => if x9 < (x8.length : Int) then (if 0 ≤ x9 then (if (rd x8 x9) ≥ 0 then (if x7.length < 17592186044416 then (spec_ReachOf.l0 k (x7 ++ [x9]) x8 (wrap64 (x9 + 1))) else (none)) else (spec_ReachOf.l0 k x7 x8 (wrap64 (x9 + 1)))) else (none)) else (some x7)
end
def spec_ReachOf.f (k : Nat) (a0_0 : Int) (l0_1 : List Int) (l0_2 : List (List (S86))) (l1 : List Int) (a2 : Int) : Option (List Int) := (some (([] : List Int) : List Int)).bind fun y943 => ((spec_StateOk.f k a0_0 l0_1 l0_2 l1).bind fun t946 => (if t946 = true then ((spec_CrowdOk.f a0_0 a2).bind fun t947 => (spec_ReachOf.j0 k l1 a2 y943 (!t947) a0_0 l0_1 l0_2)) else (spec_ReachOf.j0 k l1 a2 y943 true a0_0 l0_1 l0_2)))
/-! ### cmp_isNaN_int: function 160 -/
def cmp_isNaN_int.f (a0 : Int) : Option (Bool) := some (a0 != a0)
/-! ### cmp_Less_int: function 142 -/
def cmp_Less_int.f (a0 : Int) (a1 : Int) : Option (Bool) := (cmp_isNaN_int.f a0).bind fun t956 => (if t956 = true then ((cmp_isNaN_int.f a1).bind fun t957 => (if t957 = true then (some (decide (a0 < a1))) else (some true))) else (some (decide (a0 < a1))))
end Go.Proofs.Ytcafckapdgaogaa.PAll

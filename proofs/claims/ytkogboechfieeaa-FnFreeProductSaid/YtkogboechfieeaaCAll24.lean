/- Walks of functions that laws of this seat reach, in the form of the print. -/
import Derived.Test.YtkogboechfieeaaCAll17
import Derived.Test.YtkogboechfieeaaCAll9
-- PRINTED
namespace Go.Proofs.Ytkogboechfieeaa.PAll
open Go.RowKit Go.Proofs.YtkogboechfieeaaW.PrintWords Go.Proofs.YtkogboechfieeaaW.PrintLast Go.Proofs.YtkogboechfieeaaW.PrintMore
attribute [local go_sem] max2_int min2_int max_two min_two max_three min_three max_four min_four
set_option linter.unusedVariables false
set_option linter.unusedSimpArgs false

/-! ### impl_mayAct: function 78 -/
def impl_mayAct.f (k : Nat) (a0_0 : Int) (l0_1 : List Int) (l0_2 : List (List (S37))) (l1 : List Int) (a2_0 : Int) (a2_1 : Int) (a2_2 : Int) : Option (Bool) := (impl_isCrowd.f a0_0 a2_2).bind fun t53 => (if t53 = true then ((impl_mayChange.f k a0_0 l0_1 l0_2 l1 a2_0 a2_1 a2_2).bind fun t54 => (some t54)) else (some false))
/-! ### impl_AfterActs: function 32 -/
mutual
def impl_AfterActs.j0 : Nat → List Int → List (S59) → Bool → Int → List Int → List (List (S37)) → Option (List Int × Int)
 | 0, _, _, _, _, _, _ => none
 | k + 1, x1, x2, x20, x47, x49, x50 => if x20 = true then (some (([] : List Int), (-1))) else ((some (([] : List Int) : List Int)).bind fun y45 => (if y45.length + x1.length < 17592186044416 then (impl_AfterActs.l0 k (y45 ++ x1) 0 x2 (x2.length : Int) 0 x47 x49 x50) else (none)))
def impl_AfterActs.l0 : Nat → List Int → Int → List (S59) → Int → Int → Int → List Int → List (List (S37)) → Option (List Int × Int)
 | 0, _, _, _, _, _, _, _, _ => none
 | k + 1, x8, x9, x24, x25, x26, x47, x49, x50 => if x26 < x25 then (if 0 ≤ x26 then (if x26 < (x24.length : Int) then ((impl_mayAct.f k x47 x49 x50 x8 ((rd_T59 x24 x26).f0) ((rd_T59 x24 x26).f1) ((rd_T59 x24 x26).f2)).bind fun t55 => (if t55 = true then (if 0 ≤ ((rd_T59 x24 x26).f0) then (if ((rd_T59 x24 x26).f0) < (x8.length : Int) then (impl_AfterActs.l0 k (x8.set (((rd_T59 x24 x26).f0) : Int).toNat ((rd_T59 x24 x26).f1)) (wrap64 (x9 + 1)) x24 x25 (wrap64 (x26 + 1)) x47 x49 x50) else (none)) else (none)) else (impl_AfterActs.l0 k x8 x9 x24 x25 (wrap64 (x26 + 1)) x47 x49 x50))) else (none)) else (none)) else (some (x8, x9))
end
def impl_AfterActs.f (k : Nat) (a0_0 : Int) (l0_1 : List Int) (l0_2 : List (List (S37))) (l1 : List Int) (l2 : List (S59)) : Option (List Int × Int) := (impl_isState.f k a0_0 l0_1 l0_2 l1).bind fun t56 => (if t56 = true then (impl_AfterActs.j0 k l1 l2 (decide ((l2.length : Int) > 12)) a0_0 l0_1 l0_2) else (impl_AfterActs.j0 k l1 l2 true a0_0 l0_1 l0_2))
end Go.Proofs.Ytkogboechfieeaa.PAll

/- Walks of functions that laws of this seat reach, in the form of the print. -/
import Derived.Test.YtkogboechfieeaaCAll24
-- PRINTED
namespace Go.Proofs.Ytkogboechfieeaa.PAll
open Go.RowKit Go.Proofs.YtkogboechfieeaaW.PrintWords Go.Proofs.YtkogboechfieeaaW.PrintLast Go.Proofs.YtkogboechfieeaaW.PrintMore
attribute [local go_sem] max2_int min2_int max_two min_two max_three min_three max_four min_four
set_option linter.unusedVariables false
set_option linter.unusedSimpArgs false

/-! ### laws_sameInts: function 34 -/
def laws_sameInts.l0 : Nat → List Int → List Int → Int → Option (Bool)
 | 0, _, _, _ => none
 | k + 1, x0, x1, x5 => if x5 < (x0.length : Int) then (if 0 ≤ x5 then (if x5 < (x1.length : Int) then (if (rd x0 x5) = (rd x1 x5) then (laws_sameInts.l0 k x0 x1 (wrap64 (x5 + 1))) else (some false)) else (none)) else (none)) else (some true)
def laws_sameInts.f (k : Nat) (l0 : List Int) (l1 : List Int) : Option (Bool) := if (l0.length : Int) = (l1.length : Int) then (laws_sameInts.l0 k l0 l1 0) else (some false)
/-! ### impl_ValidActs: function 35 -/
mutual
def impl_ValidActs.j0 : Nat → List Int → List (S59) → Bool → Int → List Int → List (List (S37)) → Option ((List (S59)))
 | 0, _, _, _, _, _, _ => none
 | k + 1, x1, x2, x19, x55, x56, x57 => if x19 = true then (some ([] : List (S59))) else ((some (([] : List Int) : List Int)).bind fun y53 => (if y53.length + x1.length < 17592186044416 then (impl_ValidActs.l0 k (y53 ++ x1) (([] : List (S59))) x2 (x2.length : Int) 0 x55 x56 x57) else (none)))
def impl_ValidActs.l0 : Nat → List Int → List (S59) → List (S59) → Int → Int → Int → List Int → List (List (S37)) → Option ((List (S59)))
 | 0, _, _, _, _, _, _, _, _ => none
 | k + 1, x7, x8, x24, x25, x26, x55, x56, x57 => if x26 < x25 then (if 0 ≤ x26 then (if x26 < (x24.length : Int) then ((impl_mayAct.f k x55 x56 x57 x7 ((rd_T59 x24 x26).f0) ((rd_T59 x24 x26).f1) ((rd_T59 x24 x26).f2)).bind fun t63 => (if t63 = true then (if 0 ≤ ((rd_T59 x24 x26).f0) then (if ((rd_T59 x24 x26).f0) < (x7.length : Int) then (if x8.length < 5864062014805 then (impl_ValidActs.l0 k (x7.set (((rd_T59 x24 x26).f0) : Int).toNat ((rd_T59 x24 x26).f1)) (x8 ++ [(⟨(rd_T59 x24 x26).f0, (rd_T59 x24 x26).f1, (rd_T59 x24 x26).f2⟩ : S59)]) x24 x25 (wrap64 (x26 + 1)) x55 x56 x57) else (none)) else (none)) else (none)) else (impl_ValidActs.l0 k x7 x8 x24 x25 (wrap64 (x26 + 1)) x55 x56 x57))) else (none)) else (none)) else (some x8)
end
def impl_ValidActs.f (k : Nat) (a0_0 : Int) (l0_1 : List Int) (l0_2 : List (List (S37))) (l1 : List Int) (l2 : List (S59)) : Option ((List (S59))) := (impl_isState.f k a0_0 l0_1 l0_2 l1).bind fun t65 => (if t65 = true then (impl_ValidActs.j0 k l1 l2 (decide ((l2.length : Int) > 12)) a0_0 l0_1 l0_2) else (impl_ValidActs.j0 k l1 l2 true a0_0 l0_1 l0_2))
end Go.Proofs.Ytkogboechfieeaa.PAll

/- Walks of functions that laws of this seat reach, in the form of the print. -/
import Derived.Test.YtkogboechfieeaaCAll20
-- PRINTED
namespace Go.Proofs.Ytkogboechfieeaa.PAll
open Go.RowKit Go.Proofs.YtkogboechfieeaaW.PrintWords Go.Proofs.YtkogboechfieeaaW.PrintLast Go.Proofs.YtkogboechfieeaaW.PrintMore
attribute [local go_sem] max2_int min2_int max_two min_two max_three min_three max_four min_four
set_option linter.unusedVariables false
set_option linter.unusedSimpArgs false

/-! ### spec_l8May: function 75 -/
def spec_l8May.f (k : Nat) (a0_0 : Int) (l0_1 : List Int) (l0_2 : List (List (S37))) (l1 : List Int) (a2 : Int) (a3 : Int) (a4 : Int) : Option (Bool) := if 0 ≤ a2 then (if a2 < (l0_2.length : Int) then (if a2 < (l1.length : Int) then (if 0 ≤ (rd l1 a2) then (if (rd l1 a2) < ((rd_L5 l0_2 a2).length : Int) then (if a3 = (rd l1 a2) then (some false) else ((spec_l4Says.f k a0_0 l0_1 ((rd_T37 (rd_L5 l0_2 a2) (rd l1 a2)).f0) a4).bind fun t59 => (if t59 = true then (if ((rd_T37 (rd_L5 l0_2 a2) (rd l1 a2)).f1) = (-1) then (some true) else (if 0 ≤ ((rd_T37 (rd_L5 l0_2 a2) (rd l1 a2)).f1) then (if ((rd_T37 (rd_L5 l0_2 a2) (rd l1 a2)).f1) < (l1.length : Int) then (some ((rd l1 ((rd_T37 (rd_L5 l0_2 a2) (rd l1 a2)).f1)) == ((rd_T37 (rd_L5 l0_2 a2) (rd l1 a2)).f2))) else (none)) else (none))) else (some false)))) else (none)) else (none)) else (none)) else (none)) else (none)
theorem spec_l8May.mono : ∀ a0 a1 a2 a3 a4 a5 a6 k, LeO (spec_l8May.f k a0 a1 a2 a3 a4 a5 a6) (spec_l8May.f (k + 1) a0 a1 a2 a3 a4 a5 a6) := by
 intro a0 a1 a2 a3 a4 a5 a6 k
 unfold spec_l8May.f
 repeat' first
   | (with_reducible exact LeO.refl _)
   | exact spec_l4Says.mono _ _ _ _ _
   | exact LeO.none _
   | refine LeO.ite ?_ ?_
   | refine LeO.bind ?_ (fun _ => ?_)
end Go.Proofs.Ytkogboechfieeaa.PAll

/- Walks of functions that All reaches, in the form of the print. -/
-- PRINTED
import Derived.Test.YtcafckapdgaogaaCAll7
namespace Go.Proofs.Ytcafckapdgaogaa.PAll
open Go.RowKit Go.Proofs.YtcafckapdgaogaaW.PrintWords Go.Proofs.YtcafckapdgaogaaW.PrintLast Go.Proofs.YtcafckapdgaogaaW.PrintMore
attribute [local go_sem] max2_int min2_int max_two min_two max_three min_three max_four min_four
set_option linter.unusedVariables false
set_option linter.unusedSimpArgs false

/-! ### spec_MayChange: function 62 -/
def spec_MayChange.f (k : Nat) (a0_0 : Int) (l0_1 : List Int) (l0_2 : List (List (S86))) (l1 : List Int) (a2 : Int) (a3 : Int) (a4 : Int) : Option (Bool) := (spec_StateOk.f k a0_0 l0_1 l0_2 l1).bind fun t187 => (if t187 = true then ((spec_CrowdOk.f a0_0 a4).bind fun t188 => (if t188 = true then ((spec_l1In.f a2 0 (wrap64 ((l0_2.length : Int) - 1))).bind fun t189 => (if t189 = true then (if 0 ≤ a2 then (if a2 < (l0_2.length : Int) then ((spec_l1In.f a3 0 (wrap64 (((rd_L9 l0_2 a2).length : Int) - 1))).bind fun t191 => (if t191 = true then ((spec_l8May.f k a0_0 l0_1 l0_2 l1 a2 a3 a4).bind fun t192 => (some t192)) else (some false))) else (none)) else (none)) else (some false))) else (some false))) else (some false))
end Go.Proofs.Ytcafckapdgaogaa.PAll

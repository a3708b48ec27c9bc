/- Walks of functions that All reaches, in the form of the print. -/
-- PRINTED
import Derived.Test.YtcafckapdgaogaaCAll27
namespace Go.Proofs.Ytcafckapdgaogaa.PAll
open Go.RowKit Go.Proofs.YtcafckapdgaogaaW.PrintWords Go.Proofs.YtcafckapdgaogaaW.PrintLast Go.Proofs.YtcafckapdgaogaaW.PrintMore
attribute [local go_sem] max2_int min2_int max_two min_two max_three min_three max_four min_four
set_option linter.unusedVariables false
set_option linter.unusedSimpArgs false

/-! ### spec_l11Ok: function 79 -/
def spec_l11Ok.l0 : Nat → List Int → List Int → Int → Int → List Int → List (List (S86)) → Option (Bool)
 | 0, _, _, _, _, _, _ => none
 | k + 1, x1, x2, x7, x780000, x780001, x780002 => if x7 < (x2.length : Int) then (if 0 ≤ x7 then ((spec_l1In.f (rd x2 x7) 0 26).bind fun t781 => (if t781 = true then (spec_l11Ok.l0 k x1 x2 (wrap64 (x7 + 1)) x780000 x780001 x780002) else (some false))) else (none)) else ((spec_StateOk.f k x780000 x780001 x780002 x1).bind fun t782 => (if t782 = true then (some (decide ((x2.length : Int) ≤ 27))) else (some false)))
def spec_l11Ok.f (k : Nat) (a0_0 : Int) (l0_1 : List Int) (l0_2 : List (List (S86))) (l1 : List Int) (l2 : List Int) : Option (Bool) := spec_l11Ok.l0 k l1 l2 0 a0_0 l0_1 l0_2
/-! ### spec_l11Bad: function 80 -/
def spec_l11Bad.l0 : Nat → List Int → List Int → Int → Option (Bool)
 | 0, _, _, _ => none
 | k + 1, x0, x1, x5 => if x5 < (x0.length : Int) then (if 0 ≤ x5 then ((spec_l8Code.f k x1).bind fun t784 => (if (rd x0 x5) = t784 then (some true) else (spec_l11Bad.l0 k x0 x1 (wrap64 (x5 + 1))))) else (none)) else (some false)
def spec_l11Bad.f (k : Nat) (l0 : List Int) (l1 : List Int) : Option (Bool) := spec_l11Bad.l0 k l0 l1 0
end Go.Proofs.Ytcafckapdgaogaa.PAll

/- Walks of functions that laws of this seat reach, in the form of the print. -/
import Derived.Test.YtkogboechfieeaaCAll40
-- PRINTED
namespace Go.Proofs.Ytkogboechfieeaa.PAll
open Go.RowKit Go.Proofs.YtkogboechfieeaaW.PrintWords Go.Proofs.YtkogboechfieeaaW.PrintLast Go.Proofs.YtkogboechfieeaaW.PrintMore
attribute [local go_sem] max2_int min2_int max_two min_two max_three min_three max_four min_four
set_option linter.unusedVariables false
set_option linter.unusedSimpArgs false

/-! ### spec_l20Bad: function 66 -/
def spec_l20Bad.l0 : Nat → List Int → List Int → Int → List Int → Int → Int → List Int → List (List (S37)) → Option (Int × List Int × (List (List (S37))) × List Int × List Int × Int)
 | 0, _, _, _, _, _, _, _, _ => none
 | k + 1, x6, x7, x8, x1000, x1001, x1084000, x1084001, x1084002 => if x8 > 0 then ((some (([1, 3, 9, 27] : List Int) : List Int)).bind fun y1089 => (if 0 ≤ (mn (x1084002.length : Int) 3) then (if (mn (x1084002.length : Int) 3) < (y1089.length : Int) then ((spec_l20Rd_pick.f k x1000 x1001 (rd y1089 (mn (x1084002.length : Int) 3))).bind fun bt1093 => (if x7.length < 17592186044416 then (spec_l20Bad.l0 k x6 (x7 ++ [bt1093.1]) (wrap64 (x8 - 1)) x1000 bt1093.2 x1084000 x1084001 x1084002) else (none))) else (none)) else (none))) else ((spec_l20Rd_odd.f k x1000 x1001 30).bind fun bt1098 => (if bt1098.1 = true then ((some (([(-1), 27] : List Int) : List Int)).bind fun y1100 => ((spec_l20Rd_pick.f k x1000 bt1098.2 2).bind fun bt1103 => (if 0 ≤ bt1103.1 then (if bt1103.1 < (y1100.length : Int) then (if x7.length < 17592186044416 then (some (x1084000, x1084001, x1084002, x6, (x7 ++ [rd y1100 bt1103.1]), bt1103.2)) else (none)) else (none)) else (none)))) else (some (x1084000, x1084001, x1084002, x6, x7, bt1098.2))))
def spec_l20Bad.f (k : Nat) (s0_0 : List Int) (s0_1 : Int) : Option (Int × List Int × (List (List (S37))) × List Int × List Int × Int) := (spec_l20State.f k s0_0 s0_1 14).bind fun bt1072 => ((spec_l20Rd_pick.f k s0_0 bt1072.2.2.2.2 4).bind fun bt1087 => (spec_l20Bad.l0 k bt1072.2.2.2.1 (([] : List Int)) bt1087.1 s0_0 bt1087.2 bt1072.1 bt1072.2.1 bt1072.2.2.1))
end Go.Proofs.Ytkogboechfieeaa.PAll

/- Walks of functions that laws of this seat reach, in the form of the print. -/
import Derived.Test.YtkogboechfieeaaCAll40
-- PRINTED
namespace Go.Proofs.Ytkogboechfieeaa.PAll
open Go.RowKit Go.Proofs.YtkogboechfieeaaW.PrintWords Go.Proofs.YtkogboechfieeaaW.PrintLast Go.Proofs.YtkogboechfieeaaW.PrintMore
attribute [local go_sem] max2_int min2_int max_two min_two max_three min_three max_four min_four
set_option linter.unusedVariables false
set_option linter.unusedSimpArgs false

/-! ### spec_l20Crowd: function 58 -/
def spec_l20Crowd.f (k : Nat) (s0_0 : List Int) (s0_1 : Int) (a1_0 : Int) (l1_1 : List Int) : Option (Int × Int) := (spec_l20Rd_pick.f k s0_0 s0_1 (wrap64 (2 ^ (mn (mx a1_0 1) 6).toNat))).bind fun bt444 => ((spec_l20Rd_pick.f k s0_0 bt444.2 3).bind fun bt446 => (if bt446.1 = 0 then ((spec_l20Rd_pick.f k s0_0 bt446.2 (wrap64 (2 ^ (mn (mx a1_0 1) 6).toNat))).bind fun bt448 => ((spec_l20Rd_pick.f k s0_0 bt448.2 60).bind fun bt450 => (some (wrap64 ((Go.bits .or .i64 bt444.1 bt448.1) + (wrap64 ((wrap64 (Int.tdiv bt450.1 59)) * 64))), bt450.2)))) else ((spec_l20Rd_pick.f k s0_0 bt446.2 60).bind fun bt452 => (some (wrap64 (bt444.1 + (wrap64 ((wrap64 (Int.tdiv bt452.1 59)) * 64))), bt452.2)))))
/-! ### spec_DrawReachOf: function 15 -/
def spec_DrawReachOf.f (k : Nat) (l0 : List Int) : Option (Int × List Int × (List (List (S37))) × List Int × Int) := (spec_l20Open.f l0).bind fun bt202 => ((spec_l20State.f k bt202.1 bt202.2 14).bind fun bt205 => ((spec_l20Crowd.f k bt202.1 bt205.2.2.2.2 bt205.1 bt205.2.1).bind fun bt217 => (some (bt205.1, bt205.2.1, bt205.2.2.1, bt205.2.2.2.1, bt217.1))))
end Go.Proofs.Ytkogboechfieeaa.PAll

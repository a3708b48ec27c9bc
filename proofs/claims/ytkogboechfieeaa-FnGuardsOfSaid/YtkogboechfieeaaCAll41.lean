/- Walks of functions that laws of this seat reach, in the form of the print. -/
import Derived.Test.YtkogboechfieeaaCAll40
-- PRINTED
namespace Go.Proofs.Ytkogboechfieeaa.PAll
open Go.RowKit Go.Proofs.YtkogboechfieeaaW.PrintWords Go.Proofs.YtkogboechfieeaaW.PrintLast Go.Proofs.YtkogboechfieeaaW.PrintMore
attribute [local go_sem] max2_int min2_int max_two min_two max_three min_three max_four min_four
set_option linter.unusedVariables false
set_option linter.unusedSimpArgs false

/-! ### spec_l20Crowd: function 58 -/
def spec_l20Crowd.f (k : Nat) (s0_0 : List Int) (s0_1 : Int) (a1_0 : Int) (l1_1 : List Int) : Option (Int × Int) := (spec_l20Rd_pick.f k s0_0 s0_1 (wrap64 (2 ^ (mn (mx a1_0 1) 6).toNat))).bind fun bt39 => ((spec_l20Rd_pick.f k s0_0 bt39.2 3).bind fun bt36 => (if bt36.1 = 0 then ((spec_l20Rd_pick.f k s0_0 bt36.2 (wrap64 (2 ^ (mn (mx a1_0 1) 6).toNat))).bind fun bt44 => ((spec_l20Rd_pick.f k s0_0 bt44.2 60).bind fun bt45 => (some (wrap64 ((Go.bits .or .i64 bt39.1 bt44.1) + (wrap64 ((wrap64 (Int.tdiv bt45.1 59)) * 64))), bt45.2)))) else ((spec_l20Rd_pick.f k s0_0 bt36.2 60).bind fun bt46 => (some (wrap64 (bt39.1 + (wrap64 ((wrap64 (Int.tdiv bt46.1 59)) * 64))), bt46.2)))))
/-! ### spec_DrawReachOf: function 15 -/
def spec_DrawReachOf.f (k : Nat) (l0 : List Int) : Option (Int × List Int × (List (List (S37))) × List Int × Int) := (spec_l20Open.f l0).bind fun bt41 => ((spec_l20State.f k bt41.1 bt41.2 14).bind fun bt32 => ((spec_l20Crowd.f k bt41.1 bt32.2.2.2.2 bt32.1 bt32.2.1).bind fun bt50 => (some (bt32.1, bt32.2.1, bt32.2.2.1, bt32.2.2.2.1, bt50.1))))
end Go.Proofs.Ytkogboechfieeaa.PAll

/- Walks by hand of functions that some laws of this seat reach: AmendersOf. -/
import Derived.Test.YtkogboechfieeaaCAll73
import Derived.Shelf.Abstract
import Derived.Maps.OwnSet
namespace Go.Proofs.Ytkogboechfieeaa.PAll
open Go.RowKit Go.Proofs.YtkogboechfieeaaW.PrintWords Go.Proofs.YtkogboechfieeaaW.PrintLast Go.Proofs.YtkogboechfieeaaW.PrintMore
set_option linter.unusedVariables false
set_option linter.unusedSimpArgs false

/-! ### impl_AmendersOf: function 0 -/
def impl_AmendersOf.F (k : Nat) (P : Int) (B : List Int) (C : List (List S37)) (s t : List Int) (c : Int) : Option Bool := (impl_reach.f k P B C s c).bind fun D => (impl_stateNumber.f k t).bind fun n => some (mhas n D)
def impl_AmendersOf.f (k : Nat) (P : Int) (B : List Int) (C : List (List S37)) (s t : List Int) : Option (List Int) := (impl_isState.f k P B C s).bind fun a => if a = true then ((impl_isState.f k P B C t).bind fun b => if b = true then (if 0 ≤ P ∧ P ≤ 6 then crowdsF (impl_AmendersOf.F k P B C s t) (2 ^ P.toNat) else none) else some []) else some []
end Go.Proofs.Ytkogboechfieeaa.PAll

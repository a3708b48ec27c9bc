/- Walks of functions that laws of this seat reach, in the form of the print. -/
import Derived.Test.YtkogboechfieeaaCAll23
import Derived.Maps.OwnSet
import Derived.Shelf.Abstract
-- PRINTED
namespace Go.Proofs.Ytkogboechfieeaa.PAll
open Go.RowKit Go.Proofs.YtkogboechfieeaaW.PrintWords Go.Proofs.YtkogboechfieeaaW.PrintLast Go.Proofs.YtkogboechfieeaaW.PrintMore
attribute [local go_sem] max2_int min2_int max_two min_two max_three min_three max_four min_four
set_option linter.unusedVariables false
set_option linter.unusedSimpArgs false

/-! ### impl_safeFor: function 70 -/
def inI64 (n : Int) : Bool := decide (-9223372036854775808 ≤ n) && decide (n < 9223372036854775808)
def impl_safeFor.f (k : Nat) (P : Int) (B : List Int) (C : List (List S37)) (s t : List Int) (cr : Int) : Option (Bool) := (impl_reach.f k P B C s cr).bind fun D => if t.all inI64 = true then some (!(t.any fun n => mhas n D)) else none
/-! ### impl_SafeFor: function 22 -/
def impl_SafeFor.f (k : Nat) (a0_0 : Int) (l0_1 : List Int) (l0_2 : List (List (S37))) (l1 : List Int) (l2 : List Int) (a3 : Int) : Option (Bool) := (impl_isState.f k a0_0 l0_1 l0_2 l1).bind fun t31 => (if t31 = true then ((impl_areBad.f l2).bind fun t32 => (if t32 = true then ((impl_isCrowd.f a0_0 a3).bind fun t33 => (if t33 = true then ((impl_safeFor.f k a0_0 l0_1 l0_2 l1 l2 a3).bind fun t34 => (some t34)) else (some false))) else (some false))) else (some false))
end Go.Proofs.Ytkogboechfieeaa.PAll

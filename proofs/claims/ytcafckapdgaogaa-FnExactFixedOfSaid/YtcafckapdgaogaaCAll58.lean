/- Walks of functions that some laws of this seat reach, in the form of the print. -/
import Derived.Test.YtcafckapdgaogaaCAll53
import Derived.Test.YtcafckapdgaogaaCAll56
import Derived.Maps.OwnSet
import Derived.Shelf.Abstract
-- PRINTED
namespace Go.Proofs.Ytcafckapdgaogaa.PAll
open Go.RowKit Go.Proofs.YtcafckapdgaogaaW.PrintWords Go.Proofs.YtcafckapdgaogaaW.PrintLast Go.Proofs.YtcafckapdgaogaaW.PrintMore
attribute [local go_sem] max2_int min2_int max_two min_two max_three min_three max_four min_four
set_option linter.unusedVariables false
set_option linter.unusedSimpArgs false


/-! ### impl_safeFor: function 94 -/
def inI64 (n : Int) : Bool := decide (-9223372036854775808 ≤ n) && decide (n < 9223372036854775808)
def impl_safeFor.f (k : Nat) (P : Int) (B : List Int) (C : List (List S86)) (s t : List Int) (cr : Int) : Option (Bool) := (impl_reach.f k P B C s cr).bind fun D => if t.all inI64 = true then some (!(t.any fun n => mhas n D)) else none
/-! ### impl_SafeFor: function 50 -/
def impl_SafeFor.f (k : Nat) (a0_0 : Int) (l0_1 : List Int) (l0_2 : List (List (S86))) (l1 : List Int) (l2 : List Int) (a3 : Int) : Option (Bool) := (impl_isState.f k a0_0 l0_1 l0_2 l1).bind fun t1343 => (if t1343 = true then ((impl_areBad.f l2).bind fun t1344 => (if t1344 = true then ((impl_isCrowd.f a0_0 a3).bind fun t1345 => (if t1345 = true then ((impl_safeFor.f k a0_0 l0_1 l0_2 l1 l2 a3).bind fun t1346 => (some t1346)) else (some false))) else (some false))) else (some false))
end Go.Proofs.Ytcafckapdgaogaa.PAll

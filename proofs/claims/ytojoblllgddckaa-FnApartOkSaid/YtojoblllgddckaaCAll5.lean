/- Walks of functions that laws of this seat reach, in the form of the print. -/
import Derived.Test.YtojoblllgddckaaCAll0
import Derived.Test.YtojoblllgddckaaCAll1
import Derived.Test.YtojoblllgddckaaCAll3
import Derived.Test.YtojoblllgddckaaZ
-- PRINTED
namespace Go.Proofs.Ytojoblllgddckaa.PAll
open Go.RowKit Go.Proofs.YtojoblllgddckaaW.PrintWords Go.Proofs.YtojoblllgddckaaW.PrintLast Go.Proofs.YtojoblllgddckaaW.PrintMore
attribute [local go_sem] max2_int min2_int max_two min_two max_three min_three max_four min_four
set_option linter.unusedVariables false
set_option linter.unusedSimpArgs false

/-! ### impl_consents: function 58 -/
def impl_consents.l0 : Nat → Int → List Bool → List (S35) → Int → Int → Int → List Int → Option (Bool)
 | 0, _, _, _, _, _, _, _ => none
 | k + 1, x2, x7, x14, x15, x16, x192000, x192001 => if x16 < x15 then (if 0 ≤ x16 then (if x16 < (x14.length : Int) then (if ((rd_T35 x14 x16).f0) = 0 then (if 0 ≤ ((rd_T35 x14 x16).f1) then (if ((rd_T35 x14 x16).f1) < (x192001.length : Int) then ((impl_headsOf.f (Go.bits .and .i64 (rd x192001 ((rd_T35 x14 x16).f1)) x2)).bind fun t199 => (if x7.length < 140737488355328 then (impl_consents.l0 k x2 (x7 ++ [decide (t199 ≥ ((rd_T35 x14 x16).f2))]) x14 x15 (wrap64 (x16 + 1)) x192000 x192001) else (none))) else (none)) else (none)) else (if 0 ≤ (wrap64 ((x7.length : Int) - 2)) then (if (wrap64 ((x7.length : Int) - 2)) < (x7.length : Int) then (if 0 ≤ (wrap64 ((x7.length : Int) - 1)) then (if (wrap64 ((x7.length : Int) - 1)) < (x7.length : Int) then (if rdOf false x7 (wrap64 ((x7.length : Int) - 2)) = true then (if ((rd_T35 x14 x16).f0) = 2 then (if (wrap64 ((x7.length : Int) - 2)) ≤ (x7.length : Int) then ((some (x7.take ((wrap64 ((x7.length : Int) - 2)) : Int).toNat : List Bool)).bind fun y205 => (if y205.length < 140737488355328 then (impl_consents.l0 k x2 (y205 ++ [true]) x14 x15 (wrap64 (x16 + 1)) x192000 x192001) else (none))) else (none)) else (if (wrap64 ((x7.length : Int) - 2)) ≤ (x7.length : Int) then ((some (x7.take ((wrap64 ((x7.length : Int) - 2)) : Int).toNat : List Bool)).bind fun y211 => (if y211.length < 140737488355328 then (impl_consents.l0 k x2 (y211 ++ [rdOf false x7 (wrap64 ((x7.length : Int) - 1))]) x14 x15 (wrap64 (x16 + 1)) x192000 x192001) else (none))) else (none))) else (if ((rd_T35 x14 x16).f0) = 2 then (if (wrap64 ((x7.length : Int) - 2)) ≤ (x7.length : Int) then ((some (x7.take ((wrap64 ((x7.length : Int) - 2)) : Int).toNat : List Bool)).bind fun y217 => (if y217.length < 140737488355328 then (impl_consents.l0 k x2 (y217 ++ [rdOf false x7 (wrap64 ((x7.length : Int) - 1))]) x14 x15 (wrap64 (x16 + 1)) x192000 x192001) else (none))) else (none)) else (if (wrap64 ((x7.length : Int) - 2)) ≤ (x7.length : Int) then ((some (x7.take ((wrap64 ((x7.length : Int) - 2)) : Int).toNat : List Bool)).bind fun y223 => (if y223.length < 140737488355328 then (impl_consents.l0 k x2 (y223 ++ [false]) x14 x15 (wrap64 (x16 + 1)) x192000 x192001) else (none))) else (none)))) else (none)) else (none)) else (none)) else (none))) else (none)) else (none)) else (if 0 < (x7.length : Int) then (some (rdOf false x7 0)) else (none))
def impl_consents.f (k : Nat) (a0_0 : Int) (l0_1 : List Int) (l1 : List (S35)) (a2 : Int) : Option (Bool) := impl_consents.l0 k a2 (([] : List Bool)) l1 (l1.length : Int) 0 a0_0 l0_1
end Go.Proofs.Ytojoblllgddckaa.PAll

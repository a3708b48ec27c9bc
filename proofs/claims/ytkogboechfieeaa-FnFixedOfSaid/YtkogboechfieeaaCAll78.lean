/- test -/
import Derived.Test.YtkogboechfieeaaCAll73
import Derived.Test.YtkogboechfieeaaCAll79
import Derived.Shelf.Abstract
import Derived.Maps.OwnSet
namespace Go.Proofs.Ytkogboechfieeaa.PAll
open Go.RowKit Go.Proofs.YtkogboechfieeaaW.PrintWords Go.Proofs.YtkogboechfieeaaW.PrintLast Go.Proofs.YtkogboechfieeaaW.PrintMore
set_option linter.unusedVariables false
def sortI (L : List Int) : List Int := L.mergeSort fun x y => decide (x ≤ y)
section
open Go.Shelf Go.Sort
end
theorem map_at {W W1 : World} {gm : Nat} {D : List (Int × Int)} (hm : MapAt W gm D) (hb : Below W.heap.size W W1) : MapAt W1 gm D := World.ownsMap.kept hm (grown0 hb) (by simp)
def impl_NeverOf.l0 : Nat → List (Int × Int) → List (List Int) → Int → List Int → Option (List Int)
  | 0, _, _, _, _ => none
  | k + 1, D, L, i, out => if i < (L.length : Int) then (if 0 ≤ i then ((impl_stateNumber.f k (rd_L8 L i)).bind fun n => if mhas n D = true then impl_NeverOf.l0 k D L (wrap64 (i + 1)) out else (if out.length < 17592186044416 then impl_NeverOf.l0 k D L (wrap64 (i + 1)) (out ++ [n]) else none)) else none) else (if out.length ≤ 4096 then some (sortI out) else none)
def impl_NeverOf.f (k : Nat) (P : Int) (B : List Int) (C : List (List S37)) (s : List Int) : Option (List Int) := (impl_isState.f k P B C s).bind fun a => if a = true then ((impl_everybody.f P).bind fun E => (impl_reach.f k P B C s E).bind fun D => (impl_statesOf.f k P B C).bind fun L => impl_NeverOf.l0 k D L 0 []) else some []
end Go.Proofs.Ytkogboechfieeaa.PAll

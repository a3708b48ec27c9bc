/- Walks by hand of functions that some laws of this seat reach: ReachOf. -/
import Derived.Test.YtcafckapdgaogaaCAll65
import Derived.Shelf.Abstract
namespace Go.Proofs.Ytcafckapdgaogaa.PAll
open Go.RowKit Go.Proofs.YtcafckapdgaogaaW.PrintWords Go.Proofs.YtcafckapdgaogaaW.PrintLast Go.Proofs.YtcafckapdgaogaaW.PrintMore
set_option linter.unusedVariables false
set_option linter.unusedSimpArgs false

/-! ### impl_ReachOf: function 46 -/
def impl_ReachOf.f (k : Nat) (P : Int) (B : List Int) (C : List (List S86)) (s : List Int) (cr : Int) : Option (List Int) := (impl_isState.f k P B C s).bind fun a => if a = true then ((impl_isCrowd.f P cr).bind fun c => if c = true then ((impl_reach.f k P B C s cr).bind fun D => if (D.map (·.1)).Nodup ∧ D.length ≤ 4096 then some (sortedKeys D) else none) else some []) else some []
end Go.Proofs.Ytcafckapdgaogaa.PAll

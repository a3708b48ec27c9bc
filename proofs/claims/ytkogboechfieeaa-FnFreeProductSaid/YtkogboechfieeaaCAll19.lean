/- Walks of functions that laws of this seat reach, in the form of the print. -/
import Derived.Test.YtkogboechfieeaaCAll17
import Derived.Test.YtkogboechfieeaaCAll9
-- PRINTED
namespace Go.Proofs.Ytkogboechfieeaa.PAll
open Go.RowKit Go.Proofs.YtkogboechfieeaaW.PrintWords Go.Proofs.YtkogboechfieeaaW.PrintLast Go.Proofs.YtkogboechfieeaaW.PrintMore
attribute [local go_sem] max2_int min2_int max_two min_two max_three min_three max_four min_four
set_option linter.unusedVariables false
set_option linter.unusedSimpArgs false

/-! ### impl_MayChange: function 26 -/
def impl_MayChange.f (k : Nat) (a0_0 : Int) (l0_1 : List Int) (l0_2 : List (List (S37))) (l1 : List Int) (a2 : Int) (a3 : Int) (a4 : Int) : Option (Bool) := (impl_isState.f k a0_0 l0_1 l0_2 l1).bind fun t25 => (if t25 = true then ((impl_isCrowd.f a0_0 a4).bind fun t27 => (if t27 = true then ((impl_mayChange.f k a0_0 l0_1 l0_2 l1 a2 a3 a4).bind fun t29 => (some t29)) else (some false))) else (some false))
/-! ### spec_l3Starts: function 117 -/
def spec_l3Starts.l0 : Nat → List (S111) → Int → Int → Option (Int)
 | 0, _, _, _ => none
 | k + 1, x0, x5, x6 => if x5 > 0 then (if 0 ≤ x6 then (if x6 < (x0.length : Int) then (if ((rd_T111 x0 x6).f0) = 0 then (spec_l3Starts.l0 k x0 (wrap64 (x5 - 1)) (wrap64 (x6 - 1))) else (spec_l3Starts.l0 k x0 (wrap64 (x5 + 1)) (wrap64 (x6 - 1)))) else (none)) else (none)) else (some (wrap64 (x6 + 1)))
def spec_l3Starts.f (k : Nat) (l0 : List (S111)) (a1 : Int) : Option (Int) := spec_l3Starts.l0 k l0 1 a1
theorem spec_l3Starts.mono_l : ∀ k, (∀ y0 y1 y2, LeO (spec_l3Starts.l0 k y0 y1 y2) (spec_l3Starts.l0 (k + 1) y0 y1 y2))
 | 0 => fun _ _ _ r h => by simp [spec_l3Starts.l0] at h
 | k + 1 => by
  have ih0 := spec_l3Starts.mono_l k
  ·intro y0 y1 y2
   unfold spec_l3Starts.l0
   repeat' first
   | (with_reducible exact LeO.refl _)
   | exact ih0 _ _ _
   | exact LeO.none _
   | refine LeO.ite ?_ ?_
   | refine LeO.bind ?_ (fun _ => ?_)
theorem spec_l3Starts.mono : ∀ a0 a1 k, LeO (spec_l3Starts.f k a0 a1) (spec_l3Starts.f (k + 1) a0 a1) := by
 intro a0 a1 k
 have ih0 := spec_l3Starts.mono_l k
 unfold spec_l3Starts.f
 repeat' first
   | (with_reducible exact LeO.refl _)
   | exact ih0 _ _ _
   | exact LeO.none _
   | refine LeO.ite ?_ ?_
   | refine LeO.bind ?_ (fun _ => ?_)
end Go.Proofs.Ytkogboechfieeaa.PAll

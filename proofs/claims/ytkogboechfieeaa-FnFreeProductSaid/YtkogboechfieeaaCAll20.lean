/- Walks of functions that laws of this seat reach, in the form of the print. -/
import Derived.Test.YtkogboechfieeaaCAll19
-- PRINTED
namespace Go.Proofs.Ytkogboechfieeaa.PAll
open Go.RowKit Go.Proofs.YtkogboechfieeaaW.PrintWords Go.Proofs.YtkogboechfieeaaW.PrintLast Go.Proofs.YtkogboechfieeaaW.PrintMore
attribute [local go_sem] max2_int min2_int max_two min_two max_three min_three max_four min_four
set_option linter.unusedVariables false
set_option linter.unusedSimpArgs false

/-! ### spec_l4Says: function 102 -/
def spec_l4Says.f : Nat → Int → List Int → List (S111) → Int → Option (Bool)
 | 0, _, _, _, _ => none
 | k + 1, a0_0, l0_1, l1, a2 => if 0 ≤ (wrap64 ((l1.length : Int) - 1)) then (if (wrap64 ((l1.length : Int) - 1)) < (l1.length : Int) then (if ((rd_T111 l1 (wrap64 ((l1.length : Int) - 1))).f0) = 0 then (if 0 ≤ ((rd_T111 l1 (wrap64 ((l1.length : Int) - 1))).f1) then (if ((rd_T111 l1 (wrap64 ((l1.length : Int) - 1))).f1) < (l0_1.length : Int) then ((spec_l1Heads.f k (Go.bits .and .i64 a2 (rd l0_1 ((rd_T111 l1 (wrap64 ((l1.length : Int) - 1))).f1)))).bind fun t93 => (some (decide (t93 ≥ ((rd_T111 l1 (wrap64 ((l1.length : Int) - 1))).f2))))) else (none)) else (none)) else ((spec_l3Starts.f k l1 (wrap64 ((wrap64 ((l1.length : Int) - 1)) - 1))).bind fun t79 => (if ((rd_T111 l1 (wrap64 ((l1.length : Int) - 1))).f0) = 2 then (if 0 ≤ t79 then (if t79 ≤ (l1.length : Int) then ((spec_l4Says.f k a0_0 l0_1 (l1.take (t79 : Int).toNat) a2).bind fun t91 => (if t91 = true then (some true) else (if t79 ≤ (wrap64 ((l1.length : Int) - 1)) then (if (wrap64 ((l1.length : Int) - 1)) ≤ (l1.length : Int) then ((spec_l4Says.f k a0_0 l0_1 ((l1.take ((wrap64 ((l1.length : Int) - 1)) : Int).toNat).drop (t79 : Int).toNat) a2).bind fun t87 => (some t87)) else (none)) else (none)))) else (none)) else (none)) else (if 0 ≤ t79 then (if t79 ≤ (l1.length : Int) then ((spec_l4Says.f k a0_0 l0_1 (l1.take (t79 : Int).toNat) a2).bind fun t92 => (if t92 = true then (if t79 ≤ (wrap64 ((l1.length : Int) - 1)) then (if (wrap64 ((l1.length : Int) - 1)) ≤ (l1.length : Int) then ((spec_l4Says.f k a0_0 l0_1 ((l1.take ((wrap64 ((l1.length : Int) - 1)) : Int).toNat).drop (t79 : Int).toNat) a2).bind fun t88 => (some t88)) else (none)) else (none)) else (some false))) else (none)) else (none))))) else (none)) else (none)
theorem spec_l4Says.mono_l : ∀ k, (∀ y0 y1 y2 y3, LeO (spec_l4Says.f k y0 y1 y2 y3) (spec_l4Says.f (k + 1) y0 y1 y2 y3))
 | 0 => fun _ _ _ _ r h => by simp [spec_l4Says.f] at h
 | k + 1 => by
  have ih0 := spec_l4Says.mono_l k
  ·intro y0 y1 y2 y3
   unfold spec_l4Says.f
   repeat' first
   | (with_reducible exact LeO.refl _)
   | exact ih0 _ _ _ _
   | exact spec_l1Heads.mono _ _
   | exact spec_l3Starts.mono _ _ _
   | exact LeO.none _
   | refine LeO.ite ?_ ?_
   | refine LeO.bind ?_ (fun _ => ?_)
theorem spec_l4Says.mono : ∀ a0 a1 a2 a3 k, LeO (spec_l4Says.f k a0 a1 a2 a3) (spec_l4Says.f (k + 1) a0 a1 a2 a3) := by
 intro a0 a1 a2 a3 k
 have ih0 := spec_l4Says.mono_l k
 exact ih0 a0 a1 a2 a3
end Go.Proofs.Ytkogboechfieeaa.PAll

/- Walks of functions that laws of this seat reach, in the form of the print. -/
import Derived.Test.YtojoblllgddckaaCAll0
import Derived.Test.YtojoblllgddckaaCAll1
import Derived.Test.YtojoblllgddckaaCAll4
import Derived.Test.YtojoblllgddckaaCAll5
import Derived.Test.YtojoblllgddckaaCAll6
import Derived.Test.YtojoblllgddckaaCAll8
import Derived.Test.YtojoblllgddckaaZ
-- PRINTED
namespace Go.Proofs.Ytojoblllgddckaa.PAll
open Go.RowKit Go.Proofs.YtojoblllgddckaaW.PrintWords Go.Proofs.YtojoblllgddckaaW.PrintLast Go.Proofs.YtojoblllgddckaaW.PrintMore
attribute [local go_sem] max2_int min2_int max_two min_two max_three min_three max_four min_four
set_option linter.unusedVariables false
set_option linter.unusedSimpArgs false

/-! ### laws_alive: function 15 -/
def laws_alive.f  : Option (Bool) := (impl_CrowdOk.f 2 3).bind fun t268 => (if t268 = true then ((impl_CrowdOk.f 2 4).bind fun t269 => (some (!t269))) else (some false))
set_option maxHeartbeats 8000000 in
set_option maxRecDepth 100000 in
theorem laws_alive.calls  (r : Bool) (w : World) (h : laws_alive.f  = some r) :
  Calls Try.prog 15 #[] w fun e w' => e = .returned (.bool r) ∧ Drawn0 w w' := by
 have H := h
 clear h
 unfold laws_alive.f at H
 replace H := Option.bind_eq_some_iff.mp H
 obtain ⟨t268, A10, H⟩ := H
 have A1 := Z.k A10
 clear A10
 by_cases c2 : t268 = true
 ·subst c2
  rw [if_pos rfl] at H
  replace H := Option.bind_eq_some_iff.mp H
  obtain ⟨t269, A30, H⟩ := H
  have A3 := Z.k A30
  clear A30
  obtain rfl := Option.some.inj H
  go_enter Try.func15, Try.ntmps15
  go_wp2_with (first | ((with_reducible refine gate_callee (f := 57) rfl ?_); refine goesL_ (some 1) rfl rfl Try.func57 (by kernel_rfl) rfl #[.int .i64 2, .int .i64 3] rfl Z.ar ?_; (with_reducible refine (impl_CrowdOk.calls 2 3 true _ A1.out).mono ?_); rintro e w' ⟨rfl, ⟨nd, rfl⟩⟩; refine ⟨_, rfl, ?_⟩) | (go_at_call 57; (with_reducible refine (impl_CrowdOk.calls 2 4 t269 _ A3.out).mono ?_); rintro e w' ⟨rfl, ⟨nd, rfl⟩⟩))
  go_ret
  exact ⟨by rfl, by repeat (first | exact Drawn0.refl _ | apply Drawn0.step)⟩
 ·replace c2 := Bool.eq_false_iff.mpr c2
  subst c2
  rw [if_neg (show ¬ (false = true) by decide)] at H
  obtain rfl := Option.some.inj H
  go_enter Try.func15, Try.ntmps15
  go_wp2_with (((with_reducible refine gate_callee (f := 57) rfl ?_); refine goesL_ (some 1) rfl rfl Try.func57 (by kernel_rfl) rfl #[.int .i64 2, .int .i64 3] rfl Z.ar ?_; (with_reducible refine (impl_CrowdOk.calls 2 3 false _ A1.out).mono ?_); rintro e w' ⟨rfl, ⟨nd, rfl⟩⟩; refine ⟨_, rfl, ?_⟩))
  go_ret
  exact ⟨by rfl, by repeat (first | exact Drawn0.refl _ | apply Drawn0.step)⟩

/-! ### impl_PivotIn: function 16 -/
mutual
def impl_PivotIn.j0 : Nat → List (S35) → List Int → Bool → Int → List Int → Option (Int)
 | 0, _, _, _, _, _ => none
 | k + 1, x1, x2, x23, x271000, x271001 => if x23 = true then (some (-1)) else (impl_PivotIn.l0 k x1 x2 0 x2 (x2.length : Int) 0 x271000 x271001)
def impl_PivotIn.l0 : Nat → List (S35) → List Int → Int → List Int → Int → Int → Int → List Int → Option (Int)
 | 0, _, _, _, _, _, _, _, _ => none
 | k + 1, x1, x2, x7, x24, x25, x26, x271000, x271001 => if x26 < x25 then (if 0 ≤ x26 then (if x26 < (x24.length : Int) then (if (rd x24 x26) < 0 then (some (-1)) else (if (rd x24 x26) ≥ x271000 then (some (-1)) else (if 0 ≤ (rd x24 x26) then (if (Go.bits .and .i64 (shr .i64 x7 (rd x24 x26)) 1) = 1 then (some (-1)) else (impl_PivotIn.l0 k x1 x2 (Go.bits .or .i64 x7 (shl .i64 1 (rd x24 x26))) x24 x25 (wrap64 (x26 + 1)) x271000 x271001)) else (none)))) else (none)) else (none)) else (impl_PivotIn.l1 k x1 0 x2 (x2.length : Int) 0 x271000 x271001)
def impl_PivotIn.l1 : Nat → List (S35) → Int → List Int → Int → Int → Int → List Int → Option (Int)
 | 0, _, _, _, _, _, _, _ => none
 | k + 1, x1, x10, x50, x51, x52, x271000, x271001 => if x52 < x51 then (if 0 ≤ x52 then (if x52 < (x50.length : Int) then (if 0 ≤ (rd x50 x52) then ((impl_consents.f k x271000 x271001 x1 (Go.bits .or .i64 x10 (shl .i64 1 (rd x50 x52)))).bind fun t274 => (if t274 = true then (some (rd x50 x52)) else (impl_PivotIn.l1 k x1 (Go.bits .or .i64 x10 (shl .i64 1 (rd x50 x52))) x50 x51 (wrap64 (x52 + 1)) x271000 x271001))) else (none)) else (none)) else (none)) else (some (-1))
end
def impl_PivotIn.f (k : Nat) (a0_0 : Int) (l0_1 : List Int) (l1 : List (S35)) (l2 : List Int) : Option (Int) := (impl_isTerm.f k a0_0 l0_1 l1).bind fun t271 => (if t271 = true then (impl_PivotIn.j0 k l1 l2 ((l2.length : Int) != a0_0) a0_0 l0_1) else (impl_PivotIn.j0 k l1 l2 true a0_0 l0_1))
/-! ### impl_SwingsOf: function 18 -/
def impl_SwingsOf.f (k : Nat) (a0_0 : Int) (l0_1 : List Int) (l1 : List (S35)) (a2 : Int) : Option (Int) := (impl_isTerm.f k a0_0 l0_1 l1).bind fun t309 => (if t309 = true then (if a2 < 0 then (some (-1)) else (if a2 ≥ a0_0 then (some (-1)) else ((impl_swingsOf.f k a0_0 l0_1 l1 a2).bind fun t310 => (some (t310.length : Int))))) else (some (-1)))
end Go.Proofs.Ytojoblllgddckaa.PAll

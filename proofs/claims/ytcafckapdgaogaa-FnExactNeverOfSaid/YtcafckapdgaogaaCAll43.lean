/- Walks of functions that All reaches, in the form of the print. -/
-- PRINTED
import Derived.Test.YtcafckapdgaogaaCAll29
import Derived.Test.YtcafckapdgaogaaCAll32
namespace Go.Proofs.Ytcafckapdgaogaa.PAll
open Go.RowKit Go.Proofs.YtcafckapdgaogaaW.PrintWords Go.Proofs.YtcafckapdgaogaaW.PrintLast Go.Proofs.YtcafckapdgaogaaW.PrintMore
attribute [local go_sem] max2_int min2_int max_two min_two max_three min_three max_four min_four
set_option linter.unusedVariables false
set_option linter.unusedSimpArgs false

/-! ### impl_everybody: function 91 -/
def impl_everybody.f (a0 : Int) : Option (Int) := if 0 ≤ a0 then (some (wrap64 ((shl .i64 1 a0) - 1))) else (none)
set_option maxHeartbeats 8000000 in
set_option maxRecDepth 100000 in
theorem impl_everybody.calls (a0 : Int) (r : Int) (w : World) (h : impl_everybody.f a0 = some r) :
  Calls Try.prog 91 #[.int .i64 a0] w fun e w' => e = .returned (.int .i64 r) ∧ Drawn0 w w' := by
 have H := h
 clear h
 unfold impl_everybody.f at H
 obtain ⟨c2, H⟩ := Z.ifp H
 have c2b0 := eq_true c2
 have c2b1 : decide (0 ≤ a0) = true := decide_eq_true c2
 clear c2
 obtain ⟨ji3, hji3⟩ : ∃ j_ : Int, (shl .i64 1 a0) = j_ := ⟨_, rfl⟩
 replace H : (some (wrap64 ((ji3) - 1))) = some r := by (rw [hji3] at H; exact H)
 have hji3_ : (IntKind.i64.wrap (1 * 2 ^ min a0.toNat 64)) = ji3 := hji3
 have hji3z : a0 ≤ 64 → (IntKind.i64.wrap (1 * 2 ^ a0.toNat)) = ji3 := shl_small hji3
 have hji3u : (IntKind.i64.wrap (2 ^ min a0.toNat 64)) = ji3 := by have h_ := hji3_; rw [Int.one_mul] at h_; exact h_
 have hji3v : a0 ≤ 64 → (IntKind.i64.wrap (2 ^ a0.toNat)) = ji3 := fun hle_ => by have h_ := hji3z hle_; rw [Int.one_mul] at h_; exact h_
 have hji3y : (wrap64 (1 * 2 ^ min a0.toNat 64)) = ji3 := (i64_w _).symm.trans hji3_
 have hji3x : a0 ≤ 64 → (wrap64 (1 * 2 ^ a0.toNat)) = ji3 := fun h_ => (i64_w _).symm.trans (hji3z h_)
 obtain rfl := Option.some.inj H
 go_enter Try.func91, Try.ntmps91
 go_wp2
 go_ret
 exact ⟨by rfl, by repeat (exact Drawn0.refl _)⟩
/-! ### spec_l11Breaks: function 93 -/
def spec_l11Breaks.l0 : Nat → List Int → List Int → Int → Option (Bool)
 | 0, _, _, _ => none
 | k + 1, x2, x9, x10 => if x10 < (x2.length : Int) then (if 0 ≤ x10 then (if 0 ≤ (rd x2 x10) then (if (rd x2 x10) < (x9.length : Int) then (if (rd x9 (rd x2 x10)) ≥ 0 then (some true) else (spec_l11Breaks.l0 k x2 x9 (wrap64 (x10 + 1)))) else (none)) else (none)) else (none)) else (some false)
def spec_l11Breaks.f (k : Nat) (a0_0 : Int) (l0_1 : List Int) (l0_2 : List (List (S86))) (l1 : List Int) (l2 : List Int) (a3 : Int) : Option (Bool) := (spec_l8Code.f k l1).bind fun t1177 => ((spec_l8Reach.f k a0_0 l0_1 l0_2 t1177 a3).bind fun t1178 => (spec_l11Breaks.l0 k l2 t1178 0))
/-! ### spec_SafeFor: function 49 -/
def spec_SafeFor.f (k : Nat) (a0_0 : Int) (l0_1 : List Int) (l0_2 : List (List (S86))) (l1 : List Int) (l2 : List Int) (a3 : Int) : Option (Bool) := (spec_l11Ok.f k a0_0 l0_1 l0_2 l1 l2).bind fun t1184 => (if t1184 = true then ((spec_CrowdOk.f a0_0 a3).bind fun t1185 => (if t1185 = true then ((spec_l11Breaks.f k a0_0 l0_1 l0_2 l1 l2 a3).bind fun t1186 => (some (!t1186))) else (some false))) else (some false))
-- NOT PRINTED: function 94 (impl_safeFor)

-- NOT PRINTED: function 50 (impl_SafeFor)

-- NOT PRINTED: function 12 (laws_FnExactSafeFor)

end Go.Proofs.Ytcafckapdgaogaa.PAll

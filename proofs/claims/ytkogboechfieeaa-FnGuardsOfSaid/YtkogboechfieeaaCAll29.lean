/- Walks of functions that laws of this seat reach, in the form of the print. -/
import Derived.Test.YtkogboechfieeaaCAll28
-- PRINTED
namespace Go.Proofs.Ytkogboechfieeaa.PAll
open Go.RowKit Go.Proofs.YtkogboechfieeaaW.PrintWords Go.Proofs.YtkogboechfieeaaW.PrintLast Go.Proofs.YtkogboechfieeaaW.PrintMore
attribute [local go_sem] max2_int min2_int max_two min_two max_three min_three max_four min_four
set_option linter.unusedVariables false
set_option linter.unusedSimpArgs false

/-! ### spec_ReachOf: function 37 -/
mutual
def spec_ReachOf.j0 : Nat → List Int → Int → List Int → Bool → Int → List Int → List (List (S37)) → Option (List Int)
 | 0, _, _, _, _, _, _, _ => none
 | k + 1, x1, x2, x7, x22, x52, x53, x54 => if x22 = true then (some x7) else ((spec_l8Code.f k x1).bind fun t49 => ((spec_l8Reach.f k x52 x53 x54 t49 x2).bind fun t44 => (spec_ReachOf.l0 k x7 t44 0)))
def spec_ReachOf.l0 : Nat → List Int → List Int → Int → Option (List Int)
 | 0, _, _, _ => none
 | k + 1, x7, x8, x9 => if x9 < (x8.length : Int) then (if 0 ≤ x9 then (if (rd x8 x9) ≥ 0 then (if x7.length < 17592186044416 then (spec_ReachOf.l0 k (x7 ++ [x9]) x8 (wrap64 (x9 + 1))) else (none)) else (spec_ReachOf.l0 k x7 x8 (wrap64 (x9 + 1)))) else (none)) else (some x7)
end
def spec_ReachOf.f (k : Nat) (a0_0 : Int) (l0_1 : List Int) (l0_2 : List (List (S37))) (l1 : List Int) (a2 : Int) : Option (List Int) := (some (([] : List Int) : List Int)).bind fun y41 => ((spec_StateOk.f k a0_0 l0_1 l0_2 l1).bind fun t50 => (if t50 = true then ((spec_CrowdOk.f a0_0 a2).bind fun t47 => (spec_ReachOf.j0 k l1 a2 y41 (!t47) a0_0 l0_1 l0_2)) else (spec_ReachOf.j0 k l1 a2 y41 true a0_0 l0_1 l0_2)))
/-! ### laws_stateOf: function 38 -/
def laws_stateOf.l0 : Nat → Int → List Int → Int → Int → List Int → List (List (S37)) → Option (List Int)
 | 0, _, _, _, _, _, _ => none
 | k + 1, x1, x5, x6, x55, x56, x51 => if x6 < (x51.length : Int) then (if x5.length < 17592186044416 then (laws_stateOf.l0 k (wrap64 (Int.tdiv x1 3)) (x5 ++ [Int.tmod x1 3]) (wrap64 (x6 + 1)) x55 x56 x51) else (none)) else (some x5)
def laws_stateOf.f (k : Nat) (a0_0 : Int) (l0_1 : List Int) (l0_2 : List (List (S37))) (a1 : Int) : Option (List Int) := laws_stateOf.l0 k a1 (([] : List Int)) 0 a0_0 l0_1 l0_2
/-! ### laws_ascend: function 39 -/
def laws_ascend.l0 : Nat → List Int → Int → Option (Bool)
 | 0, _, _ => none
 | k + 1, x0, x3 => if x3 < (x0.length : Int) then (if 0 ≤ (wrap64 (x3 - 1)) then (if (wrap64 (x3 - 1)) < (x0.length : Int) then (if 0 ≤ x3 then (if (rd x0 (wrap64 (x3 - 1))) ≥ (rd x0 x3) then (some false) else (laws_ascend.l0 k x0 (wrap64 (x3 + 1)))) else (none)) else (none)) else (none)) else (some true)
def laws_ascend.f (k : Nat) (l0 : List Int) : Option (Bool) := laws_ascend.l0 k l0 1
set_option maxHeartbeats 8000000 in
set_option maxRecDepth 100000 in
theorem laws_ascend.calls (k : Nat) (A0 : Option Addr) (c0 : Nat) (l0 : List Int) (r : Bool) (w : World) (hr0 : Kd.C (Kd.int .i64) w A0 l0.length l0) (hc0 : l0.length ≤ c0) (h : laws_ascend.f k l0 = some r) :
  Calls Try.prog 39 #[.slice A0 l0.length c0] w fun e w' => e = .returned (.bool r) ∧ Drawn0 w w' := by
 have HR0 := Z.k hr0
 have HC0 := Z.k hc0
 clear hr0 hc0
 have H := h
 clear h
 unfold laws_ascend.f at H
 have H' := Z.k H
 clear H
 go_enter Try.func39, Try.ntmps39
 go_wp2
 go_loopg [3] k (fun kq v3 w' => ∃ (x3_1 : Int), v3 = .int .i64 x3_1 ∧ Aside0 (laws_ascend.l0 kq l0 x3_1 = some r) ∧ Aside0 (kq ≤ k) ∧ Drawn0 w w')
 case atStart => exact ⟨(1), (by rfl), H', ⟨Nat.le_refl _⟩, by repeat (exact Drawn0.refl _)⟩
 clear H'
 obtain ⟨x3_1, rfl, HA, HK1, ⟨m1, rfl⟩⟩ := hrel
 cases gk with
 | zero => exact absurd HA.out (by simp [laws_ascend.l0])
 | succ k1 =>
  have H := HA.out
  clear HA
  simp only [laws_ascend.l0] at H
  revert H; refine Z.fm ?_ ?_ <;> intro c2b0 H
  ·obtain rfl := Option.some.inj H
   go_wp2
   go_ret
   exact ⟨by rfl, by repeat (first | exact Drawn0.refl _ | apply Drawn0.step)⟩

  obtain ⟨ji3, hji3⟩ : ∃ j_ : Int, (wrap64 (x3_1 - 1)) = j_ := ⟨_, rfl⟩
  replace H : (if 0 ≤ (ji3) then (if (ji3) < (l0.length : Int) then (if 0 ≤ x3_1 then (if (rd l0 (ji3)) ≥ (rd l0 x3_1) then (some false) else (laws_ascend.l0 k1 l0 (wrap64 (x3_1 + 1)))) else (none)) else (none)) else (none)) = some r := by (rw [hji3] at H; exact H)
  have hji3w : (IntKind.i64.wrap (x3_1 - 1)) = ji3 := (i64_w _).trans hji3
  obtain ⟨c4b0, H⟩ := Z.fd H
  obtain ⟨c5b0, H⟩ := Z.fd H
  obtain ⟨c6b0, H⟩ := Z.fd H
  revert H; refine Z.fc ?_ ?_ <;> intro c7b0 H
  ·obtain rfl := Option.some.inj H
   have p36 : (0 ≤ ((ji3) : Int)) = True := Z.oe
   have q36 : ((ji3) < (l0.length : Int)) = True := Z.oe
   obtain ⟨ad36, rfl, hx36_0⟩ := Kd.at_int HR0.out (ji3) Z.od Z.od
   have p34 : (0 ≤ (x3_1 : Int)) = True := Z.oe
   have q34 : (x3_1 < (l0.length : Int)) = True := Z.oe
   obtain ⟨ad34, e34, hx34_0⟩ := Kd.at_int HR0.out x3_1 Z.od Z.od
   obtain rfl : ad36 = ad34 := (by injection e34)
   go_wp2
   repeat (go_quiet (fail); try go_wp2)
   go_ret
   exact ⟨by rfl, by repeat (first | exact Drawn0.refl _ | apply Drawn0.step)⟩
  have H' := Z.k H
  clear H
  have p36 : 0 ≤ ((ji3) : Int) := Z.od
  have q36 : (ji3) < (l0.length : Int) := Z.od
  obtain ⟨ad36, rfl, hx36_0⟩ := Kd.at_int HR0.out (ji3) p36 q36
  replace p36 := eq_true p36
  replace q36 := eq_true q36
  have p34 : 0 ≤ (x3_1 : Int) := Z.od
  have q34 : x3_1 < (l0.length : Int) := Z.od
  obtain ⟨ad34, e34, hx34_0⟩ := Kd.at_int HR0.out x3_1 p34 q34
  obtain rfl : ad36 = ad34 := (by injection e34)
  replace p34 := eq_true p34
  replace q34 := eq_true q34
  go_wp2
  repeat (go_quiet (fail); try go_wp2)
  go_roundg k1
  case measure => have := HK1.out; omega
  case rel => exact ⟨(wrap64 (x3_1 + 1)), (by rfl), H', ⟨by have := HK1.out; omega⟩, by repeat (first | exact Drawn0.refl _ | apply Drawn0.step)⟩
end Go.Proofs.Ytkogboechfieeaa.PAll

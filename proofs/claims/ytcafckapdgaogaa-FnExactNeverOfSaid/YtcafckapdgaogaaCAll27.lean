/- Walks of functions that All reaches, in the form of the print. -/
-- PRINTED
import Derived.Test.YtcafckapdgaogaaCAll22
import Derived.Test.YtcafckapdgaogaaCAll23
namespace Go.Proofs.Ytcafckapdgaogaa.PAll
open Go.RowKit Go.Proofs.YtcafckapdgaogaaW.PrintWords Go.Proofs.YtcafckapdgaogaaW.PrintLast Go.Proofs.YtcafckapdgaogaaW.PrintMore
attribute [local go_sem] max2_int min2_int max_two min_two max_three min_three max_four min_four
set_option linter.unusedVariables false
set_option linter.unusedSimpArgs false

/-! ### impl_hasClause: function 75 -/
def impl_hasClause.f (a0_0 : Int) (l0_1 : List Int) (l0_2 : List (List (S86))) (a1 : Int) : Option (Bool) := if a1 ≥ 0 then (some (decide (a1 < (l0_2.length : Int)))) else (some false)
-- NOT PRINTED: function 132 (impl_Variant_132)

-- NOT PRINTED: function 112 (impl_Variant_112)

-- NOT PRINTED: function 76 (impl_asksFor)

-- NOT PRINTED: function 38 (impl_ApartOk)

-- NOT PRINTED: function 6 (laws_FnExactApartOk)

/-! ### spec_l8Code: function 77 -/
def spec_l8Code.l0 : Nat → List Int → Int → Int → Option (Int)
 | 0, _, _, _ => none
 | k + 1, x0, x3, x4 => if x4 ≥ 0 then (if 0 ≤ x4 then (if x4 < (x0.length : Int) then (spec_l8Code.l0 k x0 (wrap64 ((wrap64 (x3 * 3)) + (rd x0 x4))) (wrap64 (x4 - 1))) else (none)) else (none)) else (some x3)
def spec_l8Code.f (k : Nat) (l0 : List Int) : Option (Int) := spec_l8Code.l0 k l0 0 (wrap64 ((l0.length : Int) - 1))
set_option maxHeartbeats 8000000 in
set_option maxRecDepth 100000 in
theorem spec_l8Code.calls (k : Nat) (A0 : Option Addr) (c0 : Nat) (l0 : List Int) (r : Int) (w : World) (hr0 : Kd.C (Kd.int .i64) w A0 l0.length l0) (hc0 : l0.length ≤ c0) (h : spec_l8Code.f k l0 = some r) :
  Calls Try.prog 77 #[.slice A0 l0.length c0] w fun e w' => e = .returned (.int .i64 r) ∧ Drawn0 w w' := by
 have HR0 := Aside0.mk hr0
 have HC0 := Aside0.mk hc0
 clear hr0 hc0
 have H := h
 clear h
 unfold spec_l8Code.f at H
 have H' := Aside0.mk H
 clear H
 go_enter Try.func77, Try.ntmps77
 go_wp2
 go_loopg [3, 4] k (fun kq v3 v4 w' => ∃ (x3_1 : Int) (x4_1 : Int), v3 = .int .i64 x3_1 ∧ v4 = .int .i64 x4_1 ∧ Aside0 (spec_l8Code.l0 kq l0 x3_1 x4_1 = some r) ∧ Aside0 (kq ≤ k) ∧ Drawn0 w w')
 case atStart => exact ⟨(0), (wrap64 ((l0.length : Int) - 1)), (by rfl), (by rfl), H', ⟨Nat.le_refl _⟩, by repeat (exact Drawn0.refl _)⟩
 case round =>
  clear H'
  obtain ⟨x3_1, x4_1, rfl, rfl, HA, HK1, ⟨m1, rfl⟩⟩ := hrel
  cases gk with
  | zero => exact absurd HA.out (by simp [spec_l8Code.l0])
  | succ k1 =>
   have H := HA.out
   clear HA
   simp only [spec_l8Code.l0] at H
   by_cases c2 : x4_1 ≥ 0
   ·rw [if_pos c2] at H
    have c2b0 : decide (0 ≤ x4_1) = true := decide_eq_true c2
    clear c2
    obtain ⟨c3, H⟩ := Z.ifp H
    have c3b0 : decide (0 ≤ x4_1) = true := decide_eq_true c3
    clear c3
    obtain ⟨c4, H⟩ := Z.ifp H
    have c4b0 : decide (x4_1 < (l0.length : Int)) = true := decide_eq_true c4
    clear c4
    have H' := Aside0.mk H
    clear H
    have p687 : 0 ≤ (x4_1 : Int) := Z.od
    have q687 : x4_1 < (l0.length : Int) := Z.od
    obtain ⟨ad687, rfl, hx687_0⟩ := Kd.at_int HR0.out x4_1 p687 q687
    replace p687 := eq_true p687
    replace q687 := eq_true q687
    go_wp2
    go_roundg k1
    case measure => have := HK1.out; omega
    case rel => exact ⟨(wrap64 ((wrap64 (x3_1 * 3)) + (rd l0 x4_1))), (wrap64 (x4_1 - 1)), (by rfl), (by rfl), H', ⟨by have := HK1.out; omega⟩, by repeat (first | exact Drawn0.refl _ | apply Drawn0.step)⟩
   ·rw [if_neg c2] at H
    have c2b0 : decide (0 ≤ x4_1) = false := decide_eq_false c2
    clear c2
    obtain rfl := Option.some.inj H
    go_wp2
    go_ret
    exact ⟨by rfl, by repeat (first | exact Drawn0.refl _ | apply Drawn0.step)⟩

/-! ### spec_EitherOrder: function 39 -/
def spec_EitherOrder.f (k : Nat) (a0_0 : Int) (l0_1 : List Int) (l0_2 : List (List (S86))) (l1 : List Int) (a2_0 : Int) (a2_1 : Int) (a2_2 : Int) (a3_0 : Int) (a3_1 : Int) (a3_2 : Int) : Option (Bool) := (spec_AfterActs.f k a0_0 l0_1 l0_2 l1 (([(⟨a2_0, a2_1, a2_2⟩ : S53), (⟨a3_0, a3_1, a3_2⟩ : S53)] : List (S53)))).bind fun bt694 => ((spec_AfterActs.f k a0_0 l0_1 l0_2 l1 (([(⟨a3_0, a3_1, a3_2⟩ : S53), (⟨a2_0, a2_1, a2_2⟩ : S53)] : List (S53)))).bind fun bt701 => (if bt694.2 = 2 then (if bt701.2 = 2 then ((spec_l8Code.f k bt694.1).bind fun t705 => ((spec_l8Code.f k bt701.1).bind fun t706 => (some (t705 == t706)))) else (some false)) else (some false)))
/-! ### slices_Equal_int_int: function 78 -/
def slices_Equal_int_int.l0 : Nat → List Int → List Int → Int → Int → Option (Bool)
 | 0, _, _, _, _ => none
 | k + 1, x0, x1, x12, x13 => if x13 < x12 then (if 0 ≤ x13 then (if x13 < (x0.length : Int) then (if x13 < (x1.length : Int) then (if (rd x0 x13) = (rd x1 x13) then (slices_Equal_int_int.l0 k x0 x1 x12 (wrap64 (x13 + 1))) else (some false)) else (none)) else (none)) else (none)) else (some true)
def slices_Equal_int_int.f (k : Nat) (l0 : List Int) (l1 : List Int) : Option (Bool) := if (l0.length : Int) = (l1.length : Int) then (slices_Equal_int_int.l0 k l0 l1 (l0.length : Int) 0) else (some false)
/-! ### impl_EitherOrder: function 40 -/
def impl_EitherOrder.f (k : Nat) (a0_0 : Int) (l0_1 : List Int) (l0_2 : List (List (S86))) (l1 : List Int) (a2_0 : Int) (a2_1 : Int) (a2_2 : Int) (a3_0 : Int) (a3_1 : Int) (a3_2 : Int) : Option (Bool) := (impl_isState.f k a0_0 l0_1 l0_2 l1).bind fun t712 => (if t712 = true then ((impl_AfterActs.f k a0_0 l0_1 l0_2 l1 (([(⟨a2_0, a2_1, a2_2⟩ : S53), (⟨a3_0, a3_1, a3_2⟩ : S53)] : List (S53)))).bind fun bt716 => ((impl_AfterActs.f k a0_0 l0_1 l0_2 l1 (([(⟨a3_0, a3_1, a3_2⟩ : S53), (⟨a2_0, a2_1, a2_2⟩ : S53)] : List (S53)))).bind fun bt723 => (if bt716.2 = 2 then (if bt723.2 = 2 then ((slices_Equal_int_int.f k bt716.1 bt723.1).bind fun t727 => (some t727)) else (some false)) else (some false)))) else (some false))
end Go.Proofs.Ytcafckapdgaogaa.PAll

/- Walks of functions that laws of this seat reach, in the form of the print. -/
import Derived.Test.YtojoblllgddckaaCAll0
import Derived.Test.YtojoblllgddckaaCAll1
import Derived.Test.YtojoblllgddckaaCAll21
import Derived.Test.YtojoblllgddckaaCAll25
import Derived.Test.YtojoblllgddckaaZ
-- PRINTED
namespace Go.Proofs.Ytojoblllgddckaa.PAll
open Go.RowKit Go.Proofs.YtojoblllgddckaaW.PrintWords Go.Proofs.YtojoblllgddckaaW.PrintLast Go.Proofs.YtojoblllgddckaaW.PrintMore
attribute [local go_sem] max2_int min2_int max_two min_two max_three min_three max_four min_four
set_option linter.unusedVariables false
set_option linter.unusedSimpArgs false

/-! ### spec_AfterActs: function 81 -/
mutual
def spec_AfterActs.j0 : Nat → List Int → List (S48) → Bool → Int → List Int → List (List (S91)) → Option (List Int × Int)
 | 0, _, _, _, _, _, _ => none
 | k + 1, x1, x2, x19, x925000, x925001, x925002 => if x19 = true then (some ((([] : List Int)), (-1))) else ((some (([] : List Int) : List Int)).bind fun y929 => (if y929.length + x1.length < 17592186044416 then (spec_AfterActs.l0 k x2 (y929 ++ x1) 0 0 x925000 x925001 x925002) else (none)))
def spec_AfterActs.l0 : Nat → List (S48) → List Int → Int → Int → Int → List Int → List (List (S91)) → Option (List Int × Int)
 | 0, _, _, _, _, _, _, _ => none
 | k + 1, x2, x8, x9, x10, x925000, x925001, x925002 => if x10 < (x2.length : Int) then (if 0 ≤ x10 then ((spec_MayChange.f k x925000 x925001 x925002 x8 ((rd_T48 x2 x10).f0) ((rd_T48 x2 x10).f1) ((rd_T48 x2 x10).f2)).bind fun t938 => (if t938 = true then (if 0 ≤ ((rd_T48 x2 x10).f0) then (if ((rd_T48 x2 x10).f0) < (x8.length : Int) then (spec_AfterActs.l0 k x2 (x8.set (((rd_T48 x2 x10).f0) : Int).toNat ((rd_T48 x2 x10).f1)) (wrap64 (x9 + 1)) (wrap64 (x10 + 1)) x925000 x925001 x925002) else (none)) else (none)) else (spec_AfterActs.l0 k x2 x8 x9 (wrap64 (x10 + 1)) x925000 x925001 x925002))) else (none)) else (some (x8, x9))
end
def spec_AfterActs.f (k : Nat) (a0_0 : Int) (l0_1 : List Int) (l0_2 : List (List (S91))) (l1 : List Int) (l2 : List (S48)) : Option (List Int × Int) := (spec_StateOk.f k a0_0 l0_1 l0_2 l1).bind fun t925 => (if t925 = true then (spec_AfterActs.j0 k l1 l2 (decide ((l2.length : Int) > 12)) a0_0 l0_1 l0_2) else (spec_AfterActs.j0 k l1 l2 true a0_0 l0_1 l0_2))
/-! ### spec_l8Code: function 82 -/
def spec_l8Code.l0 : Nat → List Int → Int → Int → Option (Int)
 | 0, _, _, _ => none
 | k + 1, x0, x3, x4 => if x4 ≥ 0 then (if 0 ≤ x4 then (if x4 < (x0.length : Int) then (spec_l8Code.l0 k x0 (wrap64 ((wrap64 (x3 * 3)) + (rd x0 x4))) (wrap64 (x4 - 1))) else (none)) else (none)) else (some x3)
def spec_l8Code.f (k : Nat) (l0 : List Int) : Option (Int) := spec_l8Code.l0 k l0 0 (wrap64 ((l0.length : Int) - 1))
set_option maxHeartbeats 8000000 in
set_option maxRecDepth 100000 in
theorem spec_l8Code.calls (k : Nat) (A0 : Option Addr) (c0 : Nat) (l0 : List Int) (r : Int) (w : World) (hr0 : Kd.C (Kd.int .i64) w A0 l0.length l0) (hc0 : l0.length ≤ c0) (h : spec_l8Code.f k l0 = some r) :
  Calls Try.prog 82 #[.slice A0 l0.length c0] w fun e w' => e = .returned (.int .i64 r) ∧ Drawn0 w w' := by
 have HR0 := Z.k hr0
 have HC0 := Z.k hc0
 clear hr0 hc0
 have H := h
 clear h
 unfold spec_l8Code.f at H
 have H' := Z.k H
 clear H
 go_enter Try.func82, Try.ntmps82
 go_wp2
 go_loopg [3, 4] k (fun kq v3 v4 w' => ∃ (x3_1 : Int) (x4_1 : Int), v3 = .int .i64 x3_1 ∧ v4 = .int .i64 x4_1 ∧ Aside0 (spec_l8Code.l0 kq l0 x3_1 x4_1 = some r) ∧ Aside0 (kq ≤ k) ∧ Drawn0 w w')
 case atStart => exact ⟨(0), (wrap64 ((l0.length : Int) - 1)), (by rfl), (by rfl), H', ⟨Nat.le_refl _⟩, Drawn0.refl _⟩
 case round =>
  clear H'
  obtain ⟨x3_1, x4_1, rfl, rfl, HA, HK1, ⟨m1, rfl⟩⟩ := hrel
  cases gk with
  | zero => exact absurd HA.out (by simp [spec_l8Code.l0])
  | succ k1 =>
   have H := HA.out
   clear HA
   simp only [spec_l8Code.l0] at H
   by_cases c2 : x4_1 ≥ 0
   ·rw [if_pos c2] at H
    have c2b0 : decide (0 ≤ x4_1) = true := decide_eq_true c2
    clear c2
    obtain ⟨c3, H⟩ := Z.ifp H
    have c3b0 : decide (0 ≤ x4_1) = true := decide_eq_true c3
    clear c3
    obtain ⟨c4, H⟩ := Z.ifp H
    have c4b0 : decide (x4_1 < (l0.length : Int)) = true := decide_eq_true c4
    clear c4
    have H' := Z.k H
    clear H
    have p942 : 0 ≤ (x4_1 : Int) := Z.od
    have q942 : x4_1 < (l0.length : Int) := Z.od
    obtain ⟨ad942, rfl, hx942_0⟩ := Kd.at_int HR0.out x4_1 p942 q942
    replace p942 := eq_true p942
    replace q942 := eq_true q942
    go_wp2
    go_roundg k1
    case measure => have := HK1.out; omega
    case rel => exact ⟨(wrap64 ((wrap64 (x3_1 * 3)) + (rd l0 x4_1))), (wrap64 (x4_1 - 1)), (by rfl), (by rfl), H', ⟨by have := HK1.out; omega⟩, by repeat (first | exact Drawn0.refl _ | apply Drawn0.step)⟩
   ·rw [if_neg c2] at H
    have c2b0 : decide (0 ≤ x4_1) = false := decide_eq_false c2
    clear c2
    obtain rfl := Option.some.inj H
    go_wp2
    go_ret
    exact ⟨by rfl, by repeat (first | exact Drawn0.refl _ | apply Drawn0.step)⟩

end Go.Proofs.Ytojoblllgddckaa.PAll

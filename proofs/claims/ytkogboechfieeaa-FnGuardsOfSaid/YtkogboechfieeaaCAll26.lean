/- Walks of functions that laws of this seat reach, in the form of the print. -/
import Derived.Test.YtkogboechfieeaaCAll24
-- PRINTED
namespace Go.Proofs.Ytkogboechfieeaa.PAll
open Go.RowKit Go.Proofs.YtkogboechfieeaaW.PrintWords Go.Proofs.YtkogboechfieeaaW.PrintLast Go.Proofs.YtkogboechfieeaaW.PrintMore
attribute [local go_sem] max2_int min2_int max_two min_two max_three min_three max_four min_four
set_option linter.unusedVariables false
set_option linter.unusedSimpArgs false

/-! ### laws_sameInts: function 34 -/
def laws_sameInts.l0 : Nat → List Int → List Int → Int → Option (Bool)
 | 0, _, _, _ => none
 | k + 1, x0, x1, x5 => if x5 < (x0.length : Int) then (if 0 ≤ x5 then (if x5 < (x1.length : Int) then (if (rd x0 x5) = (rd x1 x5) then (laws_sameInts.l0 k x0 x1 (wrap64 (x5 + 1))) else (some false)) else (none)) else (none)) else (some true)
def laws_sameInts.f (k : Nat) (l0 : List Int) (l1 : List Int) : Option (Bool) := if (l0.length : Int) = (l1.length : Int) then (laws_sameInts.l0 k l0 l1 0) else (some false)
set_option maxHeartbeats 8000000 in
set_option maxRecDepth 100000 in
theorem laws_sameInts.calls (k : Nat) (A0 : Option Addr) (c0 : Nat) (l0 : List Int) (A1 : Option Addr) (c1 : Nat) (l1 : List Int) (r : Bool) (w : World) (hr0 : Kd.C (Kd.int .i64) w A0 l0.length l0) (hc0 : l0.length ≤ c0) (hr1 : Kd.C (Kd.int .i64) w A1 l1.length l1) (hc1 : l1.length ≤ c1) (h : laws_sameInts.f k l0 l1 = some r) :
  Calls Try.prog 34 #[.slice A0 l0.length c0, .slice A1 l1.length c1] w fun e w' => e = .returned (.bool r) ∧ Drawn0 w w' := by
 have HR0 := Z.k hr0
 have HC0 := Z.k hc0
 clear hr0 hc0
 have HR1 := Z.k hr1
 have HC1 := Z.k hc1
 clear hr1 hc1
 have H := h
 clear h
 unfold laws_sameInts.f at H
 by_cases c3 : (l0.length : Int) = (l1.length : Int)
 rotate_left
 ·rw [if_neg c3] at H
  have c3b0 : ((l0.length : Int) == (l1.length : Int)) = false := beq_eq_false_iff_ne.mpr c3
  have c3b1 : ((l0.length : Int) != (l1.length : Int)) = true := bne_iff_ne.mpr c3
  have c3b2 : (l0.length == l1.length) = false := by (simp at c3 ⊢; omega)
  obtain rfl := Option.some.inj H
  go_enter Try.func34, Try.ntmps34
  go_wp2
  go_ret
  exact ⟨by rfl, Drawn0.refl _⟩

 rw [if_pos c3] at H
 have c3b0 : ((l0.length : Int) == (l1.length : Int)) = true := beq_iff_eq.mpr c3
 have c3b1 : ((l0.length : Int) != (l1.length : Int)) = false := bne_eq_false_iff_eq.mpr c3
 have c3b2 : (l0.length == l1.length) = true := by (simp at c3 ⊢; omega)
 clear c3
 have H' := Z.k H
 clear H
 go_enter Try.func34, Try.ntmps34
 go_wp2
 go_loopg [5] k (fun kq v5 w' => ∃ (x5_1 : Int), v5 = .int .i64 x5_1 ∧ Aside0 (laws_sameInts.l0 kq l0 l1 x5_1 = some r) ∧ Aside0 (kq ≤ k) ∧ Drawn0 w w')
 case atStart => exact ⟨(0), (by rfl), H', ⟨Nat.le_refl _⟩, Drawn0.refl _⟩
 clear H'
 try clear c3b0
 try clear c3b1
 try clear c3b2
 obtain ⟨x5_1, rfl, HA, HK1, ⟨m1, rfl⟩⟩ := hrel
 cases gk with
 | zero => exact absurd HA.out (by simp [laws_sameInts.l0])
 | succ k1 =>
  have H := HA.out
  clear HA
  simp only [laws_sameInts.l0] at H
  revert H; refine Z.fm ?_ ?_ <;> intro c4b0 H
  ·obtain rfl := Option.some.inj H
   go_wp2
   go_ret
   exact ⟨by rfl, by repeat (first | exact Drawn0.refl _ | apply Drawn0.step)⟩
  obtain ⟨c5b0, H⟩ := Z.fd H
  obtain ⟨c6b0, H⟩ := Z.fd H
  by_cases c7 : (rd l0 x5_1) = (rd l1 x5_1)
  ·rw [if_pos c7] at H
   have c7b0 : ((rd l0 x5_1) == (rd l1 x5_1)) = true := beq_iff_eq.mpr c7
   have c7b1 : ((rd l0 x5_1) != (rd l1 x5_1)) = false := bne_eq_false_iff_eq.mpr c7
   clear c7
   have H' := Z.k H
   clear H
   have p50 : 0 ≤ (x5_1 : Int) := Z.od
   have q50 : x5_1 < (l0.length : Int) := Z.od
   obtain ⟨ad50, rfl, hx50_0⟩ := Kd.at_int HR0.out x5_1 p50 q50
   replace p50 := eq_true p50
   replace q50 := eq_true q50
   have p52 : 0 ≤ (x5_1 : Int) := Z.od
   have q52 : x5_1 < (l1.length : Int) := Z.od
   obtain ⟨ad52, rfl, hx52_0⟩ := Kd.at_int HR1.out x5_1 p52 q52
   replace p52 := eq_true p52
   replace q52 := eq_true q52
   go_wp2
   repeat (go_quiet (fail); try go_wp2)
   go_roundg k1
   case measure => have := HK1.out; omega
   case rel => exact ⟨(wrap64 (x5_1 + 1)), (by rfl), H', ⟨by have := HK1.out; omega⟩, by repeat (first | exact Drawn0.refl _ | apply Drawn0.step)⟩
  rw [if_neg c7] at H
  have c7b0 : ((rd l0 x5_1) == (rd l1 x5_1)) = false := beq_eq_false_iff_ne.mpr c7
  have c7b1 : ((rd l0 x5_1) != (rd l1 x5_1)) = true := bne_iff_ne.mpr c7
  obtain rfl := Option.some.inj H
  have p50 : (0 ≤ (x5_1 : Int)) = True := Z.oe
  have q50 : (x5_1 < (l0.length : Int)) = True := Z.oe
  obtain ⟨ad50, rfl, hx50_0⟩ := Kd.at_int HR0.out x5_1 Z.od Z.od
  have p52 : (0 ≤ (x5_1 : Int)) = True := Z.oe
  have q52 : (x5_1 < (l1.length : Int)) = True := Z.oe
  obtain ⟨ad52, rfl, hx52_0⟩ := Kd.at_int HR1.out x5_1 Z.od Z.od
  go_wp2
  repeat (go_quiet (fail); try go_wp2)
  go_ret
  exact ⟨by rfl, by repeat (first | exact Drawn0.refl _ | apply Drawn0.step)⟩
/-! ### impl_ValidActs: function 35 -/
mutual
def impl_ValidActs.j0 : Nat → List Int → List (S59) → Bool → Int → List Int → List (List (S37)) → Option ((List (S59)))
 | 0, _, _, _, _, _, _ => none
 | k + 1, x1, x2, x19, x55, x56, x57 => if x19 = true then (some ([] : List (S59))) else ((some (([] : List Int) : List Int)).bind fun y53 => (if y53.length + x1.length < 17592186044416 then (impl_ValidActs.l0 k (y53 ++ x1) (([] : List (S59))) x2 (x2.length : Int) 0 x55 x56 x57) else (none)))
def impl_ValidActs.l0 : Nat → List Int → List (S59) → List (S59) → Int → Int → Int → List Int → List (List (S37)) → Option ((List (S59)))
 | 0, _, _, _, _, _, _, _, _ => none
 | k + 1, x7, x8, x24, x25, x26, x55, x56, x57 => if x26 < x25 then (if 0 ≤ x26 then (if x26 < (x24.length : Int) then ((impl_mayAct.f k x55 x56 x57 x7 ((rd_T59 x24 x26).f0) ((rd_T59 x24 x26).f1) ((rd_T59 x24 x26).f2)).bind fun t63 => (if t63 = true then (if 0 ≤ ((rd_T59 x24 x26).f0) then (if ((rd_T59 x24 x26).f0) < (x7.length : Int) then (if x8.length < 5864062014805 then (impl_ValidActs.l0 k (x7.set (((rd_T59 x24 x26).f0) : Int).toNat ((rd_T59 x24 x26).f1)) (x8 ++ [(⟨(rd_T59 x24 x26).f0, (rd_T59 x24 x26).f1, (rd_T59 x24 x26).f2⟩ : S59)]) x24 x25 (wrap64 (x26 + 1)) x55 x56 x57) else (none)) else (none)) else (none)) else (impl_ValidActs.l0 k x7 x8 x24 x25 (wrap64 (x26 + 1)) x55 x56 x57))) else (none)) else (none)) else (some x8)
end
def impl_ValidActs.f (k : Nat) (a0_0 : Int) (l0_1 : List Int) (l0_2 : List (List (S37))) (l1 : List Int) (l2 : List (S59)) : Option ((List (S59))) := (impl_isState.f k a0_0 l0_1 l0_2 l1).bind fun t65 => (if t65 = true then (impl_ValidActs.j0 k l1 l2 (decide ((l2.length : Int) > 12)) a0_0 l0_1 l0_2) else (impl_ValidActs.j0 k l1 l2 true a0_0 l0_1 l0_2))
end Go.Proofs.Ytkogboechfieeaa.PAll

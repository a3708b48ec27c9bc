/- Walks of functions that laws of this seat reach, in the form of the print. -/
import Derived.Test.YtkogboechfieeaaCAll1
-- PRINTED
namespace Go.Proofs.Ytkogboechfieeaa.PAll
open Go.RowKit Go.Proofs.YtkogboechfieeaaW.PrintWords Go.Proofs.YtkogboechfieeaaW.PrintLast Go.Proofs.YtkogboechfieeaaW.PrintMore
attribute [local go_sem] max2_int min2_int max_two min_two max_three min_three max_four min_four
set_option linter.unusedVariables false
set_option linter.unusedSimpArgs false

/-! ### spec_l1Heads: function 108 -/
def spec_l1Heads.l0 : Nat → Int → Int → Option (Int)
 | 0, _, _ => none
 | k + 1, x0, x3 => if x0 > 0 then (spec_l1Heads.l0 k (wrap64 (Int.tdiv x0 2)) (wrap64 (x3 + (Int.tmod x0 2)))) else (some x3)
def spec_l1Heads.f (k : Nat) (a0 : Int) : Option (Int) := spec_l1Heads.l0 k a0 0
theorem spec_l1Heads.mono_l : ∀ k, (∀ y0 y1, LeO (spec_l1Heads.l0 k y0 y1) (spec_l1Heads.l0 (k + 1) y0 y1))
 | 0 => fun _ _ r h => by simp [spec_l1Heads.l0] at h
 | k + 1 => by
  have ih0 := spec_l1Heads.mono_l k
  ·intro y0 y1
   unfold spec_l1Heads.l0
   repeat' first
   | (with_reducible exact LeO.refl _)
   | exact ih0 _ _
   | exact LeO.none _
   | refine LeO.ite ?_ ?_
   | refine LeO.bind ?_ (fun _ => ?_)
theorem spec_l1Heads.mono : ∀ a0 k, LeO (spec_l1Heads.f k a0) (spec_l1Heads.f (k + 1) a0) := by
 intro a0 k
 have ih0 := spec_l1Heads.mono_l k
 unfold spec_l1Heads.f
 repeat' first
   | (with_reducible exact LeO.refl _)
   | exact ih0 _ _
   | exact LeO.none _
   | refine LeO.ite ?_ ?_
   | refine LeO.bind ?_ (fun _ => ?_)
set_option maxHeartbeats 8000000 in
set_option maxRecDepth 100000 in
theorem spec_l1Heads.calls (k : Nat) (a0 : Int) (r : Int) (w : World) (h : spec_l1Heads.f k a0 = some r) :
  Calls Try.prog 108 #[.int .i64 a0] w fun e w' => e = .returned (.int .i64 r) ∧ Drawn0 w w' := by
 have H := h
 clear h
 unfold spec_l1Heads.f at H
 have H' := Z.k H
 clear H
 go_enter Try.func108, Try.ntmps108
 go_wp2
 go_loopg [0, 3] k (fun kq v0 v3 w' => ∃ (x0_1 : Int) (x3_1 : Int), v0 = .int .i64 x0_1 ∧ v3 = .int .i64 x3_1 ∧ Aside0 (spec_l1Heads.l0 kq x0_1 x3_1 = some r) ∧ Aside0 (kq ≤ k) ∧ Drawn0 w w')
 case atStart => exact ⟨(a0), (0), (by rfl), (by rfl), H', ⟨Nat.le_refl _⟩, Drawn0.refl _⟩
 clear H'
 obtain ⟨x0_1, x3_1, rfl, rfl, HA, HK1, ⟨m1, rfl⟩⟩ := hrel
 cases gk with
 | zero => exact absurd HA.out (by simp [spec_l1Heads.l0])
 | succ k1 =>
  have H := HA.out
  clear HA
  simp only [spec_l1Heads.l0] at H
  revert H; refine Z.fm ?_ ?_ <;> intro c2b0 H
  ·obtain rfl := Option.some.inj H
   go_wp2
   go_ret
   exact ⟨by rfl, by repeat (first | exact Drawn0.refl _ | apply Drawn0.step)⟩

  have H' := Z.k H
  clear H
  go_wp2
  go_roundg k1
  case measure => have := HK1.out; omega
  case rel => exact ⟨(wrap64 (Int.tdiv x0_1 2)), (wrap64 (x3_1 + (Int.tmod x0_1 2))), (by rfl), (by rfl), H', ⟨by have := HK1.out; omega⟩, by repeat (first | exact Drawn0.refl _ | apply Drawn0.step)⟩
/-! ### spec_l1In: function 59 -/
def spec_l1In.f (a0 : Int) (a1 : Int) (a2 : Int) : Option (Bool) := if a0 ≥ a1 then (some (decide (a0 ≤ a2))) else (some false)
set_option maxHeartbeats 8000000 in
set_option maxRecDepth 100000 in
theorem spec_l1In.calls (a0 : Int) (a1 : Int) (a2 : Int) (r : Bool) (w : World) (h : spec_l1In.f a0 a1 a2 = some r) :
  Calls Try.prog 59 #[.int .i64 a0, .int .i64 a1, .int .i64 a2] w fun e w' => e = .returned (.bool r) ∧ Drawn0 w w' := by
 have H := h
 clear h
 unfold spec_l1In.f at H
 revert H; refine Z.fc ?_ ?_ <;> intro c4b0 H
 ·obtain rfl := Option.some.inj H
  go_enter Try.func59, Try.ntmps59
  go_wp2
  go_ret
  exact ⟨by rfl, Drawn0.refl _⟩
 obtain rfl := Option.some.inj H
 go_enter Try.func59, Try.ntmps59
 go_wp2
 go_ret
 exact ⟨by rfl, Drawn0.refl _⟩

/-! ### spec_CrowdOk: function 17 -/
def spec_CrowdOk.f (a0 : Int) (a1 : Int) : Option (Bool) := (spec_l1In.f a0 1 6).bind fun t22 => (if t22 = true then (if 0 ≤ a0 then ((spec_l1In.f a1 0 (wrap64 ((shl .i64 1 a0) - 1))).bind fun t21 => (some t21)) else (none)) else (some false))
set_option maxHeartbeats 8000000 in
set_option maxRecDepth 100000 in
theorem spec_CrowdOk.calls (a0 : Int) (a1 : Int) (r : Bool) (w : World) (h : spec_CrowdOk.f a0 a1 = some r) :
  Calls Try.prog 17 #[.int .i64 a0, .int .i64 a1] w fun e w' => e = .returned (.bool r) ∧ Drawn0 w w' := by
 have H := h
 clear h
 unfold spec_CrowdOk.f at H
 revert H; refine Z.bd ?_; rintro t22 A3 H
 by_cases c4 : t22 = true
 ·subst c4
  rw [if_pos rfl] at H
  obtain ⟨c5, H⟩ := Z.ifp H
  have c5b0 := eq_true c5
  have c5b1 : decide (0 ≤ a0) = true := decide_eq_true c5
  clear c5
  obtain ⟨ji6, hji6⟩ : ∃ j_ : Int, (shl .i64 1 a0) = j_ := ⟨_, rfl⟩
  replace H : ((spec_l1In.f a1 0 (wrap64 ((ji6) - 1))).bind fun t21 => (some t21)) = some r := by (rw [hji6] at H; exact H)
  have hji6_ : (IntKind.i64.wrap (1 * 2 ^ min a0.toNat 64)) = ji6 := hji6
  have hji6z : a0 ≤ 64 → (IntKind.i64.wrap (1 * 2 ^ a0.toNat)) = ji6 := shl_small hji6
  have hji6u : (IntKind.i64.wrap (2 ^ min a0.toNat 64)) = ji6 := by have h_ := hji6_; rw [Int.one_mul] at h_; exact h_
  have hji6v : a0 ≤ 64 → (IntKind.i64.wrap (2 ^ a0.toNat)) = ji6 := fun hle_ => by have h_ := hji6z hle_; rw [Int.one_mul] at h_; exact h_
  have hji6y : (wrap64 (1 * 2 ^ min a0.toNat 64)) = ji6 := (i64_w _).symm.trans hji6_
  have hji6x : a0 ≤ 64 → (wrap64 (1 * 2 ^ a0.toNat)) = ji6 := fun h_ => (i64_w _).symm.trans (hji6z h_)
  revert H; refine Z.bd ?_; rintro t21 A7 H
  obtain rfl := Option.some.inj H
  go_enter Try.func17, Try.ntmps17
  go_wp2_with (first | ((with_reducible refine gate_callee (f := 59) rfl ?_); refine goesL_ (some 6) rfl rfl Try.func59 (by kernel_rfl) rfl #[.int .i64 a0, .int .i64 1, .int .i64 6] rfl Z.ar ?_; (with_reducible refine (spec_l1In.calls a0 1 6 true _ A3.out).mono ?_); rintro e w' ⟨rfl, ⟨nd, rfl⟩⟩; refine ⟨_, rfl, ?_⟩) | (go_at_call 59; (with_reducible refine (spec_l1In.calls a1 0 (wrap64 ((ji6) - 1)) t21 _ A7.out).mono ?_); rintro e w' ⟨rfl, ⟨nd, rfl⟩⟩))
  go_ret
  exact ⟨by rfl, by repeat (first | exact Drawn0.refl _ | apply Drawn0.step)⟩
 replace c4 := Bool.eq_false_iff.mpr c4
 subst c4
 rw [if_neg (show ¬ (false = true) by decide)] at H
 obtain rfl := Option.some.inj H
 go_enter Try.func17, Try.ntmps17
 go_wp2_with (((with_reducible refine gate_callee (f := 59) rfl ?_); refine goesL_ (some 6) rfl rfl Try.func59 (by kernel_rfl) rfl #[.int .i64 a0, .int .i64 1, .int .i64 6] rfl Z.ar ?_; (with_reducible refine (spec_l1In.calls a0 1 6 false _ A3.out).mono ?_); rintro e w' ⟨rfl, ⟨nd, rfl⟩⟩; refine ⟨_, rfl, ?_⟩))
 go_ret
 exact ⟨by rfl, by repeat (first | exact Drawn0.refl _ | apply Drawn0.step)⟩

/-! ### spec_HouseOk: function 91 -/
def spec_HouseOk.l0 : Nat → Int → Int → List Int → Option (Bool)
 | 0, _, _, _ => none
 | k + 1, x3, x20, x19 => if x3 < (x19.length : Int) then (if 0 ≤ x3 then ((spec_CrowdOk.f x20 (rd x19 x3)).bind fun t23 => (if t23 = true then (if (rd x19 x3) = 0 then (some false) else (spec_HouseOk.l0 k (wrap64 (x3 + 1)) x20 x19)) else (some false))) else (none)) else ((spec_l1In.f x20 1 6).bind fun t24 => (if t24 = true then (some (decide ((x19.length : Int) ≤ 4))) else (some false)))
def spec_HouseOk.f (k : Nat) (a0_0 : Int) (l0_1 : List Int) : Option (Bool) := spec_HouseOk.l0 k 0 a0_0 l0_1
set_option maxHeartbeats 8000000 in
set_option maxRecDepth 100000 in
theorem spec_HouseOk.calls (k : Nat) (a0_0 : Int) (A0_1 : Option Addr) (c0_1 : Nat) (l0_1 : List Int) (r : Bool) (w : World) (hr0_1 : Kd.C (Kd.int .i64) w A0_1 l0_1.length l0_1) (hc0_1 : l0_1.length ≤ c0_1) (h : spec_HouseOk.f k a0_0 l0_1 = some r) :
  Calls Try.prog 91 #[.agg #[.int .i64 a0_0, .slice A0_1 l0_1.length c0_1]] w fun e w' => e = .returned (.bool r) ∧ Below w.heap.size w w' := by
 have hu25 := Try.underlying25
 have HR0_1 := Z.k hr0_1
 have HC0_1 := Z.k hc0_1
 clear hr0_1 hc0_1
 have HB := Z.k (Below.refl w.heap.size w)
 have H := h
 clear h
 unfold spec_HouseOk.f at H
 have H' := Z.k H
 clear H
 go_enter Try.func91, Try.ntmps91
 go_wp2_with (((with_reducible refine gate_dst (N := 1) rfl ?_); (try (refine gate_guard (by rfl) ?_; dsimp only)); refine Z.bx #[.int .i64 a0_0, .slice A0_1 l0_1.length c0_1] 25 HB ?_; clear HB; intro gb18 w2 BK18 GE18 HB hg hb; have GW18 := GE18; clear hb hg))
 go_loopg [3] k (fun kq v3 w' => ∃ (x3_1 : Int), v3 = .int .i64 x3_1 ∧ Aside0 (spec_HouseOk.l0 kq x3_1 a0_0 l0_1 = some r) ∧ Aside0 (kq ≤ k) ∧ Aside0 (w'.heap[gb18]? = some (.cells #[.int .i64 a0_0, (.slice A0_1 l0_1.length c0_1)] 25 (0, 0))) ∧ Aside0 (Below w.heap.size w w'))
 case atStart => exact ⟨(0), (by rfl), H', ⟨Nat.le_refl _⟩, ⟨by exact BK18.out⟩, ⟨Z.bs HB.out GE18.out⟩⟩
 clear H'
 obtain ⟨x3_1, rfl, HA, HK1, BK18, HB⟩ := hrel
 cases gk with
 | zero => exact absurd HA.out (by simp [spec_HouseOk.l0])
 | succ k1 =>
  have H := HA.out
  clear HA
  simp only [spec_HouseOk.l0] at H
  revert H; refine Z.fm ?_ ?_ <;> intro c3b0 H
  ·revert H; refine Z.bd ?_; rintro t24 A11 H
   by_cases c12 : t24 = true
   ·subst c12
    rw [if_pos rfl] at H
    obtain rfl := Option.some.inj H
    have hcz13 := Z.c2 BK18.out
    go_wp2_with ((go_at_call 59; (with_reducible refine (spec_l1In.calls a0_0 1 6 true _ A11.out).mono ?_); rintro e w' ⟨rfl, ⟨nd, rfl⟩⟩))
    go_ret
    exact ⟨by rfl, Z.bs HB.out GE18.out⟩
   replace c12 := Bool.eq_false_iff.mpr c12
   subst c12
   rw [if_neg (show ¬ (false = true) by decide)] at H
   obtain rfl := Option.some.inj H
   have hcz14 := Z.c2 BK18.out
   go_wp2_with ((go_at_call 59; (with_reducible refine (spec_l1In.calls a0_0 1 6 false _ A11.out).mono ?_); rintro e w' ⟨rfl, ⟨nd, rfl⟩⟩))
   go_ret
   exact ⟨by rfl, Z.bs HB.out GE18.out⟩

  obtain ⟨c4b0, H⟩ := Z.fd H
  revert H; refine Z.bd ?_; rintro t23 A5 H
  by_cases c6 : t23 = true
  ·subst c6
   rw [if_pos rfl] at H
   by_cases c7 : (rd l0_1 x3_1) = 0
   ·rw [if_pos c7] at H
    have c7b0 : ((rd l0_1 x3_1) == 0) = true := beq_iff_eq.mpr c7
    have c7b1 : ((rd l0_1 x3_1) != 0) = false := bne_eq_false_iff_eq.mpr c7
    clear c7
    obtain rfl := Option.some.inj H
    have hcz8 := Z.c2 BK18.out
    have p16 : (0 ≤ (x3_1 : Int)) = True := Z.oe
    have q16 : (x3_1 < (l0_1.length : Int)) = True := Z.oe
    obtain ⟨ad16, rfl, hx16_0⟩ := Kd.at_int HR0_1.out x3_1 Z.od Z.od
    replace hx16_0 := Z.up HB.out hx16_0
    go_wp2_with ((go_at_call 17; (with_reducible refine (spec_CrowdOk.calls a0_0 (rd l0_1 x3_1) true _ A5.out).mono ?_); rintro e w' ⟨rfl, ⟨nd, rfl⟩⟩; have p15 : 0 ≤ (x3_1 : Int) := Z.od; have q15 : x3_1 < (l0_1.length : Int) := Z.od; obtain ⟨ad15, e15, hx15_0⟩ := Kd.at_int HR0_1.out x3_1 p15 q15; obtain rfl : ad16 = ad15 := (by injection e15); replace hx15_0 := Z.up HB.out hx15_0; replace p15 := eq_true p15; replace q15 := eq_true q15))
    repeat (go_quiet ((go_at_call 17; (with_reducible refine (spec_CrowdOk.calls a0_0 (rd l0_1 x3_1) true _ A5.out).mono ?_); rintro e w' ⟨rfl, ⟨nd, rfl⟩⟩; (try exact ⟨rfl, _, World.drewN_drewN _ _ _⟩); have p15 : 0 ≤ (x3_1 : Int) := Z.od; have q15 : x3_1 < (l0_1.length : Int) := Z.od; obtain ⟨ad15, e15, hx15_0⟩ := Kd.at_int HR0_1.out x3_1 p15 q15; obtain rfl : ad16 = ad15 := (by injection e15); replace hx15_0 := Z.up HB.out hx15_0; replace p15 := eq_true p15; replace q15 := eq_true q15)); try go_wp2_with ((go_at_call 17; (with_reducible refine (spec_CrowdOk.calls a0_0 (rd l0_1 x3_1) true _ A5.out).mono ?_); rintro e w' ⟨rfl, ⟨nd, rfl⟩⟩; have p15 : 0 ≤ (x3_1 : Int) := Z.od; have q15 : x3_1 < (l0_1.length : Int) := Z.od; obtain ⟨ad15, e15, hx15_0⟩ := Kd.at_int HR0_1.out x3_1 p15 q15; obtain rfl : ad16 = ad15 := (by injection e15); replace hx15_0 := Z.up HB.out hx15_0; replace p15 := eq_true p15; replace q15 := eq_true q15)))
    go_ret
    exact ⟨by rfl, Z.bs HB.out GE18.out⟩
   rw [if_neg c7] at H
   have c7b0 : ((rd l0_1 x3_1) == 0) = false := beq_eq_false_iff_ne.mpr c7
   have c7b1 : ((rd l0_1 x3_1) != 0) = true := bne_iff_ne.mpr c7
   have H' := Z.k H
   clear H
   have hcz9 := Z.c2 BK18.out
   have p16 : (0 ≤ (x3_1 : Int)) = True := Z.oe
   have q16 : (x3_1 < (l0_1.length : Int)) = True := Z.oe
   obtain ⟨ad16, rfl, hx16_0⟩ := Kd.at_int HR0_1.out x3_1 Z.od Z.od
   replace hx16_0 := Z.up HB.out hx16_0
   go_wp2_with ((go_at_call 17; (with_reducible refine (spec_CrowdOk.calls a0_0 (rd l0_1 x3_1) true _ A5.out).mono ?_); rintro e w' ⟨rfl, ⟨nd, rfl⟩⟩; have p15 : 0 ≤ (x3_1 : Int) := Z.od; have q15 : x3_1 < (l0_1.length : Int) := Z.od; obtain ⟨ad15, e15, hx15_0⟩ := Kd.at_int HR0_1.out x3_1 p15 q15; obtain rfl : ad16 = ad15 := (by injection e15); replace hx15_0 := Z.up HB.out hx15_0; replace p15 := eq_true p15; replace q15 := eq_true q15))
   repeat (go_quiet ((go_at_call 17; (with_reducible refine (spec_CrowdOk.calls a0_0 (rd l0_1 x3_1) true _ A5.out).mono ?_); rintro e w' ⟨rfl, ⟨nd, rfl⟩⟩; (try exact ⟨rfl, _, World.drewN_drewN _ _ _⟩); have p15 : 0 ≤ (x3_1 : Int) := Z.od; have q15 : x3_1 < (l0_1.length : Int) := Z.od; obtain ⟨ad15, e15, hx15_0⟩ := Kd.at_int HR0_1.out x3_1 p15 q15; obtain rfl : ad16 = ad15 := (by injection e15); replace hx15_0 := Z.up HB.out hx15_0; replace p15 := eq_true p15; replace q15 := eq_true q15)); try go_wp2_with ((go_at_call 17; (with_reducible refine (spec_CrowdOk.calls a0_0 (rd l0_1 x3_1) true _ A5.out).mono ?_); rintro e w' ⟨rfl, ⟨nd, rfl⟩⟩; have p15 : 0 ≤ (x3_1 : Int) := Z.od; have q15 : x3_1 < (l0_1.length : Int) := Z.od; obtain ⟨ad15, e15, hx15_0⟩ := Kd.at_int HR0_1.out x3_1 p15 q15; obtain rfl : ad16 = ad15 := (by injection e15); replace hx15_0 := Z.up HB.out hx15_0; replace p15 := eq_true p15; replace q15 := eq_true q15)))
   go_roundg k1
   case measure => have := HK1.out; omega
   case rel => exact ⟨(wrap64 (x3_1 + 1)), (by rfl), H', ⟨by have := HK1.out; omega⟩, ⟨by (with_reducible repeat (refine blk_drewN ?_ _)); exact BK18.out⟩, ⟨Z.bs HB.out GE18.out⟩⟩
  replace c6 := Bool.eq_false_iff.mpr c6
  subst c6
  rw [if_neg (show ¬ (false = true) by decide)] at H
  obtain rfl := Option.some.inj H
  have hcz10 := Z.c2 BK18.out
  have p16 : (0 ≤ (x3_1 : Int)) = True := Z.oe
  have q16 : (x3_1 < (l0_1.length : Int)) = True := Z.oe
  obtain ⟨ad16, rfl, hx16_0⟩ := Kd.at_int HR0_1.out x3_1 Z.od Z.od
  replace hx16_0 := Z.up HB.out hx16_0
  go_wp2_with ((go_at_call 17; (with_reducible refine (spec_CrowdOk.calls a0_0 (rd l0_1 x3_1) false _ A5.out).mono ?_); rintro e w' ⟨rfl, ⟨nd, rfl⟩⟩))
  repeat (go_quiet ((go_at_call 17; (with_reducible refine (spec_CrowdOk.calls a0_0 (rd l0_1 x3_1) false _ A5.out).mono ?_); rintro e w' ⟨rfl, ⟨nd, rfl⟩⟩; (try exact ⟨rfl, _, World.drewN_drewN _ _ _⟩))); try go_wp2_with ((go_at_call 17; (with_reducible refine (spec_CrowdOk.calls a0_0 (rd l0_1 x3_1) false _ A5.out).mono ?_); rintro e w' ⟨rfl, ⟨nd, rfl⟩⟩)))
  go_ret
  exact ⟨by rfl, Z.bs HB.out GE18.out⟩
end Go.Proofs.Ytkogboechfieeaa.PAll

/- Walks of functions that All reaches, in the form of the print. -/
-- PRINTED
import Derived.Test.YtcafckapdgaogaaCAll14
import Derived.Test.YtcafckapdgaogaaCAll16
namespace Go.Proofs.Ytcafckapdgaogaa.PAll
open Go.RowKit Go.Proofs.YtcafckapdgaogaaW.PrintWords Go.Proofs.YtcafckapdgaogaaW.PrintLast Go.Proofs.YtcafckapdgaogaaW.PrintMore
attribute [local go_sem] max2_int min2_int max_two min_two max_three min_three max_four min_four
set_option linter.unusedVariables false
set_option linter.unusedSimpArgs false

/-! ### impl_mayAct: function 66 -/
def impl_mayAct.f (k : Nat) (a0_0 : Int) (l0_1 : List Int) (l0_2 : List (List (S86))) (l1 : List Int) (a2_0 : Int) (a2_1 : Int) (a2_2 : Int) : Option (Bool) := (impl_isCrowd.f a0_0 a2_2).bind fun t348 => (if t348 = true then ((impl_mayChange.f k a0_0 l0_1 l0_2 l1 a2_0 a2_1 a2_2).bind fun t349 => (some t349)) else (some false))
/-! ### impl_FirstVoid: function 23 -/
mutual
def impl_FirstVoid.j0 : Nat → List Int → List (S53) → Bool → Int → List Int → List (List (S86)) → Option (Int)
 | 0, _, _, _, _, _, _ => none
 | k + 1, x1, x2, x18, x351000, x351001, x351002 => if x18 = true then (some (-1)) else ((some (([] : List Int) : List Int)).bind fun y352 => (if y352.length + x1.length < 17592186044416 then (impl_FirstVoid.l0 k (y352 ++ x1) x2 (x2.length : Int) 0 x351000 x351001 x351002) else (none)))
def impl_FirstVoid.l0 : Nat → List Int → List (S53) → Int → Int → Int → List Int → List (List (S86)) → Option (Int)
 | 0, _, _, _, _, _, _, _ => none
 | k + 1, x7, x22, x23, x24, x351000, x351001, x351002 => if x24 < x23 then (if 0 ≤ x24 then (if x24 < (x22.length : Int) then ((impl_mayAct.f k x351000 x351001 x351002 x7 ((rd_T53 x22 x24).f0) ((rd_T53 x22 x24).f1) ((rd_T53 x22 x24).f2)).bind fun t360 => (if t360 = true then (if 0 ≤ ((rd_T53 x22 x24).f0) then (if ((rd_T53 x22 x24).f0) < (x7.length : Int) then (impl_FirstVoid.l0 k (x7.set (((rd_T53 x22 x24).f0) : Int).toNat ((rd_T53 x22 x24).f1)) x22 x23 (wrap64 (x24 + 1)) x351000 x351001 x351002) else (none)) else (none)) else (some x24))) else (none)) else (none)) else (some (-1))
end
def impl_FirstVoid.f (k : Nat) (a0_0 : Int) (l0_1 : List Int) (l0_2 : List (List (S86))) (l1 : List Int) (l2 : List (S53)) : Option (Int) := (impl_isState.f k a0_0 l0_1 l0_2 l1).bind fun t351 => (if t351 = true then (impl_FirstVoid.j0 k l1 l2 (decide ((l2.length : Int) > 12)) a0_0 l0_1 l0_2) else (impl_FirstVoid.j0 k l1 l2 true a0_0 l0_1 l0_2))
/-! ### laws_eqIntS: function 25 -/
def laws_eqIntS.l0 : Nat → List Int → List Int → Int → Option (Bool)
 | 0, _, _, _ => none
 | k + 1, x0, x1, x5 => if x5 < (x0.length : Int) then (if 0 ≤ x5 then (if x5 < (x1.length : Int) then (if (rd x0 x5) = (rd x1 x5) then (laws_eqIntS.l0 k x0 x1 (wrap64 (x5 + 1))) else (some false)) else (none)) else (none)) else (some true)
def laws_eqIntS.f (k : Nat) (l0 : List Int) (l1 : List Int) : Option (Bool) := if (l0.length : Int) = (l1.length : Int) then (laws_eqIntS.l0 k l0 l1 0) else (some false)
set_option maxHeartbeats 8000000 in
set_option maxRecDepth 100000 in
theorem laws_eqIntS.calls (k : Nat) (A0 : Option Addr) (c0 : Nat) (l0 : List Int) (A1 : Option Addr) (c1 : Nat) (l1 : List Int) (r : Bool) (w : World) (hr0 : Kd.C (Kd.int .i64) w A0 l0.length l0) (hc0 : l0.length ≤ c0) (hr1 : Kd.C (Kd.int .i64) w A1 l1.length l1) (hc1 : l1.length ≤ c1) (h : laws_eqIntS.f k l0 l1 = some r) :
  Calls Try.prog 25 #[.slice A0 l0.length c0, .slice A1 l1.length c1] w fun e w' => e = .returned (.bool r) ∧ Drawn0 w w' := by
 have HR0 := Aside0.mk hr0
 have HC0 := Aside0.mk hc0
 clear hr0 hc0
 have HR1 := Aside0.mk hr1
 have HC1 := Aside0.mk hc1
 clear hr1 hc1
 have H := h
 clear h
 unfold laws_eqIntS.f at H
 by_cases c3 : (l0.length : Int) = (l1.length : Int)
 ·rw [if_pos c3] at H
  have c3b0 : ((l0.length : Int) == (l1.length : Int)) = true := beq_iff_eq.mpr c3
  have c3b1 : ((l0.length : Int) != (l1.length : Int)) = false := bne_eq_false_iff_eq.mpr c3
  have c3b2 : (l0.length == l1.length) = true := by (simp at c3 ⊢; omega)
  clear c3
  have H' := Aside0.mk H
  clear H
  go_enter Try.func25, Try.ntmps25
  go_wp2
  go_loopg [5] k (fun kq v5 w' => ∃ (x5_1 : Int), v5 = .int .i64 x5_1 ∧ Aside0 (laws_eqIntS.l0 kq l0 l1 x5_1 = some r) ∧ Aside0 (kq ≤ k) ∧ Drawn0 w w')
  case atStart => exact ⟨(0), (by rfl), H', ⟨Nat.le_refl _⟩, by repeat (exact Drawn0.refl _)⟩
  case round =>
   clear H'
   try clear c3b0
   try clear c3b1
   try clear c3b2
   obtain ⟨x5_1, rfl, HA, HK1, ⟨m1, rfl⟩⟩ := hrel
   cases gk with
   | zero => exact absurd HA.out (by simp [laws_eqIntS.l0])
   | succ k1 =>
    have H := HA.out
    clear HA
    simp only [laws_eqIntS.l0] at H
    by_cases c4 : x5_1 < (l0.length : Int)
    ·rw [if_pos c4] at H
     have c4b0 : decide (x5_1 < (l0.length : Int)) = true := decide_eq_true c4
     clear c4
     obtain ⟨c5, H⟩ := Z.ifp H
     have c5b0 : decide (0 ≤ x5_1) = true := decide_eq_true c5
     clear c5
     obtain ⟨c6, H⟩ := Z.ifp H
     have c6b0 : decide (x5_1 < (l1.length : Int)) = true := decide_eq_true c6
     clear c6
     by_cases c7 : (rd l0 x5_1) = (rd l1 x5_1)
     ·rw [if_pos c7] at H
      have c7b0 : ((rd l0 x5_1) == (rd l1 x5_1)) = true := beq_iff_eq.mpr c7
      have c7b1 : ((rd l0 x5_1) != (rd l1 x5_1)) = false := bne_eq_false_iff_eq.mpr c7
      clear c7
      have H' := Aside0.mk H
      clear H
      have p362 : 0 ≤ (x5_1 : Int) := Z.od
      have q362 : x5_1 < (l0.length : Int) := Z.od
      obtain ⟨ad362, rfl, hx362_0⟩ := Kd.at_int HR0.out x5_1 p362 q362
      replace p362 := eq_true p362
      replace q362 := eq_true q362
      have p363 : 0 ≤ (x5_1 : Int) := Z.od
      have q363 : x5_1 < (l1.length : Int) := Z.od
      obtain ⟨ad363, rfl, hx363_0⟩ := Kd.at_int HR1.out x5_1 p363 q363
      replace p363 := eq_true p363
      replace q363 := eq_true q363
      go_wp2
      repeat (go_quiet (fail); try go_wp2)
      go_roundg k1
      case measure => have := HK1.out; omega
      case rel => exact ⟨(wrap64 (x5_1 + 1)), (by rfl), H', ⟨by have := HK1.out; omega⟩, by repeat (first | exact Drawn0.refl _ | apply Drawn0.step)⟩
     ·rw [if_neg c7] at H
      have c7b0 : ((rd l0 x5_1) == (rd l1 x5_1)) = false := beq_eq_false_iff_ne.mpr c7
      have c7b1 : ((rd l0 x5_1) != (rd l1 x5_1)) = true := bne_iff_ne.mpr c7
      obtain rfl := Option.some.inj H
      have p362 : 0 ≤ (x5_1 : Int) := Z.od
      have q362 : x5_1 < (l0.length : Int) := Z.od
      obtain ⟨ad362, rfl, hx362_0⟩ := Kd.at_int HR0.out x5_1 p362 q362
      replace p362 := eq_true p362
      replace q362 := eq_true q362
      have p363 : 0 ≤ (x5_1 : Int) := Z.od
      have q363 : x5_1 < (l1.length : Int) := Z.od
      obtain ⟨ad363, rfl, hx363_0⟩ := Kd.at_int HR1.out x5_1 p363 q363
      replace p363 := eq_true p363
      replace q363 := eq_true q363
      go_wp2
      repeat (go_quiet (fail); try go_wp2)
      go_ret
      exact ⟨by rfl, by repeat (first | exact Drawn0.refl _ | apply Drawn0.step)⟩
    ·rw [if_neg c4] at H
     have c4b0 : decide (x5_1 < (l0.length : Int)) = false := decide_eq_false c4
     clear c4
     obtain rfl := Option.some.inj H
     go_wp2
     go_ret
     exact ⟨by rfl, by repeat (first | exact Drawn0.refl _ | apply Drawn0.step)⟩
 ·rw [if_neg c3] at H
  have c3b0 : ((l0.length : Int) == (l1.length : Int)) = false := beq_eq_false_iff_ne.mpr c3
  have c3b1 : ((l0.length : Int) != (l1.length : Int)) = true := bne_iff_ne.mpr c3
  have c3b2 : (l0.length == l1.length) = false := by (simp at c3 ⊢; omega)
  obtain rfl := Option.some.inj H
  go_enter Try.func25, Try.ntmps25
  go_wp2
  go_ret
  exact ⟨by rfl, by repeat (exact Drawn0.refl _)⟩

/-! ### laws_eqHouse: function 67 -/
def laws_eqHouse.f (k : Nat) (a0_0 : Int) (l0_1 : List Int) (a1_0 : Int) (l1_1 : List Int) : Option (Bool) := if a0_0 = a1_0 then ((laws_eqIntS.f k l0_1 l1_1).bind fun t366 => (if t366 = true then (some true) else (some false))) else (some false)
set_option maxHeartbeats 8000000 in
set_option maxRecDepth 100000 in
theorem laws_eqHouse.calls (k : Nat) (a0_0 : Int) (A0_1 : Option Addr) (c0_1 : Nat) (l0_1 : List Int) (a1_0 : Int) (A1_1 : Option Addr) (c1_1 : Nat) (l1_1 : List Int) (r : Bool) (w : World) (hr0_1 : Kd.C (Kd.int .i64) w A0_1 l0_1.length l0_1) (hc0_1 : l0_1.length ≤ c0_1) (hr1_1 : Kd.C (Kd.int .i64) w A1_1 l1_1.length l1_1) (hc1_1 : l1_1.length ≤ c1_1) (h : laws_eqHouse.f k a0_0 l0_1 a1_0 l1_1 = some r) :
  Calls Try.prog 67 #[.agg #[.int .i64 a0_0, .slice A0_1 l0_1.length c0_1], .agg #[.int .i64 a1_0, .slice A1_1 l1_1.length c1_1]] w fun e w' => e = .returned (.bool r) ∧ Below w.heap.size w w' := by
 have hu32 := Try.underlying32
 have HR0_1 := Aside0.mk hr0_1
 have HC0_1 := Aside0.mk hc0_1
 clear hr0_1 hc0_1
 have HR1_1 := Aside0.mk hr1_1
 have HC1_1 := Aside0.mk hc1_1
 clear hr1_1 hc1_1
 have HB := Aside0.mk (Below.refl w.heap.size w)
 have H := h
 clear h
 unfold laws_eqHouse.f at H
 by_cases c3 : a0_0 = a1_0
 ·rw [if_pos c3] at H
  have c3b0 : (a0_0 == a1_0) = true := beq_iff_eq.mpr c3
  have c3b1 : (a0_0 != a1_0) = false := bne_eq_false_iff_eq.mpr c3
  clear c3
  replace H := Option.bind_eq_some_iff.mp H
  obtain ⟨t366, A40, H⟩ := H
  have A4 := Aside0.mk A40
  clear A40
  by_cases c5 : t366 = true
  ·subst c5
   rw [if_pos rfl] at H
   obtain rfl := Option.some.inj H
   go_enter Try.func67, Try.ntmps67
   go_wp2_with (first | ((with_reducible refine gate_dst (N := 2) rfl ?_); refine Z.bx #[.int .i64 a0_0, .slice A0_1 l0_1.length c0_1] 32 HB ?_; clear HB; intro gb364 w6 BK364 GE364 HB hg hb; have GW364 := GE364; clear hb hg) | ((with_reducible refine gate_dst (N := 3) rfl ?_); refine Z.bz #[.int .i64 a1_0, .slice A1_1 l1_1.length c1_1] 32 HB GE364 ?_; clear HB; intro gb365 w7 BK365 GE365 HB hg hb; have GW365 := GE365; have NB364_365 := Z.nl hg BK364; have NB365_364 := Z.ng hg BK364; replace BK364 := Z.bb BK364 hb; clear hb hg; have hnb8 := NB364_365.out; have hnc8 := NB365_364.out; have hcz9 := Z.c2 BK364.out; have hcz10 := Z.c2 BK365.out) | ((with_reducible refine gate_callee (f := 25) rfl ?_); refine goesL_ (some 14) rfl rfl Try.func25 (by kernel_rfl) rfl #[.slice A0_1 l0_1.length c0_1, .slice A1_1 l1_1.length c1_1] rfl Z.ar ?_; (with_reducible refine (laws_eqIntS.calls k _ _ l0_1 _ _ l1_1 true _ ?q1 ?q2 ?q3 ?q4 A4.out).mono ?_); (case q1 => exact Z.cc HR0_1 HB); (case q2 => exact HC0_1.out); (case q3 => exact Z.cc HR1_1 HB); (case q4 => exact HC1_1.out); rintro e w' ⟨rfl, ⟨nd, rfl⟩⟩; refine ⟨_, rfl, ?_⟩))
   go_ret
   exact ⟨by rfl, by repeat ((with_reducible first | exact HB.out | apply pw_below_drewN))⟩
  ·replace c5 := Bool.eq_false_iff.mpr c5
   subst c5
   rw [if_neg (show ¬ (false = true) by decide)] at H
   obtain rfl := Option.some.inj H
   go_enter Try.func67, Try.ntmps67
   go_wp2_with (first | ((with_reducible refine gate_dst (N := 2) rfl ?_); refine Z.bx #[.int .i64 a0_0, .slice A0_1 l0_1.length c0_1] 32 HB ?_; clear HB; intro gb364 w11 BK364 GE364 HB hg hb; have GW364 := GE364; clear hb hg) | ((with_reducible refine gate_dst (N := 3) rfl ?_); refine Z.bz #[.int .i64 a1_0, .slice A1_1 l1_1.length c1_1] 32 HB GE364 ?_; clear HB; intro gb365 w12 BK365 GE365 HB hg hb; have GW365 := GE365; have NB364_365 := Z.nl hg BK364; have NB365_364 := Z.ng hg BK364; replace BK364 := Z.bb BK364 hb; clear hb hg; have hnb13 := NB364_365.out; have hnc13 := NB365_364.out; have hcz14 := Z.c2 BK364.out; have hcz15 := Z.c2 BK365.out) | ((with_reducible refine gate_callee (f := 25) rfl ?_); refine goesL_ (some 14) rfl rfl Try.func25 (by kernel_rfl) rfl #[.slice A0_1 l0_1.length c0_1, .slice A1_1 l1_1.length c1_1] rfl Z.ar ?_; (with_reducible refine (laws_eqIntS.calls k _ _ l0_1 _ _ l1_1 false _ ?q1 ?q2 ?q3 ?q4 A4.out).mono ?_); (case q1 => exact Z.cc HR0_1 HB); (case q2 => exact HC0_1.out); (case q3 => exact Z.cc HR1_1 HB); (case q4 => exact HC1_1.out); rintro e w' ⟨rfl, ⟨nd, rfl⟩⟩; refine ⟨_, rfl, ?_⟩))
   go_ret
   exact ⟨by rfl, by repeat ((with_reducible first | exact HB.out | apply pw_below_drewN))⟩
 ·rw [if_neg c3] at H
  have c3b0 : (a0_0 == a1_0) = false := beq_eq_false_iff_ne.mpr c3
  have c3b1 : (a0_0 != a1_0) = true := bne_iff_ne.mpr c3
  obtain rfl := Option.some.inj H
  go_enter Try.func67, Try.ntmps67
  go_wp2_with (first | ((with_reducible refine gate_dst (N := 2) rfl ?_); refine Z.bx #[.int .i64 a0_0, .slice A0_1 l0_1.length c0_1] 32 HB ?_; clear HB; intro gb364 w16 BK364 GE364 HB hg hb; have GW364 := GE364; clear hb hg) | ((with_reducible refine gate_dst (N := 3) rfl ?_); refine Z.bz #[.int .i64 a1_0, .slice A1_1 l1_1.length c1_1] 32 HB GE364 ?_; clear HB; intro gb365 w17 BK365 GE365 HB hg hb; have GW365 := GE365; have NB364_365 := Z.nl hg BK364; have NB365_364 := Z.ng hg BK364; replace BK364 := Z.bb BK364 hb; clear hb hg; have hnb18 := NB364_365.out; have hnc18 := NB365_364.out; have hcz19 := Z.c2 BK364.out; have hcz20 := Z.c2 BK365.out))
  go_ret
  exact ⟨by rfl, by repeat ((with_reducible exact HB.out))⟩

/-! ### laws_eqMark: function 162 -/
def laws_eqMark.f (a0_0 : Int) (a0_1 : Int) (a0_2 : Int) (a1_0 : Int) (a1_1 : Int) (a1_2 : Int) : Option (Bool) := if a0_0 = a1_0 then (if a0_1 = a1_1 then (if a0_2 = a1_2 then (some true) else (some false)) else (some false)) else (some false)
set_option maxHeartbeats 8000000 in
set_option maxRecDepth 100000 in
theorem laws_eqMark.calls (a0_0 : Int) (a0_1 : Int) (a0_2 : Int) (a1_0 : Int) (a1_1 : Int) (a1_2 : Int) (r : Bool) (w : World) (h : laws_eqMark.f a0_0 a0_1 a0_2 a1_0 a1_1 a1_2 = some r) :
  Calls Try.prog 162 #[.agg #[.int .i64 a0_0, .int .i64 a0_1, .int .i64 a0_2], .agg #[.int .i64 a1_0, .int .i64 a1_1, .int .i64 a1_2]] w fun e w' => e = .returned (.bool r) ∧ Below w.heap.size w w' := by
 have hu134 := Try.underlying134
 have HB := Aside0.mk (Below.refl w.heap.size w)
 have H := h
 clear h
 unfold laws_eqMark.f at H
 by_cases c3 : a0_0 = a1_0
 ·rw [if_pos c3] at H
  have c3b0 : (a0_0 == a1_0) = true := beq_iff_eq.mpr c3
  have c3b1 : (a0_0 != a1_0) = false := bne_eq_false_iff_eq.mpr c3
  clear c3
  by_cases c4 : a0_1 = a1_1
  ·rw [if_pos c4] at H
   have c4b0 : (a0_1 == a1_1) = true := beq_iff_eq.mpr c4
   have c4b1 : (a0_1 != a1_1) = false := bne_eq_false_iff_eq.mpr c4
   clear c4
   by_cases c5 : a0_2 = a1_2
   ·rw [if_pos c5] at H
    have c5b0 : (a0_2 == a1_2) = true := beq_iff_eq.mpr c5
    have c5b1 : (a0_2 != a1_2) = false := bne_eq_false_iff_eq.mpr c5
    clear c5
    obtain rfl := Option.some.inj H
    go_enter Try.func162, Try.ntmps162
    go_wp2_with (first | ((with_reducible refine gate_dst (N := 2) rfl ?_); refine Z.bx #[.int .i64 a0_0, .int .i64 a0_1, .int .i64 a0_2] 134 HB ?_; clear HB; intro gb367 w6 BK367 GE367 HB hg hb; have GW367 := GE367; clear hb hg) | ((with_reducible refine gate_dst (N := 3) rfl ?_); refine Z.bz #[.int .i64 a1_0, .int .i64 a1_1, .int .i64 a1_2] 134 HB GE367 ?_; clear HB; intro gb368 w7 BK368 GE368 HB hg hb; have GW368 := GE368; have NB367_368 := Z.nl hg BK367; have NB368_367 := Z.ng hg BK367; replace BK367 := Z.bb BK367 hb; clear hb hg; have hnb8 := NB367_368.out; have hnc8 := NB368_367.out; have hcz9 := Z.c3 BK367.out; have hcz10 := Z.c3 BK368.out))
    go_ret
    exact ⟨by rfl, by repeat ((with_reducible exact HB.out))⟩
   ·rw [if_neg c5] at H
    have c5b0 : (a0_2 == a1_2) = false := beq_eq_false_iff_ne.mpr c5
    have c5b1 : (a0_2 != a1_2) = true := bne_iff_ne.mpr c5
    obtain rfl := Option.some.inj H
    go_enter Try.func162, Try.ntmps162
    go_wp2_with (first | ((with_reducible refine gate_dst (N := 2) rfl ?_); refine Z.bx #[.int .i64 a0_0, .int .i64 a0_1, .int .i64 a0_2] 134 HB ?_; clear HB; intro gb367 w11 BK367 GE367 HB hg hb; have GW367 := GE367; clear hb hg) | ((with_reducible refine gate_dst (N := 3) rfl ?_); refine Z.bz #[.int .i64 a1_0, .int .i64 a1_1, .int .i64 a1_2] 134 HB GE367 ?_; clear HB; intro gb368 w12 BK368 GE368 HB hg hb; have GW368 := GE368; have NB367_368 := Z.nl hg BK367; have NB368_367 := Z.ng hg BK367; replace BK367 := Z.bb BK367 hb; clear hb hg; have hnb13 := NB367_368.out; have hnc13 := NB368_367.out; have hcz14 := Z.c3 BK367.out; have hcz15 := Z.c3 BK368.out))
    go_ret
    exact ⟨by rfl, by repeat ((with_reducible exact HB.out))⟩
  ·rw [if_neg c4] at H
   have c4b0 : (a0_1 == a1_1) = false := beq_eq_false_iff_ne.mpr c4
   have c4b1 : (a0_1 != a1_1) = true := bne_iff_ne.mpr c4
   obtain rfl := Option.some.inj H
   go_enter Try.func162, Try.ntmps162
   go_wp2_with (first | ((with_reducible refine gate_dst (N := 2) rfl ?_); refine Z.bx #[.int .i64 a0_0, .int .i64 a0_1, .int .i64 a0_2] 134 HB ?_; clear HB; intro gb367 w16 BK367 GE367 HB hg hb; have GW367 := GE367; clear hb hg) | ((with_reducible refine gate_dst (N := 3) rfl ?_); refine Z.bz #[.int .i64 a1_0, .int .i64 a1_1, .int .i64 a1_2] 134 HB GE367 ?_; clear HB; intro gb368 w17 BK368 GE368 HB hg hb; have GW368 := GE368; have NB367_368 := Z.nl hg BK367; have NB368_367 := Z.ng hg BK367; replace BK367 := Z.bb BK367 hb; clear hb hg; have hnb18 := NB367_368.out; have hnc18 := NB368_367.out; have hcz19 := Z.c3 BK367.out; have hcz20 := Z.c3 BK368.out))
   go_ret
   exact ⟨by rfl, by repeat ((with_reducible exact HB.out))⟩
 ·rw [if_neg c3] at H
  have c3b0 : (a0_0 == a1_0) = false := beq_eq_false_iff_ne.mpr c3
  have c3b1 : (a0_0 != a1_0) = true := bne_iff_ne.mpr c3
  obtain rfl := Option.some.inj H
  go_enter Try.func162, Try.ntmps162
  go_wp2_with (first | ((with_reducible refine gate_dst (N := 2) rfl ?_); refine Z.bx #[.int .i64 a0_0, .int .i64 a0_1, .int .i64 a0_2] 134 HB ?_; clear HB; intro gb367 w21 BK367 GE367 HB hg hb; have GW367 := GE367; clear hb hg) | ((with_reducible refine gate_dst (N := 3) rfl ?_); refine Z.bz #[.int .i64 a1_0, .int .i64 a1_1, .int .i64 a1_2] 134 HB GE367 ?_; clear HB; intro gb368 w22 BK368 GE368 HB hg hb; have GW368 := GE368; have NB367_368 := Z.nl hg BK367; have NB368_367 := Z.ng hg BK367; replace BK367 := Z.bb BK367 hb; clear hb hg; have hnb23 := NB367_368.out; have hnc23 := NB368_367.out; have hcz24 := Z.c3 BK367.out; have hcz25 := Z.c3 BK368.out))
  go_ret
  exact ⟨by rfl, by repeat ((with_reducible exact HB.out))⟩

end Go.Proofs.Ytcafckapdgaogaa.PAll

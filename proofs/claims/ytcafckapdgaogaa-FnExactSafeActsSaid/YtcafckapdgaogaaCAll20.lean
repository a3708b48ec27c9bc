/- Walks of functions that All reaches, in the form of the print. -/
-- PRINTED
import Derived.Test.YtcafckapdgaogaaCAll0
import Derived.Test.YtcafckapdgaogaaCAll19
import Derived.Test.YtcafckapdgaogaaZ
namespace Go.Proofs.Ytcafckapdgaogaa.PAll
open Go.RowKit Go.Proofs.YtcafckapdgaogaaW.PrintWords Go.Proofs.YtcafckapdgaogaaW.PrintLast Go.Proofs.YtcafckapdgaogaaW.PrintMore
attribute [local go_sem] max2_int min2_int max_two min_two max_three min_three max_four min_four
set_option linter.unusedVariables false
set_option linter.unusedSimpArgs false

/-! ### laws_eqActS: function 26 -/
def laws_eqActS.l0 : Nat → List (S53) → List (S53) → Int → Option (Bool)
 | 0, _, _, _ => none
 | k + 1, x0, x1, x5 => if x5 < (x0.length : Int) then (if 0 ≤ x5 then (if x5 < (x1.length : Int) then ((laws_eqAct.f ((rd_T53 x0 x5).f0) ((rd_T53 x0 x5).f1) ((rd_T53 x0 x5).f2) ((rd_T53 x1 x5).f0) ((rd_T53 x1 x5).f1) ((rd_T53 x1 x5).f2)).bind fun t389 => (if t389 = true then (laws_eqActS.l0 k x0 x1 (wrap64 (x5 + 1))) else (some false))) else (none)) else (none)) else (some true)
def laws_eqActS.f (k : Nat) (l0 : List (S53)) (l1 : List (S53)) : Option (Bool) := if (l0.length : Int) = (l1.length : Int) then (laws_eqActS.l0 k l0 l1 0) else (some false)
def laws_eqActS.T6 : Bool × List (List Nat × List Nat) := (true, [([], []), ([], []), ([0, 1], [0, 1]), ([2], [2]), ([], []), ([], []), ([4, 5], [4, 5]), ([6], [6]), ([3, 7], [3, 7]), ([8], [8])])
def laws_eqActS.B6 : List Nat := [0, 0, 3, 7, 0, 0, 48, 112, 255, 511]
theorem laws_eqActS.tab6 : rtab .any (opsOf Try.f26 6) = laws_eqActS.T6 := by kernel_rfl
theorem laws_eqActS.bits6 : waitsOk laws_eqActS.T6.2 laws_eqActS.B6 = true := by kernel_rfl
set_option maxHeartbeats 8000000 in
set_option maxRecDepth 100000 in
theorem laws_eqActS.calls (k : Nat) (A0 : Option Addr) (c0 : Nat) (l0 : List (S53)) (A1 : Option Addr) (c1 : Nat) (l1 : List (S53)) (r : Bool) (w : World) (hr0 : Kd.C k53 w A0 l0.length l0) (hc0 : l0.length ≤ c0) (hr1 : Kd.C k53 w A1 l1.length l1) (hc1 : l1.length ≤ c1) (h : laws_eqActS.f k l0 l1 = some r) :
  Calls Try.prog 26 #[.slice A0 l0.length c0, .slice A1 l1.length c1] w fun e w' => e = .returned (.bool r) ∧ Below w.heap.size w w' := by
 have hu53 := Try.underlying53
 have HR0 := Aside0.mk hr0
 have HC0 := Aside0.mk hc0
 clear hr0 hc0
 have HR1 := Aside0.mk hr1
 have HC1 := Aside0.mk hc1
 clear hr1 hc1
 have HB := Aside0.mk (Below.refl w.heap.size w)
 have H := h
 clear h
 unfold laws_eqActS.f at H
 by_cases c3 : (l0.length : Int) = (l1.length : Int)
 ·rw [if_pos c3] at H
  have c3b0 : ((l0.length : Int) == (l1.length : Int)) = true := beq_iff_eq.mpr c3
  have c3b1 : ((l0.length : Int) != (l1.length : Int)) = false := bne_eq_false_iff_eq.mpr c3
  have c3b2 : (l0.length == l1.length) = true := by first | simpa using c3 | (simp at c3 ⊢; omega)
  clear c3
  have H' := Aside0.mk H
  clear H
  go_enter Try.func26, Try.ntmps26
  go_wp2
  go_loopg [5] k (fun kq v5 w' => ∃ (x5_1 : Int), v5 = .int .i64 x5_1 ∧ Aside0 (laws_eqActS.l0 kq l0 l1 x5_1 = some r) ∧ Aside0 (kq ≤ k) ∧ Aside0 (Below w.heap.size w w'))
  case atStart => exact ⟨(0), (by first | rfl | (simp; done) | (simp [*]; done)), H', ⟨Nat.le_refl _⟩, ⟨Z.bl HB.out⟩⟩
  case round =>
   clear H'
   try clear c1
   try clear c2
   try clear p2
   try clear c3
   try clear c3b0
   try clear c3b1
   try clear c3b2
   obtain ⟨x5_1, rfl, HA, HK1, HB⟩ := hrel
   cases gk with
   | zero => exact absurd HA.out (by simp [laws_eqActS.l0])
   | succ k1 =>
    have H := HA.out
    clear HA
    simp only [laws_eqActS.l0] at H
    by_cases c4 : x5_1 < (l0.length : Int)
    ·rw [if_pos c4] at H
     have c4b0 := decide_eq_true c4
     clear c4
     obtain ⟨c5, H⟩ := Z.ifp H
     have c5b0 : decide (0 ≤ x5_1) = true := decide_eq_true c5
     clear c5
     obtain ⟨c6, H⟩ := Z.ifp H
     have c6b0 : decide (x5_1 < (l1.length : Int)) = true := decide_eq_true c6
     clear c6
     replace H := Option.bind_eq_some_iff.mp H
     obtain ⟨t389, A70, H⟩ := H
     try dsimp only at H
     have A7 := Aside0.mk A70
     clear A70
     by_cases c8 : t389 = true
     ·subst c8
      rw [if_pos rfl] at H
      have H' := Aside0.mk H
      clear H
      try go_wp2
      replace HB := Aside0.mk (below_drew1 HB.out)
      have p387 : 0 ≤ (x5_1 : Int) := Z.od
      have q387 : x5_1 < (l0.length : Int) := Z.od
      obtain ⟨ad387, rfl, hx387_0, hx387_1, hx387_2⟩ := at_T53 HR0.out x5_1 p387 q387
      have hw387_2 := hx387_2
      have hw387_1 := hx387_1
      have hw387_0 := hx387_0
      replace hx387_0 := Z.up HB.out hx387_0
      replace hx387_1 := Z.up HB.out hx387_1
      replace hx387_2 := Z.up HB.out hx387_2
      replace p387 := eq_true p387
      replace q387 := eq_true q387
      have p388 : 0 ≤ (x5_1 : Int) := Z.od
      have q388 : x5_1 < (l1.length : Int) := Z.od
      obtain ⟨ad388, rfl, hx388_0, hx388_1, hx388_2⟩ := at_T53 HR1.out x5_1 p388 q388
      have hw388_2 := hx388_2
      have hw388_1 := hx388_1
      have hw388_0 := hx388_0
      replace hx388_0 := Z.up HB.out hx388_0
      replace hx388_1 := Z.up HB.out hx388_1
      replace hx388_2 := Z.up HB.out hx388_2
      replace p388 := eq_true p388
      replace q388 := eq_true q388
      refine start_ (n := 10) (S := fun w' => w'.cell? (ad387.add ((x5_1).toNat * 3)) = some (.int .i64 ((rd_T53 l0 x5_1).f0)) ∧ w'.cell? ⟨(ad387.add ((x5_1).toNat * 3)).block, (ad387.add ((x5_1).toNat * 3)).off + 1, none⟩ = some (.int .i64 ((rd_T53 l0 x5_1).f1)) ∧ w'.cell? ⟨(ad387.add ((x5_1).toNat * 3)).block, (ad387.add ((x5_1).toNat * 3)).off + 2, none⟩ = some (.int .i64 ((rd_T53 l0 x5_1).f2)) ∧ w'.cell? (ad388.add ((x5_1).toNat * 3)) = some (.int .i64 ((rd_T53 l1 x5_1).f0)) ∧ w'.cell? ⟨(ad388.add ((x5_1).toNat * 3)).block, (ad388.add ((x5_1).toNat * 3)).off + 1, none⟩ = some (.int .i64 ((rd_T53 l1 x5_1).f1)) ∧ w'.cell? ⟨(ad388.add ((x5_1).toNat * 3)).block, (ad388.add ((x5_1).toNat * 3)).off + 2, none⟩ = some (.int .i64 ((rd_T53 l1 x5_1).f2))) (ds := []) #[false, false, false, false, false, false, false, false, false, false] (by kernel_rfl) rfl rfl ⟨(Z.up HB.out hw387_0 :), (Z.up HB.out hw387_1 :), (Z.up HB.out hw387_2 :), (Z.up HB.out hw388_0 :), (Z.up HB.out hw388_1 :), (Z.up HB.out hw388_2 :)⟩ (fun hHeld => ?_); refine with_tabW laws_eqActS.tab6 laws_eqActS.bits6 (fun HT_ HW_ => ?_)
      generalize wr.drew = w9 at HB hx387_0 hx387_1 hx387_2 hx388_0 hx388_1 hx388_2 hHeld ⊢
      refine Z.pv 0 17 10 1 HT_.out ?_
      refine Z.pv 1 18 10 3 HT_.out ?_
      refine Z.pv 2 19 10 7 HT_.out ?_
      refine Z.pv 4 21 10 23 HT_.out ?_
      refine Z.pv 5 22 10 55 HT_.out ?_
      refine Z.pv 6 23 10 119 HT_.out ?_
      refine Z.t6 3 20 10 127 HT_.out HW_.out hHeld ?_
      refine Z.t6 7 24 10 255 HT_.out HW_.out hHeld ?_
      refine one_ (i := 8) (N := some 25) (Z.mb 10 511) rfl rfl (one_of HT_.out (by kernel_rfl)) (by decide) (fun K hK => ?_)
      refine goes_ Try.func69 (by kernel_rfl) rfl #[.agg #[.int .i64 ((rd_T53 l0 x5_1).f0), .int .i64 ((rd_T53 l0 x5_1).f1), .int .i64 ((rd_T53 l0 x5_1).f2)], .agg #[.int .i64 ((rd_T53 l1 x5_1).f0), .int .i64 ((rd_T53 l1 x5_1).f1), .int .i64 ((rd_T53 l1 x5_1).f2)]] (by rfl) rfl rfl Z.ar ?_
      with_reducible refine (laws_eqAct.calls ((rd_T53 l0 x5_1).f0) ((rd_T53 l0 x5_1).f1) ((rd_T53 l0 x5_1).f2) ((rd_T53 l1 x5_1).f0) ((rd_T53 l1 x5_1).f1) ((rd_T53 l1 x5_1).f2) true _ A7.out).mono ?_
      rintro e w10 ⟨rfl, hb⟩
      refine ⟨_, rfl, ?_⟩
      replace HB := Z.st (Z.bl HB.out) hb
      (try clear hb)
      (try clear hb2)
      (try clear hk)
      (try clear hi)
      refine hK.out _ _ ⟨(Z.up HB.out hw387_0 :), (Z.up HB.out hw387_1 :), (Z.up HB.out hw387_2 :), (Z.up HB.out hw388_0 :), (Z.up HB.out hw388_1 :), (Z.up HB.out hw388_2 :)⟩ (fun hHeld => ?_)
      clear hK K
      refine Z.nm ?_
      refine Z.pv 9 26 10 1023 HT_.out ?_
      refine done_ (done_of HT_.out (by kernel_rfl)) ?_
      try go_wp2
      go_roundg k1
      case measure => have := HK1.out; omega
      case rel => exact ⟨(wrap64 (x5_1 + 1)), (by first | rfl | (simp; done) | (simp [*]; done)), H', ⟨by have := HK1.out; omega⟩, ⟨Z.bl HB.out⟩⟩
     ·replace c8 := Bool.eq_false_iff.mpr c8
      subst c8
      rw [if_neg (show ¬ (false = true) by decide)] at H
      obtain rfl := Option.some.inj H
      try go_wp2
      replace HB := Aside0.mk (below_drew1 HB.out)
      have p387 : 0 ≤ (x5_1 : Int) := Z.od
      have q387 : x5_1 < (l0.length : Int) := Z.od
      obtain ⟨ad387, rfl, hx387_0, hx387_1, hx387_2⟩ := at_T53 HR0.out x5_1 p387 q387
      have hw387_2 := hx387_2
      have hw387_1 := hx387_1
      have hw387_0 := hx387_0
      replace hx387_0 := Z.up HB.out hx387_0
      replace hx387_1 := Z.up HB.out hx387_1
      replace hx387_2 := Z.up HB.out hx387_2
      replace p387 := eq_true p387
      replace q387 := eq_true q387
      have p388 : 0 ≤ (x5_1 : Int) := Z.od
      have q388 : x5_1 < (l1.length : Int) := Z.od
      obtain ⟨ad388, rfl, hx388_0, hx388_1, hx388_2⟩ := at_T53 HR1.out x5_1 p388 q388
      have hw388_2 := hx388_2
      have hw388_1 := hx388_1
      have hw388_0 := hx388_0
      replace hx388_0 := Z.up HB.out hx388_0
      replace hx388_1 := Z.up HB.out hx388_1
      replace hx388_2 := Z.up HB.out hx388_2
      replace p388 := eq_true p388
      replace q388 := eq_true q388
      refine start_ (n := 10) (S := fun w' => w'.cell? (ad387.add ((x5_1).toNat * 3)) = some (.int .i64 ((rd_T53 l0 x5_1).f0)) ∧ w'.cell? ⟨(ad387.add ((x5_1).toNat * 3)).block, (ad387.add ((x5_1).toNat * 3)).off + 1, none⟩ = some (.int .i64 ((rd_T53 l0 x5_1).f1)) ∧ w'.cell? ⟨(ad387.add ((x5_1).toNat * 3)).block, (ad387.add ((x5_1).toNat * 3)).off + 2, none⟩ = some (.int .i64 ((rd_T53 l0 x5_1).f2)) ∧ w'.cell? (ad388.add ((x5_1).toNat * 3)) = some (.int .i64 ((rd_T53 l1 x5_1).f0)) ∧ w'.cell? ⟨(ad388.add ((x5_1).toNat * 3)).block, (ad388.add ((x5_1).toNat * 3)).off + 1, none⟩ = some (.int .i64 ((rd_T53 l1 x5_1).f1)) ∧ w'.cell? ⟨(ad388.add ((x5_1).toNat * 3)).block, (ad388.add ((x5_1).toNat * 3)).off + 2, none⟩ = some (.int .i64 ((rd_T53 l1 x5_1).f2))) (ds := []) #[false, false, false, false, false, false, false, false, false, false] (by kernel_rfl) rfl rfl ⟨(Z.up HB.out hw387_0 :), (Z.up HB.out hw387_1 :), (Z.up HB.out hw387_2 :), (Z.up HB.out hw388_0 :), (Z.up HB.out hw388_1 :), (Z.up HB.out hw388_2 :)⟩ (fun hHeld => ?_); refine with_tabW laws_eqActS.tab6 laws_eqActS.bits6 (fun HT_ HW_ => ?_)
      generalize wr.drew = w11 at HB hx387_0 hx387_1 hx387_2 hx388_0 hx388_1 hx388_2 hHeld ⊢
      refine Z.pv 0 17 10 1 HT_.out ?_
      refine Z.pv 1 18 10 3 HT_.out ?_
      refine Z.pv 2 19 10 7 HT_.out ?_
      refine Z.pv 4 21 10 23 HT_.out ?_
      refine Z.pv 5 22 10 55 HT_.out ?_
      refine Z.pv 6 23 10 119 HT_.out ?_
      refine Z.t6 3 20 10 127 HT_.out HW_.out hHeld ?_
      refine Z.t6 7 24 10 255 HT_.out HW_.out hHeld ?_
      refine one_ (i := 8) (N := some 25) (Z.mb 10 511) rfl rfl (one_of HT_.out (by kernel_rfl)) (by decide) (fun K hK => ?_)
      refine goes_ Try.func69 (by kernel_rfl) rfl #[.agg #[.int .i64 ((rd_T53 l0 x5_1).f0), .int .i64 ((rd_T53 l0 x5_1).f1), .int .i64 ((rd_T53 l0 x5_1).f2)], .agg #[.int .i64 ((rd_T53 l1 x5_1).f0), .int .i64 ((rd_T53 l1 x5_1).f1), .int .i64 ((rd_T53 l1 x5_1).f2)]] (by rfl) rfl rfl Z.ar ?_
      with_reducible refine (laws_eqAct.calls ((rd_T53 l0 x5_1).f0) ((rd_T53 l0 x5_1).f1) ((rd_T53 l0 x5_1).f2) ((rd_T53 l1 x5_1).f0) ((rd_T53 l1 x5_1).f1) ((rd_T53 l1 x5_1).f2) false _ A7.out).mono ?_
      rintro e w12 ⟨rfl, hb⟩
      refine ⟨_, rfl, ?_⟩
      replace HB := Z.st (Z.bl HB.out) hb
      (try clear hb)
      (try clear hb2)
      (try clear hk)
      (try clear hi)
      refine hK.out _ _ ⟨(Z.up HB.out hw387_0 :), (Z.up HB.out hw387_1 :), (Z.up HB.out hw387_2 :), (Z.up HB.out hw388_0 :), (Z.up HB.out hw388_1 :), (Z.up HB.out hw388_2 :)⟩ (fun hHeld => ?_)
      clear hK K
      refine Z.nm ?_
      refine Z.pv 9 26 10 1023 HT_.out ?_
      refine done_ (done_of HT_.out (by kernel_rfl)) ?_
      try go_wp2
      go_ret
      exact ⟨by first | rfl | (simp [errW_none, errW_some] <;> rfl) | (simp [*, errW_none, errW_some] <;> rfl), Z.bl HB.out⟩
    ·rw [if_neg c4] at H
     have c4b0 := decide_eq_false c4
     clear c4
     obtain rfl := Option.some.inj H
     go_wp2
     go_ret
     exact ⟨by first | rfl | (simp [errW_none, errW_some] <;> rfl) | (simp [*, errW_none, errW_some] <;> rfl), Z.bl HB.out⟩
 ·rw [if_neg c3] at H
  have c3b0 : ((l0.length : Int) == (l1.length : Int)) = false := beq_eq_false_iff_ne.mpr c3
  have c3b1 : ((l0.length : Int) != (l1.length : Int)) = true := bne_iff_ne.mpr c3
  have c3b2 : (l0.length == l1.length) = false := by first | simpa using c3 | (simp at c3 ⊢; omega)
  obtain rfl := Option.some.inj H
  go_enter Try.func26, Try.ntmps26
  go_wp2
  go_ret
  exact ⟨by first | rfl | (simp [errW_none, errW_some] <;> rfl) | (simp [*, errW_none, errW_some] <;> rfl), Z.bl HB.out⟩

end Go.Proofs.Ytcafckapdgaogaa.PAll

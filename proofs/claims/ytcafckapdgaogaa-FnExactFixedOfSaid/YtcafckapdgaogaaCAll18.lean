/- Walks of functions that All reaches, in the form of the print. -/
-- PRINTED
import Derived.Test.YtcafckapdgaogaaCAll17
namespace Go.Proofs.Ytcafckapdgaogaa.PAll
open Go.RowKit Go.Proofs.YtcafckapdgaogaaW.PrintWords Go.Proofs.YtcafckapdgaogaaW.PrintLast Go.Proofs.YtcafckapdgaogaaW.PrintMore
attribute [local go_sem] max2_int min2_int max_two min_two max_three min_three max_four min_four
set_option linter.unusedVariables false
set_option linter.unusedSimpArgs false

/-! ### laws_eqMarkS: function 152 -/
def laws_eqMarkS.l0 : Nat → List (S134) → List (S134) → Int → Option (Bool)
 | 0, _, _, _ => none
 | k + 1, x0, x1, x5 => if x5 < (x0.length : Int) then (if 0 ≤ x5 then (if x5 < (x1.length : Int) then ((laws_eqMark.f ((rd_T134 x0 x5).f0) ((rd_T134 x0 x5).f1) ((rd_T134 x0 x5).f2) ((rd_T134 x1 x5).f0) ((rd_T134 x1 x5).f1) ((rd_T134 x1 x5).f2)).bind fun t371 => (if t371 = true then (laws_eqMarkS.l0 k x0 x1 (wrap64 (x5 + 1))) else (some false))) else (none)) else (none)) else (some true)
def laws_eqMarkS.f (k : Nat) (l0 : List (S134)) (l1 : List (S134)) : Option (Bool) := if (l0.length : Int) = (l1.length : Int) then (laws_eqMarkS.l0 k l0 l1 0) else (some false)
def laws_eqMarkS.T6 : Bool × List (List Nat × List Nat) := (true, [([], []), ([], []), ([0, 1], [0, 1]), ([2], [2]), ([], []), ([], []), ([4, 5], [4, 5]), ([6], [6]), ([3, 7], [3, 7]), ([8], [8])])
def laws_eqMarkS.B6 : List Nat := [0, 0, 3, 7, 0, 0, 48, 112, 255, 511]
theorem laws_eqMarkS.tab6 : rtab .any (opsOf Try.f152 6) = laws_eqMarkS.T6 := by kernel_rfl
theorem laws_eqMarkS.bits6 : waitsOk laws_eqMarkS.T6.2 laws_eqMarkS.B6 = true := by kernel_rfl
set_option maxHeartbeats 8000000 in
set_option maxRecDepth 100000 in
theorem laws_eqMarkS.calls (k : Nat) (A0 : Option Addr) (c0 : Nat) (l0 : List (S134)) (A1 : Option Addr) (c1 : Nat) (l1 : List (S134)) (r : Bool) (w : World) (hr0 : Kd.C k134 w A0 l0.length l0) (hc0 : l0.length ≤ c0) (hr1 : Kd.C k134 w A1 l1.length l1) (hc1 : l1.length ≤ c1) (h : laws_eqMarkS.f k l0 l1 = some r) :
  Calls Try.prog 152 #[.slice A0 l0.length c0, .slice A1 l1.length c1] w fun e w' => e = .returned (.bool r) ∧ Below w.heap.size w w' := by
 have hu134 := Try.underlying134
 have HR0 := Aside0.mk hr0
 have HC0 := Aside0.mk hc0
 clear hr0 hc0
 have HR1 := Aside0.mk hr1
 have HC1 := Aside0.mk hc1
 clear hr1 hc1
 have HB := Aside0.mk (Below.refl w.heap.size w)
 have H := h
 clear h
 unfold laws_eqMarkS.f at H
 by_cases c3 : (l0.length : Int) = (l1.length : Int)
 ·rw [if_pos c3] at H
  have c3b0 : ((l0.length : Int) == (l1.length : Int)) = true := beq_iff_eq.mpr c3
  have c3b1 : ((l0.length : Int) != (l1.length : Int)) = false := bne_eq_false_iff_eq.mpr c3
  have c3b2 : (l0.length == l1.length) = true := by (simp at c3 ⊢; omega)
  clear c3
  have H' := Aside0.mk H
  clear H
  go_enter Try.func152, Try.ntmps152
  go_wp2
  go_loopg [5] k (fun kq v5 w' => ∃ (x5_1 : Int), v5 = .int .i64 x5_1 ∧ Aside0 (laws_eqMarkS.l0 kq l0 l1 x5_1 = some r) ∧ Aside0 (kq ≤ k) ∧ Aside0 (Below w.heap.size w w'))
  case atStart => exact ⟨(0), (by rfl), H', ⟨Nat.le_refl _⟩, ⟨Z.bl HB.out⟩⟩
  case round =>
   clear H'
   try clear c3b0
   try clear c3b1
   try clear c3b2
   obtain ⟨x5_1, rfl, HA, HK1, HB⟩ := hrel
   cases gk with
   | zero => exact absurd HA.out (by simp [laws_eqMarkS.l0])
   | succ k1 =>
    have H := HA.out
    clear HA
    simp only [laws_eqMarkS.l0] at H
    by_cases c4 : x5_1 < (l0.length : Int)
    ·rw [if_pos c4] at H
     have c4b0 : decide (x5_1 < (l0.length : Int)) = true := decide_eq_true c4
     clear c4
     obtain ⟨c5, H⟩ := Z.ifp H
     have c5b0 : decide (0 ≤ x5_1) = true := decide_eq_true c5
     clear c5
     obtain ⟨c6, H⟩ := Z.ifp H
     have c6b0 : decide (x5_1 < (l1.length : Int)) = true := decide_eq_true c6
     clear c6
     replace H := Option.bind_eq_some_iff.mp H
     obtain ⟨t371, A70, H⟩ := H
     have A7 := Aside0.mk A70
     clear A70
     by_cases c8 : t371 = true
     ·subst c8
      rw [if_pos rfl] at H
      have H' := Aside0.mk H
      clear H
      try go_wp2
      replace HB := Aside0.mk (below_drew1 HB.out)
      have p369 : 0 ≤ (x5_1 : Int) := Z.od
      have q369 : x5_1 < (l0.length : Int) := Z.od
      obtain ⟨ad369, rfl, hx369_0, hx369_1, hx369_2⟩ := at_T134 HR0.out x5_1 p369 q369
      have hw369_2 := hx369_2
      have hw369_1 := hx369_1
      have hw369_0 := hx369_0
      replace hx369_0 := Z.up HB.out hx369_0
      replace hx369_1 := Z.up HB.out hx369_1
      replace hx369_2 := Z.up HB.out hx369_2
      replace p369 := eq_true p369
      replace q369 := eq_true q369
      have p370 : 0 ≤ (x5_1 : Int) := Z.od
      have q370 : x5_1 < (l1.length : Int) := Z.od
      obtain ⟨ad370, rfl, hx370_0, hx370_1, hx370_2⟩ := at_T134 HR1.out x5_1 p370 q370
      have hw370_2 := hx370_2
      have hw370_1 := hx370_1
      have hw370_0 := hx370_0
      replace hx370_0 := Z.up HB.out hx370_0
      replace hx370_1 := Z.up HB.out hx370_1
      replace hx370_2 := Z.up HB.out hx370_2
      replace p370 := eq_true p370
      replace q370 := eq_true q370
      refine start_ (n := 10) (S := fun w' => w'.cell? (ad369.add ((x5_1).toNat * 3)) = some (.int .i64 ((rd_T134 l0 x5_1).f0)) ∧ w'.cell? ⟨(ad369.add ((x5_1).toNat * 3)).block, (ad369.add ((x5_1).toNat * 3)).off + 1, none⟩ = some (.int .i64 ((rd_T134 l0 x5_1).f1)) ∧ w'.cell? ⟨(ad369.add ((x5_1).toNat * 3)).block, (ad369.add ((x5_1).toNat * 3)).off + 2, none⟩ = some (.int .i64 ((rd_T134 l0 x5_1).f2)) ∧ w'.cell? (ad370.add ((x5_1).toNat * 3)) = some (.int .i64 ((rd_T134 l1 x5_1).f0)) ∧ w'.cell? ⟨(ad370.add ((x5_1).toNat * 3)).block, (ad370.add ((x5_1).toNat * 3)).off + 1, none⟩ = some (.int .i64 ((rd_T134 l1 x5_1).f1)) ∧ w'.cell? ⟨(ad370.add ((x5_1).toNat * 3)).block, (ad370.add ((x5_1).toNat * 3)).off + 2, none⟩ = some (.int .i64 ((rd_T134 l1 x5_1).f2))) (ds := []) #[false, false, false, false, false, false, false, false, false, false] (by kernel_rfl) rfl rfl ⟨(Z.up HB.out hw369_0 :), (Z.up HB.out hw369_1 :), (Z.up HB.out hw369_2 :), (Z.up HB.out hw370_0 :), (Z.up HB.out hw370_1 :), (Z.up HB.out hw370_2 :)⟩ (fun hHeld => ?_); refine with_tabW laws_eqMarkS.tab6 laws_eqMarkS.bits6 (fun HT_ HW_ => ?_)
      generalize wr.drew = w9 at HB hx369_0 hx369_1 hx369_2 hx370_0 hx370_1 hx370_2 hHeld ⊢
      refine Z.pv 0 17 10 1 HT_.out ?_
      refine Z.pv 1 18 10 3 HT_.out ?_
      refine Z.pv 2 19 10 7 HT_.out ?_
      refine Z.pv 4 21 10 23 HT_.out ?_
      refine Z.pv 5 22 10 55 HT_.out ?_
      refine Z.pv 6 23 10 119 HT_.out ?_
      refine Z.t6 3 20 10 127 HT_.out HW_.out hHeld ?_
      refine Z.t6 7 24 10 255 HT_.out HW_.out hHeld ?_
      refine one_ (i := 8) (N := some 25) (Z.mb 10 511) rfl rfl (one_of HT_.out (by kernel_rfl)) (by decide) (fun K hK => ?_)
      refine goes_ Try.func162 (by kernel_rfl) rfl #[.agg #[.int .i64 ((rd_T134 l0 x5_1).f0), .int .i64 ((rd_T134 l0 x5_1).f1), .int .i64 ((rd_T134 l0 x5_1).f2)], .agg #[.int .i64 ((rd_T134 l1 x5_1).f0), .int .i64 ((rd_T134 l1 x5_1).f1), .int .i64 ((rd_T134 l1 x5_1).f2)]] (by rfl) rfl rfl Z.ar ?_
      with_reducible refine (laws_eqMark.calls ((rd_T134 l0 x5_1).f0) ((rd_T134 l0 x5_1).f1) ((rd_T134 l0 x5_1).f2) ((rd_T134 l1 x5_1).f0) ((rd_T134 l1 x5_1).f1) ((rd_T134 l1 x5_1).f2) true _ A7.out).mono ?_
      rintro e w10 ⟨rfl, hb⟩
      refine ⟨_, rfl, ?_⟩
      replace HB := Z.st (Z.bl HB.out) hb
      (try clear hb)
      refine hK.out _ _ ⟨(Z.up HB.out hw369_0 :), (Z.up HB.out hw369_1 :), (Z.up HB.out hw369_2 :), (Z.up HB.out hw370_0 :), (Z.up HB.out hw370_1 :), (Z.up HB.out hw370_2 :)⟩ (fun hHeld => ?_)
      clear hK K
      refine Z.nm ?_
      refine Z.pv 9 26 10 1023 HT_.out ?_
      refine done_ (done_of HT_.out (by kernel_rfl)) ?_
      try go_wp2
      go_roundg k1
      case measure => have := HK1.out; omega
      case rel => exact ⟨(wrap64 (x5_1 + 1)), (by rfl), H', ⟨by have := HK1.out; omega⟩, ⟨Z.bl HB.out⟩⟩
     ·replace c8 := Bool.eq_false_iff.mpr c8
      subst c8
      rw [if_neg (show ¬ (false = true) by decide)] at H
      obtain rfl := Option.some.inj H
      try go_wp2
      replace HB := Aside0.mk (below_drew1 HB.out)
      have p369 : 0 ≤ (x5_1 : Int) := Z.od
      have q369 : x5_1 < (l0.length : Int) := Z.od
      obtain ⟨ad369, rfl, hx369_0, hx369_1, hx369_2⟩ := at_T134 HR0.out x5_1 p369 q369
      have hw369_2 := hx369_2
      have hw369_1 := hx369_1
      have hw369_0 := hx369_0
      replace hx369_0 := Z.up HB.out hx369_0
      replace hx369_1 := Z.up HB.out hx369_1
      replace hx369_2 := Z.up HB.out hx369_2
      replace p369 := eq_true p369
      replace q369 := eq_true q369
      have p370 : 0 ≤ (x5_1 : Int) := Z.od
      have q370 : x5_1 < (l1.length : Int) := Z.od
      obtain ⟨ad370, rfl, hx370_0, hx370_1, hx370_2⟩ := at_T134 HR1.out x5_1 p370 q370
      have hw370_2 := hx370_2
      have hw370_1 := hx370_1
      have hw370_0 := hx370_0
      replace hx370_0 := Z.up HB.out hx370_0
      replace hx370_1 := Z.up HB.out hx370_1
      replace hx370_2 := Z.up HB.out hx370_2
      replace p370 := eq_true p370
      replace q370 := eq_true q370
      refine start_ (n := 10) (S := fun w' => w'.cell? (ad369.add ((x5_1).toNat * 3)) = some (.int .i64 ((rd_T134 l0 x5_1).f0)) ∧ w'.cell? ⟨(ad369.add ((x5_1).toNat * 3)).block, (ad369.add ((x5_1).toNat * 3)).off + 1, none⟩ = some (.int .i64 ((rd_T134 l0 x5_1).f1)) ∧ w'.cell? ⟨(ad369.add ((x5_1).toNat * 3)).block, (ad369.add ((x5_1).toNat * 3)).off + 2, none⟩ = some (.int .i64 ((rd_T134 l0 x5_1).f2)) ∧ w'.cell? (ad370.add ((x5_1).toNat * 3)) = some (.int .i64 ((rd_T134 l1 x5_1).f0)) ∧ w'.cell? ⟨(ad370.add ((x5_1).toNat * 3)).block, (ad370.add ((x5_1).toNat * 3)).off + 1, none⟩ = some (.int .i64 ((rd_T134 l1 x5_1).f1)) ∧ w'.cell? ⟨(ad370.add ((x5_1).toNat * 3)).block, (ad370.add ((x5_1).toNat * 3)).off + 2, none⟩ = some (.int .i64 ((rd_T134 l1 x5_1).f2))) (ds := []) #[false, false, false, false, false, false, false, false, false, false] (by kernel_rfl) rfl rfl ⟨(Z.up HB.out hw369_0 :), (Z.up HB.out hw369_1 :), (Z.up HB.out hw369_2 :), (Z.up HB.out hw370_0 :), (Z.up HB.out hw370_1 :), (Z.up HB.out hw370_2 :)⟩ (fun hHeld => ?_); refine with_tabW laws_eqMarkS.tab6 laws_eqMarkS.bits6 (fun HT_ HW_ => ?_)
      generalize wr.drew = w11 at HB hx369_0 hx369_1 hx369_2 hx370_0 hx370_1 hx370_2 hHeld ⊢
      refine Z.pv 0 17 10 1 HT_.out ?_
      refine Z.pv 1 18 10 3 HT_.out ?_
      refine Z.pv 2 19 10 7 HT_.out ?_
      refine Z.pv 4 21 10 23 HT_.out ?_
      refine Z.pv 5 22 10 55 HT_.out ?_
      refine Z.pv 6 23 10 119 HT_.out ?_
      refine Z.t6 3 20 10 127 HT_.out HW_.out hHeld ?_
      refine Z.t6 7 24 10 255 HT_.out HW_.out hHeld ?_
      refine one_ (i := 8) (N := some 25) (Z.mb 10 511) rfl rfl (one_of HT_.out (by kernel_rfl)) (by decide) (fun K hK => ?_)
      refine goes_ Try.func162 (by kernel_rfl) rfl #[.agg #[.int .i64 ((rd_T134 l0 x5_1).f0), .int .i64 ((rd_T134 l0 x5_1).f1), .int .i64 ((rd_T134 l0 x5_1).f2)], .agg #[.int .i64 ((rd_T134 l1 x5_1).f0), .int .i64 ((rd_T134 l1 x5_1).f1), .int .i64 ((rd_T134 l1 x5_1).f2)]] (by rfl) rfl rfl Z.ar ?_
      with_reducible refine (laws_eqMark.calls ((rd_T134 l0 x5_1).f0) ((rd_T134 l0 x5_1).f1) ((rd_T134 l0 x5_1).f2) ((rd_T134 l1 x5_1).f0) ((rd_T134 l1 x5_1).f1) ((rd_T134 l1 x5_1).f2) false _ A7.out).mono ?_
      rintro e w12 ⟨rfl, hb⟩
      refine ⟨_, rfl, ?_⟩
      replace HB := Z.st (Z.bl HB.out) hb
      (try clear hb)
      refine hK.out _ _ ⟨(Z.up HB.out hw369_0 :), (Z.up HB.out hw369_1 :), (Z.up HB.out hw369_2 :), (Z.up HB.out hw370_0 :), (Z.up HB.out hw370_1 :), (Z.up HB.out hw370_2 :)⟩ (fun hHeld => ?_)
      clear hK K
      refine Z.nm ?_
      refine Z.pv 9 26 10 1023 HT_.out ?_
      refine done_ (done_of HT_.out (by kernel_rfl)) ?_
      try go_wp2
      go_ret
      exact ⟨by rfl, Z.bl HB.out⟩
    ·rw [if_neg c4] at H
     have c4b0 : decide (x5_1 < (l0.length : Int)) = false := decide_eq_false c4
     clear c4
     obtain rfl := Option.some.inj H
     go_wp2
     go_ret
     exact ⟨by rfl, Z.bl HB.out⟩
 ·rw [if_neg c3] at H
  have c3b0 : ((l0.length : Int) == (l1.length : Int)) = false := beq_eq_false_iff_ne.mpr c3
  have c3b1 : ((l0.length : Int) != (l1.length : Int)) = true := bne_iff_ne.mpr c3
  have c3b2 : (l0.length == l1.length) = false := by (simp at c3 ⊢; omega)
  obtain rfl := Option.some.inj H
  go_enter Try.func152, Try.ntmps152
  go_wp2
  go_ret
  exact ⟨by rfl, Z.bl HB.out⟩

/-! ### laws_eqVariant: function 128 -/
def laws_eqVariant.f (k : Nat) (l0_0 : List (S134)) (a0_1 : Int) (a0_2 : Int) (l1_0 : List (S134)) (a1_1 : Int) (a1_2 : Int) : Option (Bool) := (laws_eqMarkS.f k l0_0 l1_0).bind fun t374 => (if t374 = true then (if a0_1 = a1_1 then (if a0_2 = a1_2 then (some true) else (some false)) else (some false)) else (some false))
set_option maxHeartbeats 8000000 in
set_option maxRecDepth 100000 in
theorem laws_eqVariant.calls (k : Nat) (A0_0 : Option Addr) (c0_0 : Nat) (l0_0 : List (S134)) (a0_1 : Int) (a0_2 : Int) (A1_0 : Option Addr) (c1_0 : Nat) (l1_0 : List (S134)) (a1_1 : Int) (a1_2 : Int) (r : Bool) (w : World) (hr0_0 : Kd.C k134 w A0_0 l0_0.length l0_0) (hc0_0 : l0_0.length ≤ c0_0) (hr1_0 : Kd.C k134 w A1_0 l1_0.length l1_0) (hc1_0 : l1_0.length ≤ c1_0) (h : laws_eqVariant.f k l0_0 a0_1 a0_2 l1_0 a1_1 a1_2 = some r) :
  Calls Try.prog 128 #[.agg #[.slice A0_0 l0_0.length c0_0, .int .i64 a0_1, .int .i64 a0_2], .agg #[.slice A1_0 l1_0.length c1_0, .int .i64 a1_1, .int .i64 a1_2]] w fun e w' => e = .returned (.bool r) ∧ Below w.heap.size w w' := by
 have hu86 := Try.underlying86
 have HR0_0 := Aside0.mk hr0_0
 have HC0_0 := Aside0.mk hc0_0
 clear hr0_0 hc0_0
 have HR1_0 := Aside0.mk hr1_0
 have HC1_0 := Aside0.mk hc1_0
 clear hr1_0 hc1_0
 have HB := Aside0.mk (Below.refl w.heap.size w)
 have H := h
 clear h
 unfold laws_eqVariant.f at H
 replace H := Option.bind_eq_some_iff.mp H
 obtain ⟨t374, A30, H⟩ := H
 have A3 := Aside0.mk A30
 clear A30
 by_cases c4 : t374 = true
 ·subst c4
  rw [if_pos rfl] at H
  by_cases c5 : a0_1 = a1_1
  ·rw [if_pos c5] at H
   have c5b0 : (a0_1 == a1_1) = true := beq_iff_eq.mpr c5
   have c5b1 : (a0_1 != a1_1) = false := bne_eq_false_iff_eq.mpr c5
   clear c5
   by_cases c6 : a0_2 = a1_2
   ·rw [if_pos c6] at H
    have c6b0 : (a0_2 == a1_2) = true := beq_iff_eq.mpr c6
    have c6b1 : (a0_2 != a1_2) = false := bne_eq_false_iff_eq.mpr c6
    clear c6
    obtain rfl := Option.some.inj H
    go_enter Try.func128, Try.ntmps128
    go_wp2_with (first | ((with_reducible refine gate_dst (N := 2) rfl ?_); refine Z.bx #[.slice A0_0 l0_0.length c0_0, .int .i64 a0_1, .int .i64 a0_2] 86 HB ?_; clear HB; intro gb372 w7 BK372 GE372 HB hg hb; have GW372 := GE372; clear hb hg) | ((with_reducible refine gate_dst (N := 3) rfl ?_); refine Z.bz #[.slice A1_0 l1_0.length c1_0, .int .i64 a1_1, .int .i64 a1_2] 86 HB GE372 ?_; clear HB; intro gb373 w8 BK373 GE373 HB hg hb; have GW373 := GE373; have NB372_373 := Z.nl hg BK372; have NB373_372 := Z.ng hg BK372; replace BK372 := Z.bb BK372 hb; clear hb hg; have hnb9 := NB372_373.out; have hnc9 := NB373_372.out; have hcz10 := Z.c3 BK372.out; have hcz11 := Z.c3 BK373.out) | ((with_reducible refine gate_callee (f := 152) rfl ?_); refine goesL_ (some 9) rfl rfl Try.func152 (by kernel_rfl) rfl #[.slice A0_0 l0_0.length c0_0, .slice A1_0 l1_0.length c1_0] rfl Z.ar ?_; (with_reducible refine (laws_eqMarkS.calls k _ _ l0_0 _ _ l1_0 true _ ?q1 ?q2 ?q3 ?q4 A3.out).mono ?_); (case q1 => exact Z.cc HR0_0 HB); (case q2 => exact HC0_0.out); (case q3 => exact Z.cc HR1_0 HB); (case q4 => exact HC1_0.out); rintro e w12 ⟨rfl, hb⟩; refine ⟨_, rfl, ?_⟩; replace BK372 := Z.bb BK372 hb; replace BK373 := Z.bb BK373 hb; replace HB := Aside0.mk (below_step (by repeat ((with_reducible exact HB.out))) hb); (try clear hb); have hcz13 := Z.c3 BK372.out; have hcz14 := Z.c3 BK373.out))
    go_ret
    exact ⟨by rfl, by repeat ((with_reducible exact HB.out))⟩
   ·rw [if_neg c6] at H
    have c6b0 : (a0_2 == a1_2) = false := beq_eq_false_iff_ne.mpr c6
    have c6b1 : (a0_2 != a1_2) = true := bne_iff_ne.mpr c6
    obtain rfl := Option.some.inj H
    go_enter Try.func128, Try.ntmps128
    go_wp2_with (first | ((with_reducible refine gate_dst (N := 2) rfl ?_); refine Z.bx #[.slice A0_0 l0_0.length c0_0, .int .i64 a0_1, .int .i64 a0_2] 86 HB ?_; clear HB; intro gb372 w15 BK372 GE372 HB hg hb; have GW372 := GE372; clear hb hg) | ((with_reducible refine gate_dst (N := 3) rfl ?_); refine Z.bz #[.slice A1_0 l1_0.length c1_0, .int .i64 a1_1, .int .i64 a1_2] 86 HB GE372 ?_; clear HB; intro gb373 w16 BK373 GE373 HB hg hb; have GW373 := GE373; have NB372_373 := Z.nl hg BK372; have NB373_372 := Z.ng hg BK372; replace BK372 := Z.bb BK372 hb; clear hb hg; have hnb17 := NB372_373.out; have hnc17 := NB373_372.out; have hcz18 := Z.c3 BK372.out; have hcz19 := Z.c3 BK373.out) | ((with_reducible refine gate_callee (f := 152) rfl ?_); refine goesL_ (some 9) rfl rfl Try.func152 (by kernel_rfl) rfl #[.slice A0_0 l0_0.length c0_0, .slice A1_0 l1_0.length c1_0] rfl Z.ar ?_; (with_reducible refine (laws_eqMarkS.calls k _ _ l0_0 _ _ l1_0 true _ ?q1 ?q2 ?q3 ?q4 A3.out).mono ?_); (case q1 => exact Z.cc HR0_0 HB); (case q2 => exact HC0_0.out); (case q3 => exact Z.cc HR1_0 HB); (case q4 => exact HC1_0.out); rintro e w20 ⟨rfl, hb⟩; refine ⟨_, rfl, ?_⟩; replace BK372 := Z.bb BK372 hb; replace BK373 := Z.bb BK373 hb; replace HB := Aside0.mk (below_step (by repeat ((with_reducible exact HB.out))) hb); (try clear hb); have hcz21 := Z.c3 BK372.out; have hcz22 := Z.c3 BK373.out))
    go_ret
    exact ⟨by rfl, by repeat ((with_reducible exact HB.out))⟩
  ·rw [if_neg c5] at H
   have c5b0 : (a0_1 == a1_1) = false := beq_eq_false_iff_ne.mpr c5
   have c5b1 : (a0_1 != a1_1) = true := bne_iff_ne.mpr c5
   obtain rfl := Option.some.inj H
   go_enter Try.func128, Try.ntmps128
   go_wp2_with (first | ((with_reducible refine gate_dst (N := 2) rfl ?_); refine Z.bx #[.slice A0_0 l0_0.length c0_0, .int .i64 a0_1, .int .i64 a0_2] 86 HB ?_; clear HB; intro gb372 w23 BK372 GE372 HB hg hb; have GW372 := GE372; clear hb hg) | ((with_reducible refine gate_dst (N := 3) rfl ?_); refine Z.bz #[.slice A1_0 l1_0.length c1_0, .int .i64 a1_1, .int .i64 a1_2] 86 HB GE372 ?_; clear HB; intro gb373 w24 BK373 GE373 HB hg hb; have GW373 := GE373; have NB372_373 := Z.nl hg BK372; have NB373_372 := Z.ng hg BK372; replace BK372 := Z.bb BK372 hb; clear hb hg; have hnb25 := NB372_373.out; have hnc25 := NB373_372.out; have hcz26 := Z.c3 BK372.out; have hcz27 := Z.c3 BK373.out) | ((with_reducible refine gate_callee (f := 152) rfl ?_); refine goesL_ (some 9) rfl rfl Try.func152 (by kernel_rfl) rfl #[.slice A0_0 l0_0.length c0_0, .slice A1_0 l1_0.length c1_0] rfl Z.ar ?_; (with_reducible refine (laws_eqMarkS.calls k _ _ l0_0 _ _ l1_0 true _ ?q1 ?q2 ?q3 ?q4 A3.out).mono ?_); (case q1 => exact Z.cc HR0_0 HB); (case q2 => exact HC0_0.out); (case q3 => exact Z.cc HR1_0 HB); (case q4 => exact HC1_0.out); rintro e w28 ⟨rfl, hb⟩; refine ⟨_, rfl, ?_⟩; replace BK372 := Z.bb BK372 hb; replace BK373 := Z.bb BK373 hb; replace HB := Aside0.mk (below_step (by repeat ((with_reducible exact HB.out))) hb); (try clear hb); have hcz29 := Z.c3 BK372.out; have hcz30 := Z.c3 BK373.out))
   go_ret
   exact ⟨by rfl, by repeat ((with_reducible exact HB.out))⟩
 ·replace c4 := Bool.eq_false_iff.mpr c4
  subst c4
  rw [if_neg (show ¬ (false = true) by decide)] at H
  obtain rfl := Option.some.inj H
  go_enter Try.func128, Try.ntmps128
  go_wp2_with (first | ((with_reducible refine gate_dst (N := 2) rfl ?_); refine Z.bx #[.slice A0_0 l0_0.length c0_0, .int .i64 a0_1, .int .i64 a0_2] 86 HB ?_; clear HB; intro gb372 w31 BK372 GE372 HB hg hb; have GW372 := GE372; clear hb hg) | ((with_reducible refine gate_dst (N := 3) rfl ?_); refine Z.bz #[.slice A1_0 l1_0.length c1_0, .int .i64 a1_1, .int .i64 a1_2] 86 HB GE372 ?_; clear HB; intro gb373 w32 BK373 GE373 HB hg hb; have GW373 := GE373; have NB372_373 := Z.nl hg BK372; have NB373_372 := Z.ng hg BK372; replace BK372 := Z.bb BK372 hb; clear hb hg; have hnb33 := NB372_373.out; have hnc33 := NB373_372.out; have hcz34 := Z.c3 BK372.out; have hcz35 := Z.c3 BK373.out) | ((with_reducible refine gate_callee (f := 152) rfl ?_); refine goesL_ (some 9) rfl rfl Try.func152 (by kernel_rfl) rfl #[.slice A0_0 l0_0.length c0_0, .slice A1_0 l1_0.length c1_0] rfl Z.ar ?_; (with_reducible refine (laws_eqMarkS.calls k _ _ l0_0 _ _ l1_0 false _ ?q1 ?q2 ?q3 ?q4 A3.out).mono ?_); (case q1 => exact Z.cc HR0_0 HB); (case q2 => exact HC0_0.out); (case q3 => exact Z.cc HR1_0 HB); (case q4 => exact HC1_0.out); rintro e w36 ⟨rfl, hb⟩; refine ⟨_, rfl, ?_⟩; replace BK372 := Z.bb BK372 hb; replace BK373 := Z.bb BK373 hb; replace HB := Aside0.mk (below_step (by repeat ((with_reducible exact HB.out))) hb); (try clear hb)))
  go_ret
  exact ⟨by rfl, by repeat ((with_reducible exact HB.out))⟩

/-! ### laws_eqVariantS: function 106 -/
def laws_eqVariantS.l0 : Nat → List (S86) → List (S86) → Int → Option (Bool)
 | 0, _, _, _ => none
 | k + 1, x0, x1, x5 => if x5 < (x0.length : Int) then (if 0 ≤ x5 then (if x5 < (x1.length : Int) then ((laws_eqVariant.f k ((rd_T86 x0 x5).f0) ((rd_T86 x0 x5).f1) ((rd_T86 x0 x5).f2) ((rd_T86 x1 x5).f0) ((rd_T86 x1 x5).f1) ((rd_T86 x1 x5).f2)).bind fun t377 => (if t377 = true then (laws_eqVariantS.l0 k x0 x1 (wrap64 (x5 + 1))) else (some false))) else (none)) else (none)) else (some true)
def laws_eqVariantS.f (k : Nat) (l0 : List (S86)) (l1 : List (S86)) : Option (Bool) := if (l0.length : Int) = (l1.length : Int) then (laws_eqVariantS.l0 k l0 l1 0) else (some false)
def laws_eqVariantS.T6 : Bool × List (List Nat × List Nat) := (true, [([], []), ([], []), ([0, 1], [0, 1]), ([2], [2]), ([], []), ([], []), ([4, 5], [4, 5]), ([6], [6]), ([3, 7], [3, 7]), ([8], [8])])
def laws_eqVariantS.B6 : List Nat := [0, 0, 3, 7, 0, 0, 48, 112, 255, 511]
theorem laws_eqVariantS.tab6 : rtab .any (opsOf Try.f106 6) = laws_eqVariantS.T6 := by kernel_rfl
theorem laws_eqVariantS.bits6 : waitsOk laws_eqVariantS.T6.2 laws_eqVariantS.B6 = true := by kernel_rfl
set_option maxHeartbeats 8000000 in
set_option maxRecDepth 100000 in
theorem laws_eqVariantS.calls (k : Nat) (A0 : Option Addr) (c0 : Nat) (l0 : List (S86)) (A1 : Option Addr) (c1 : Nat) (l1 : List (S86)) (r : Bool) (w : World) (hr0 : Kd.C k86 w A0 l0.length l0) (hc0 : l0.length ≤ c0) (hr1 : Kd.C k86 w A1 l1.length l1) (hc1 : l1.length ≤ c1) (h : laws_eqVariantS.f k l0 l1 = some r) :
  Calls Try.prog 106 #[.slice A0 l0.length c0, .slice A1 l1.length c1] w fun e w' => e = .returned (.bool r) ∧ Below w.heap.size w w' := by
 have hu86 := Try.underlying86
 have HR0 := Aside0.mk hr0
 have HC0 := Aside0.mk hc0
 clear hr0 hc0
 have HR1 := Aside0.mk hr1
 have HC1 := Aside0.mk hc1
 clear hr1 hc1
 have HB := Aside0.mk (Below.refl w.heap.size w)
 have H := h
 clear h
 unfold laws_eqVariantS.f at H
 by_cases c3 : (l0.length : Int) = (l1.length : Int)
 ·rw [if_pos c3] at H
  have c3b0 : ((l0.length : Int) == (l1.length : Int)) = true := beq_iff_eq.mpr c3
  have c3b1 : ((l0.length : Int) != (l1.length : Int)) = false := bne_eq_false_iff_eq.mpr c3
  have c3b2 : (l0.length == l1.length) = true := by (simp at c3 ⊢; omega)
  clear c3
  have H' := Aside0.mk H
  clear H
  go_enter Try.func106, Try.ntmps106
  go_wp2
  go_loopg [5] k (fun kq v5 w' => ∃ (x5_1 : Int), v5 = .int .i64 x5_1 ∧ Aside0 (laws_eqVariantS.l0 kq l0 l1 x5_1 = some r) ∧ Aside0 (kq ≤ k) ∧ Aside0 (Below w.heap.size w w'))
  case atStart => exact ⟨(0), (by rfl), H', ⟨Nat.le_refl _⟩, ⟨Z.bl HB.out⟩⟩
  case round =>
   clear H'
   try clear c3b0
   try clear c3b1
   try clear c3b2
   obtain ⟨x5_1, rfl, HA, HK1, HB⟩ := hrel
   cases gk with
   | zero => exact absurd HA.out (by simp [laws_eqVariantS.l0])
   | succ k1 =>
    have H := HA.out
    clear HA
    simp only [laws_eqVariantS.l0] at H
    by_cases c4 : x5_1 < (l0.length : Int)
    ·rw [if_pos c4] at H
     have c4b0 : decide (x5_1 < (l0.length : Int)) = true := decide_eq_true c4
     clear c4
     obtain ⟨c5, H⟩ := Z.ifp H
     have c5b0 : decide (0 ≤ x5_1) = true := decide_eq_true c5
     clear c5
     obtain ⟨c6, H⟩ := Z.ifp H
     have c6b0 : decide (x5_1 < (l1.length : Int)) = true := decide_eq_true c6
     clear c6
     replace H := Option.bind_eq_some_iff.mp H
     obtain ⟨t377, A70, H⟩ := H
     have A7 := Aside0.mk A70
     clear A70
     by_cases c8 : t377 = true
     ·subst c8
      rw [if_pos rfl] at H
      have H' := Aside0.mk H
      clear H
      try go_wp2
      replace HB := Aside0.mk (below_drew1 HB.out)
      have p375 : 0 ≤ (x5_1 : Int) := Z.od
      have q375 : x5_1 < (l0.length : Int) := Z.od
      obtain ⟨ad375, A375_0, c375_0, rfl, hx375_0, hx375_1, hx375_2, hl375_0, hi375_0⟩ := at_T86 HR0.out x5_1 p375 q375
      have hw375_2 := hx375_2
      have hw375_1 := hx375_1
      have hw375_0 := hx375_0
      replace hx375_0 := Z.up HB.out hx375_0
      replace hx375_1 := Z.up HB.out hx375_1
      replace hx375_2 := Z.up HB.out hx375_2
      have HR375_0 := Aside0.mk hi375_0
      have HC375_0 := Aside0.mk hl375_0
      clear hi375_0 hl375_0
      replace p375 := eq_true p375
      replace q375 := eq_true q375
      have p376 : 0 ≤ (x5_1 : Int) := Z.od
      have q376 : x5_1 < (l1.length : Int) := Z.od
      obtain ⟨ad376, A376_0, c376_0, rfl, hx376_0, hx376_1, hx376_2, hl376_0, hi376_0⟩ := at_T86 HR1.out x5_1 p376 q376
      have hw376_2 := hx376_2
      have hw376_1 := hx376_1
      have hw376_0 := hx376_0
      replace hx376_0 := Z.up HB.out hx376_0
      replace hx376_1 := Z.up HB.out hx376_1
      replace hx376_2 := Z.up HB.out hx376_2
      have HR376_0 := Aside0.mk hi376_0
      have HC376_0 := Aside0.mk hl376_0
      clear hi376_0 hl376_0
      replace p376 := eq_true p376
      replace q376 := eq_true q376
      refine start_ (n := 10) (S := fun w' => w'.cell? (ad375.add ((x5_1).toNat * 3)) = some (.slice A375_0 ((rd_T86 l0 x5_1).f0).length c375_0) ∧ w'.cell? ⟨(ad375.add ((x5_1).toNat * 3)).block, (ad375.add ((x5_1).toNat * 3)).off + 1, none⟩ = some (.int .i64 ((rd_T86 l0 x5_1).f1)) ∧ w'.cell? ⟨(ad375.add ((x5_1).toNat * 3)).block, (ad375.add ((x5_1).toNat * 3)).off + 2, none⟩ = some (.int .i64 ((rd_T86 l0 x5_1).f2)) ∧ w'.cell? (ad376.add ((x5_1).toNat * 3)) = some (.slice A376_0 ((rd_T86 l1 x5_1).f0).length c376_0) ∧ w'.cell? ⟨(ad376.add ((x5_1).toNat * 3)).block, (ad376.add ((x5_1).toNat * 3)).off + 1, none⟩ = some (.int .i64 ((rd_T86 l1 x5_1).f1)) ∧ w'.cell? ⟨(ad376.add ((x5_1).toNat * 3)).block, (ad376.add ((x5_1).toNat * 3)).off + 2, none⟩ = some (.int .i64 ((rd_T86 l1 x5_1).f2))) (ds := []) #[false, false, false, false, false, false, false, false, false, false] (by kernel_rfl) rfl rfl ⟨(Z.up HB.out hw375_0 :), (Z.up HB.out hw375_1 :), (Z.up HB.out hw375_2 :), (Z.up HB.out hw376_0 :), (Z.up HB.out hw376_1 :), (Z.up HB.out hw376_2 :)⟩ (fun hHeld => ?_); refine with_tabW laws_eqVariantS.tab6 laws_eqVariantS.bits6 (fun HT_ HW_ => ?_)
      generalize wr.drew = w9 at HB HR375_0 HR376_0 hx375_0 hx375_1 hx375_2 hx376_0 hx376_1 hx376_2 hHeld ⊢
      refine Z.pv 0 17 10 1 HT_.out ?_
      refine Z.pv 1 18 10 3 HT_.out ?_
      refine Z.pv 2 19 10 7 HT_.out ?_
      refine Z.pv 4 21 10 23 HT_.out ?_
      refine Z.pv 5 22 10 55 HT_.out ?_
      refine Z.pv 6 23 10 119 HT_.out ?_
      refine Z.t6 3 20 10 127 HT_.out HW_.out hHeld ?_
      refine Z.t6 7 24 10 255 HT_.out HW_.out hHeld ?_
      refine one_ (i := 8) (N := some 25) (Z.mb 10 511) rfl rfl (one_of HT_.out (by kernel_rfl)) (by decide) (fun K hK => ?_)
      refine goes_ Try.func128 (by kernel_rfl) rfl #[.agg #[.slice A375_0 ((rd_T86 l0 x5_1).f0).length c375_0, .int .i64 ((rd_T86 l0 x5_1).f1), .int .i64 ((rd_T86 l0 x5_1).f2)], .agg #[.slice A376_0 ((rd_T86 l1 x5_1).f0).length c376_0, .int .i64 ((rd_T86 l1 x5_1).f1), .int .i64 ((rd_T86 l1 x5_1).f2)]] (by rfl) rfl rfl Z.ar ?_
      with_reducible refine (laws_eqVariant.calls k1 _ _ ((rd_T86 l0 x5_1).f0) ((rd_T86 l0 x5_1).f1) ((rd_T86 l0 x5_1).f2) _ _ ((rd_T86 l1 x5_1).f0) ((rd_T86 l1 x5_1).f1) ((rd_T86 l1 x5_1).f2) true _ ?q1 ?q2 ?q3 ?q4 A7.out).mono ?_
      (case q1 => exact Z.cc HR375_0 HB)
      (case q2 => exact HC375_0.out)
      (case q3 => exact Z.cc HR376_0 HB)
      (case q4 => exact HC376_0.out)
      rintro e w10 ⟨rfl, hb⟩
      refine ⟨_, rfl, ?_⟩
      replace HB := Z.st (Z.bl HB.out) hb
      (try clear hb)
      refine hK.out _ _ ⟨(Z.up HB.out hw375_0 :), (Z.up HB.out hw375_1 :), (Z.up HB.out hw375_2 :), (Z.up HB.out hw376_0 :), (Z.up HB.out hw376_1 :), (Z.up HB.out hw376_2 :)⟩ (fun hHeld => ?_)
      clear hK K
      refine Z.nm ?_
      refine Z.pv 9 26 10 1023 HT_.out ?_
      refine done_ (done_of HT_.out (by kernel_rfl)) ?_
      try go_wp2
      go_roundg k1
      case measure => have := HK1.out; omega
      case rel => exact ⟨(wrap64 (x5_1 + 1)), (by rfl), H', ⟨by have := HK1.out; omega⟩, ⟨Z.bl HB.out⟩⟩
     ·replace c8 := Bool.eq_false_iff.mpr c8
      subst c8
      rw [if_neg (show ¬ (false = true) by decide)] at H
      obtain rfl := Option.some.inj H
      try go_wp2
      replace HB := Aside0.mk (below_drew1 HB.out)
      have p375 : 0 ≤ (x5_1 : Int) := Z.od
      have q375 : x5_1 < (l0.length : Int) := Z.od
      obtain ⟨ad375, A375_0, c375_0, rfl, hx375_0, hx375_1, hx375_2, hl375_0, hi375_0⟩ := at_T86 HR0.out x5_1 p375 q375
      have hw375_2 := hx375_2
      have hw375_1 := hx375_1
      have hw375_0 := hx375_0
      replace hx375_0 := Z.up HB.out hx375_0
      replace hx375_1 := Z.up HB.out hx375_1
      replace hx375_2 := Z.up HB.out hx375_2
      have HR375_0 := Aside0.mk hi375_0
      have HC375_0 := Aside0.mk hl375_0
      clear hi375_0 hl375_0
      replace p375 := eq_true p375
      replace q375 := eq_true q375
      have p376 : 0 ≤ (x5_1 : Int) := Z.od
      have q376 : x5_1 < (l1.length : Int) := Z.od
      obtain ⟨ad376, A376_0, c376_0, rfl, hx376_0, hx376_1, hx376_2, hl376_0, hi376_0⟩ := at_T86 HR1.out x5_1 p376 q376
      have hw376_2 := hx376_2
      have hw376_1 := hx376_1
      have hw376_0 := hx376_0
      replace hx376_0 := Z.up HB.out hx376_0
      replace hx376_1 := Z.up HB.out hx376_1
      replace hx376_2 := Z.up HB.out hx376_2
      have HR376_0 := Aside0.mk hi376_0
      have HC376_0 := Aside0.mk hl376_0
      clear hi376_0 hl376_0
      replace p376 := eq_true p376
      replace q376 := eq_true q376
      refine start_ (n := 10) (S := fun w' => w'.cell? (ad375.add ((x5_1).toNat * 3)) = some (.slice A375_0 ((rd_T86 l0 x5_1).f0).length c375_0) ∧ w'.cell? ⟨(ad375.add ((x5_1).toNat * 3)).block, (ad375.add ((x5_1).toNat * 3)).off + 1, none⟩ = some (.int .i64 ((rd_T86 l0 x5_1).f1)) ∧ w'.cell? ⟨(ad375.add ((x5_1).toNat * 3)).block, (ad375.add ((x5_1).toNat * 3)).off + 2, none⟩ = some (.int .i64 ((rd_T86 l0 x5_1).f2)) ∧ w'.cell? (ad376.add ((x5_1).toNat * 3)) = some (.slice A376_0 ((rd_T86 l1 x5_1).f0).length c376_0) ∧ w'.cell? ⟨(ad376.add ((x5_1).toNat * 3)).block, (ad376.add ((x5_1).toNat * 3)).off + 1, none⟩ = some (.int .i64 ((rd_T86 l1 x5_1).f1)) ∧ w'.cell? ⟨(ad376.add ((x5_1).toNat * 3)).block, (ad376.add ((x5_1).toNat * 3)).off + 2, none⟩ = some (.int .i64 ((rd_T86 l1 x5_1).f2))) (ds := []) #[false, false, false, false, false, false, false, false, false, false] (by kernel_rfl) rfl rfl ⟨(Z.up HB.out hw375_0 :), (Z.up HB.out hw375_1 :), (Z.up HB.out hw375_2 :), (Z.up HB.out hw376_0 :), (Z.up HB.out hw376_1 :), (Z.up HB.out hw376_2 :)⟩ (fun hHeld => ?_); refine with_tabW laws_eqVariantS.tab6 laws_eqVariantS.bits6 (fun HT_ HW_ => ?_)
      generalize wr.drew = w11 at HB HR375_0 HR376_0 hx375_0 hx375_1 hx375_2 hx376_0 hx376_1 hx376_2 hHeld ⊢
      refine Z.pv 0 17 10 1 HT_.out ?_
      refine Z.pv 1 18 10 3 HT_.out ?_
      refine Z.pv 2 19 10 7 HT_.out ?_
      refine Z.pv 4 21 10 23 HT_.out ?_
      refine Z.pv 5 22 10 55 HT_.out ?_
      refine Z.pv 6 23 10 119 HT_.out ?_
      refine Z.t6 3 20 10 127 HT_.out HW_.out hHeld ?_
      refine Z.t6 7 24 10 255 HT_.out HW_.out hHeld ?_
      refine one_ (i := 8) (N := some 25) (Z.mb 10 511) rfl rfl (one_of HT_.out (by kernel_rfl)) (by decide) (fun K hK => ?_)
      refine goes_ Try.func128 (by kernel_rfl) rfl #[.agg #[.slice A375_0 ((rd_T86 l0 x5_1).f0).length c375_0, .int .i64 ((rd_T86 l0 x5_1).f1), .int .i64 ((rd_T86 l0 x5_1).f2)], .agg #[.slice A376_0 ((rd_T86 l1 x5_1).f0).length c376_0, .int .i64 ((rd_T86 l1 x5_1).f1), .int .i64 ((rd_T86 l1 x5_1).f2)]] (by rfl) rfl rfl Z.ar ?_
      with_reducible refine (laws_eqVariant.calls k1 _ _ ((rd_T86 l0 x5_1).f0) ((rd_T86 l0 x5_1).f1) ((rd_T86 l0 x5_1).f2) _ _ ((rd_T86 l1 x5_1).f0) ((rd_T86 l1 x5_1).f1) ((rd_T86 l1 x5_1).f2) false _ ?q1 ?q2 ?q3 ?q4 A7.out).mono ?_
      (case q1 => exact Z.cc HR375_0 HB)
      (case q2 => exact HC375_0.out)
      (case q3 => exact Z.cc HR376_0 HB)
      (case q4 => exact HC376_0.out)
      rintro e w12 ⟨rfl, hb⟩
      refine ⟨_, rfl, ?_⟩
      replace HB := Z.st (Z.bl HB.out) hb
      (try clear hb)
      refine hK.out _ _ ⟨(Z.up HB.out hw375_0 :), (Z.up HB.out hw375_1 :), (Z.up HB.out hw375_2 :), (Z.up HB.out hw376_0 :), (Z.up HB.out hw376_1 :), (Z.up HB.out hw376_2 :)⟩ (fun hHeld => ?_)
      clear hK K
      refine Z.nm ?_
      refine Z.pv 9 26 10 1023 HT_.out ?_
      refine done_ (done_of HT_.out (by kernel_rfl)) ?_
      try go_wp2
      go_ret
      exact ⟨by rfl, Z.bl HB.out⟩
    ·rw [if_neg c4] at H
     have c4b0 : decide (x5_1 < (l0.length : Int)) = false := decide_eq_false c4
     clear c4
     obtain rfl := Option.some.inj H
     go_wp2
     go_ret
     exact ⟨by rfl, Z.bl HB.out⟩
 ·rw [if_neg c3] at H
  have c3b0 : ((l0.length : Int) == (l1.length : Int)) = false := beq_eq_false_iff_ne.mpr c3
  have c3b1 : ((l0.length : Int) != (l1.length : Int)) = true := bne_iff_ne.mpr c3
  have c3b2 : (l0.length == l1.length) = false := by (simp at c3 ⊢; omega)
  obtain rfl := Option.some.inj H
  go_enter Try.func106, Try.ntmps106
  go_wp2
  go_ret
  exact ⟨by rfl, Z.bl HB.out⟩

end Go.Proofs.Ytcafckapdgaogaa.PAll

/- Walks of functions that All reaches, in the form of the print. -/
-- PRINTED
import Derived.Test.YtcafckapdgaogaaCAll18
namespace Go.Proofs.Ytcafckapdgaogaa.PAll
open Go.RowKit Go.Proofs.YtcafckapdgaogaaW.PrintWords Go.Proofs.YtcafckapdgaogaaW.PrintLast Go.Proofs.YtcafckapdgaogaaW.PrintMore
attribute [local go_sem] max2_int min2_int max_two min_two max_three min_three max_four min_four
set_option linter.unusedVariables false
set_option linter.unusedSimpArgs false

/-! ### laws_eqVariantSS: function 68 -/
def laws_eqVariantSS.l0 : Nat → List (List (S86)) → List (List (S86)) → Int → Option (Bool)
 | 0, _, _, _ => none
 | k + 1, x0, x1, x5 => if x5 < (x0.length : Int) then (if 0 ≤ x5 then (if x5 < (x1.length : Int) then ((laws_eqVariantS.f k (rd_L9 x0 x5) (rd_L9 x1 x5)).bind fun t380 => (if t380 = true then (laws_eqVariantSS.l0 k x0 x1 (wrap64 (x5 + 1))) else (some false))) else (none)) else (none)) else (some true)
def laws_eqVariantSS.f (k : Nat) (l0 : List (List (S86))) (l1 : List (List (S86))) : Option (Bool) := if (l0.length : Int) = (l1.length : Int) then (laws_eqVariantSS.l0 k l0 l1 0) else (some false)
def laws_eqVariantSS.T6 : Bool × List (List Nat × List Nat) := (true, [([], []), ([], []), ([0, 1], [0, 1]), ([2], [2]), ([], []), ([], []), ([4, 5], [4, 5]), ([6], [6]), ([3, 7], [3, 7]), ([8], [8])])
def laws_eqVariantSS.B6 : List Nat := [0, 0, 3, 7, 0, 0, 48, 112, 255, 511]
theorem laws_eqVariantSS.tab6 : rtab .any (opsOf Try.f68 6) = laws_eqVariantSS.T6 := by kernel_rfl
theorem laws_eqVariantSS.bits6 : waitsOk laws_eqVariantSS.T6.2 laws_eqVariantSS.B6 = true := by kernel_rfl
set_option maxHeartbeats 8000000 in
set_option maxRecDepth 100000 in
theorem laws_eqVariantSS.calls (k : Nat) (A0 : Option Addr) (c0 : Nat) (l0 : List (List (S86))) (A1 : Option Addr) (c1 : Nat) (l1 : List (List (S86))) (r : Bool) (w : World) (hr0 : Kd.C (Kd.slice 86 k86) w A0 l0.length l0) (hc0 : l0.length ≤ c0) (hr1 : Kd.C (Kd.slice 86 k86) w A1 l1.length l1) (hc1 : l1.length ≤ c1) (h : laws_eqVariantSS.f k l0 l1 = some r) :
  Calls Try.prog 68 #[.slice A0 l0.length c0, .slice A1 l1.length c1] w fun e w' => e = .returned (.bool r) ∧ Below w.heap.size w w' := by
 have HR0 := Aside0.mk hr0
 have HC0 := Aside0.mk hc0
 clear hr0 hc0
 have HR1 := Aside0.mk hr1
 have HC1 := Aside0.mk hc1
 clear hr1 hc1
 have HB := Aside0.mk (Below.refl w.heap.size w)
 have H := h
 clear h
 unfold laws_eqVariantSS.f at H
 by_cases c3 : (l0.length : Int) = (l1.length : Int)
 ·rw [if_pos c3] at H
  have c3b0 : ((l0.length : Int) == (l1.length : Int)) = true := beq_iff_eq.mpr c3
  have c3b1 : ((l0.length : Int) != (l1.length : Int)) = false := bne_eq_false_iff_eq.mpr c3
  have c3b2 : (l0.length == l1.length) = true := by first | simpa using c3 | (simp at c3 ⊢; omega)
  clear c3
  have H' := Aside0.mk H
  clear H
  go_enter Try.func68, Try.ntmps68
  go_wp2
  go_loopg [5] k (fun kq v5 w' => ∃ (x5_1 : Int), v5 = .int .i64 x5_1 ∧ Aside0 (laws_eqVariantSS.l0 kq l0 l1 x5_1 = some r) ∧ Aside0 (kq ≤ k) ∧ Aside0 (Below w.heap.size w w'))
  case atStart => exact ⟨(0), (by first | rfl | (simp; done) | (simp [*]; done)), H', ⟨Nat.le_refl _⟩, ⟨Z.bl HB.out⟩⟩
  case round =>
   clear H'
   try clear c1
   try clear p2
   try clear c3
   try clear c3b0
   try clear c3b1
   try clear c3b2
   obtain ⟨x5_1, rfl, HA, HK1, HB⟩ := hrel
   cases gk with
   | zero => exact absurd HA.out (by simp [laws_eqVariantSS.l0])
   | succ k1 =>
    have H := HA.out
    clear HA
    simp only [laws_eqVariantSS.l0] at H
    by_cases c4 : x5_1 < (l0.length : Int)
    ·rw [if_pos c4] at H
     have c4b0 : decide (x5_1 < (l0.length : Int)) = true := decide_eq_true c4
     clear c4
     obtain ⟨c5, H⟩ := Z.ifp H
     have c5b0 : decide (0 ≤ x5_1) = true := decide_eq_true c5
     clear c5
     obtain ⟨c6, H⟩ := Z.ifp H
     have c6b0 : decide (x5_1 < (l1.length : Int)) = true := decide_eq_true c6
     clear c6
     replace H := Option.bind_eq_some_iff.mp H
     obtain ⟨t380, A70, H⟩ := H
     try dsimp only at H
     have A7 := Aside0.mk A70
     clear A70
     by_cases c8 : t380 = true
     ·subst c8
      rw [if_pos rfl] at H
      have H' := Aside0.mk H
      clear H
      try go_wp2
      replace HB := Aside0.mk (below_drew1 HB.out)
      have p378 : 0 ≤ (x5_1 : Int) := Z.od
      have q378 : x5_1 < (l0.length : Int) := Z.od
      obtain ⟨ad378, A378_0, c378_0, rfl, hx378_0, hl378_0, hi378_0⟩ := at_L9 HR0.out x5_1 p378 q378
      have hw378_0 := hx378_0
      replace hx378_0 := Z.up HB.out hx378_0
      have HR378_0 := Aside0.mk hi378_0
      have HC378_0 := Aside0.mk hl378_0
      clear hi378_0 hl378_0
      replace p378 := eq_true p378
      replace q378 := eq_true q378
      have p379 : 0 ≤ (x5_1 : Int) := Z.od
      have q379 : x5_1 < (l1.length : Int) := Z.od
      obtain ⟨ad379, A379_0, c379_0, rfl, hx379_0, hl379_0, hi379_0⟩ := at_L9 HR1.out x5_1 p379 q379
      have hw379_0 := hx379_0
      replace hx379_0 := Z.up HB.out hx379_0
      have HR379_0 := Aside0.mk hi379_0
      have HC379_0 := Aside0.mk hl379_0
      clear hi379_0 hl379_0
      replace p379 := eq_true p379
      replace q379 := eq_true q379
      refine start_ (n := 10) (S := fun w' => w'.cell? (ad378.add (x5_1).toNat) = some (.slice A378_0 (rd_L9 l0 x5_1).length c378_0) ∧ w'.cell? (ad379.add (x5_1).toNat) = some (.slice A379_0 (rd_L9 l1 x5_1).length c379_0)) (ds := []) #[false, false, false, false, false, false, false, false, false, false] (by kernel_rfl) rfl rfl ⟨(Z.up HB.out hw378_0 :), (Z.up HB.out hw379_0 :)⟩ (fun hHeld => ?_); refine with_tabW laws_eqVariantSS.tab6 laws_eqVariantSS.bits6 (fun HT_ HW_ => ?_)
      generalize wr.drew = w9 at HB HR378_0 HR379_0 hx378_0 hx379_0 hHeld ⊢
      refine Z.pv 0 17 10 1 HT_.out ?_
      refine Z.pv 1 18 10 3 HT_.out ?_
      refine Z.pv 2 19 10 7 HT_.out ?_
      refine Z.pv 4 21 10 23 HT_.out ?_
      refine Z.pv 5 22 10 55 HT_.out ?_
      refine Z.pv 6 23 10 119 HT_.out ?_
      refine Z.t2 3 20 10 127 HT_.out HW_.out hHeld ?_
      refine Z.t2 7 24 10 255 HT_.out HW_.out hHeld ?_
      refine one_ (i := 8) (N := some 25) (Z.mb 10 511) rfl rfl (one_of HT_.out (by kernel_rfl)) (by decide) (fun K hK => ?_)
      refine goes_ Try.func106 (by kernel_rfl) rfl #[.slice A378_0 (rd_L9 l0 x5_1).length c378_0, .slice A379_0 (rd_L9 l1 x5_1).length c379_0] (by rfl) rfl rfl Z.ar ?_
      with_reducible refine (laws_eqVariantS.calls k1 _ _ (rd_L9 l0 x5_1) _ _ (rd_L9 l1 x5_1) true _ ?q1 ?q2 ?q3 ?q4 A7.out).mono ?_
      (case q1 => exact Z.cc HR378_0 HB)
      (case q2 => exact HC378_0.out)
      (case q3 => exact Z.cc HR379_0 HB)
      (case q4 => exact HC379_0.out)
      rintro e w10 ⟨rfl, hb⟩
      refine ⟨_, rfl, ?_⟩
      replace HB := Z.st (Z.bl HB.out) hb
      (try clear hb)
      (try clear hb2)
      (try clear hk)
      (try clear hi)
      refine hK.out _ _ ⟨(Z.up HB.out hw378_0 :), (Z.up HB.out hw379_0 :)⟩ (fun hHeld => ?_)
      clear hK K
      refine Z.nm ?_
      refine Z.pv 9 26 10 1023 HT_.out ?_
      refine done_ (done_of HT_.out (by kernel_rfl)) ?_
      try go_wp2
      go_roundg k1
      case measure => have := HK1.out; omega
      case rel => exact ⟨(wrap64 (x5_1 + 1)), (by first | rfl | (simp; done) | (simp [*]; done)), H', ⟨by have := HK1.out; omega⟩, ⟨Z.bl HB.out⟩⟩
     ·replace c8 := Bool.eq_false_iff.mpr c8
      subst c8
      rw [if_neg (show ¬ (false = true) by decide)] at H
      obtain rfl := Option.some.inj H
      try go_wp2
      replace HB := Aside0.mk (below_drew1 HB.out)
      have p378 : 0 ≤ (x5_1 : Int) := Z.od
      have q378 : x5_1 < (l0.length : Int) := Z.od
      obtain ⟨ad378, A378_0, c378_0, rfl, hx378_0, hl378_0, hi378_0⟩ := at_L9 HR0.out x5_1 p378 q378
      have hw378_0 := hx378_0
      replace hx378_0 := Z.up HB.out hx378_0
      have HR378_0 := Aside0.mk hi378_0
      have HC378_0 := Aside0.mk hl378_0
      clear hi378_0 hl378_0
      replace p378 := eq_true p378
      replace q378 := eq_true q378
      have p379 : 0 ≤ (x5_1 : Int) := Z.od
      have q379 : x5_1 < (l1.length : Int) := Z.od
      obtain ⟨ad379, A379_0, c379_0, rfl, hx379_0, hl379_0, hi379_0⟩ := at_L9 HR1.out x5_1 p379 q379
      have hw379_0 := hx379_0
      replace hx379_0 := Z.up HB.out hx379_0
      have HR379_0 := Aside0.mk hi379_0
      have HC379_0 := Aside0.mk hl379_0
      clear hi379_0 hl379_0
      replace p379 := eq_true p379
      replace q379 := eq_true q379
      refine start_ (n := 10) (S := fun w' => w'.cell? (ad378.add (x5_1).toNat) = some (.slice A378_0 (rd_L9 l0 x5_1).length c378_0) ∧ w'.cell? (ad379.add (x5_1).toNat) = some (.slice A379_0 (rd_L9 l1 x5_1).length c379_0)) (ds := []) #[false, false, false, false, false, false, false, false, false, false] (by kernel_rfl) rfl rfl ⟨(Z.up HB.out hw378_0 :), (Z.up HB.out hw379_0 :)⟩ (fun hHeld => ?_); refine with_tabW laws_eqVariantSS.tab6 laws_eqVariantSS.bits6 (fun HT_ HW_ => ?_)
      generalize wr.drew = w11 at HB HR378_0 HR379_0 hx378_0 hx379_0 hHeld ⊢
      refine Z.pv 0 17 10 1 HT_.out ?_
      refine Z.pv 1 18 10 3 HT_.out ?_
      refine Z.pv 2 19 10 7 HT_.out ?_
      refine Z.pv 4 21 10 23 HT_.out ?_
      refine Z.pv 5 22 10 55 HT_.out ?_
      refine Z.pv 6 23 10 119 HT_.out ?_
      refine Z.t2 3 20 10 127 HT_.out HW_.out hHeld ?_
      refine Z.t2 7 24 10 255 HT_.out HW_.out hHeld ?_
      refine one_ (i := 8) (N := some 25) (Z.mb 10 511) rfl rfl (one_of HT_.out (by kernel_rfl)) (by decide) (fun K hK => ?_)
      refine goes_ Try.func106 (by kernel_rfl) rfl #[.slice A378_0 (rd_L9 l0 x5_1).length c378_0, .slice A379_0 (rd_L9 l1 x5_1).length c379_0] (by rfl) rfl rfl Z.ar ?_
      with_reducible refine (laws_eqVariantS.calls k1 _ _ (rd_L9 l0 x5_1) _ _ (rd_L9 l1 x5_1) false _ ?q1 ?q2 ?q3 ?q4 A7.out).mono ?_
      (case q1 => exact Z.cc HR378_0 HB)
      (case q2 => exact HC378_0.out)
      (case q3 => exact Z.cc HR379_0 HB)
      (case q4 => exact HC379_0.out)
      rintro e w12 ⟨rfl, hb⟩
      refine ⟨_, rfl, ?_⟩
      replace HB := Z.st (Z.bl HB.out) hb
      (try clear hb)
      (try clear hb2)
      (try clear hk)
      (try clear hi)
      refine hK.out _ _ ⟨(Z.up HB.out hw378_0 :), (Z.up HB.out hw379_0 :)⟩ (fun hHeld => ?_)
      clear hK K
      refine Z.nm ?_
      refine Z.pv 9 26 10 1023 HT_.out ?_
      refine done_ (done_of HT_.out (by kernel_rfl)) ?_
      try go_wp2
      go_ret
      exact ⟨by first | rfl | (simp [errW_none, errW_some] <;> rfl) | (simp [*, errW_none, errW_some] <;> rfl), Z.bl HB.out⟩
    ·rw [if_neg c4] at H
     have c4b0 : decide (x5_1 < (l0.length : Int)) = false := decide_eq_false c4
     clear c4
     obtain rfl := Option.some.inj H
     go_wp2
     go_ret
     exact ⟨by first | rfl | (simp [errW_none, errW_some] <;> rfl) | (simp [*, errW_none, errW_some] <;> rfl), Z.bl HB.out⟩
 ·rw [if_neg c3] at H
  have c3b0 : ((l0.length : Int) == (l1.length : Int)) = false := beq_eq_false_iff_ne.mpr c3
  have c3b1 : ((l0.length : Int) != (l1.length : Int)) = true := bne_iff_ne.mpr c3
  have c3b2 : (l0.length == l1.length) = false := by first | simpa using c3 | (simp at c3 ⊢; omega)
  obtain rfl := Option.some.inj H
  go_enter Try.func68, Try.ntmps68
  go_wp2
  go_ret
  exact ⟨by first | rfl | (simp [errW_none, errW_some] <;> rfl) | (simp [*, errW_none, errW_some] <;> rfl), Z.bl HB.out⟩

/-! ### laws_eqCharter: function 24 -/
def laws_eqCharter.f (k : Nat) (a0_0 : Int) (l0_1 : List Int) (l0_2 : List (List (S86))) (a1_0 : Int) (l1_1 : List Int) (l1_2 : List (List (S86))) : Option (Bool) := (laws_eqHouse.f k a0_0 l0_1 a1_0 l1_1).bind fun t383 => (if t383 = true then ((laws_eqVariantSS.f k l0_2 l1_2).bind fun t384 => (if t384 = true then (some true) else (some false))) else (some false))
set_option maxHeartbeats 8000000 in
set_option maxRecDepth 100000 in
theorem laws_eqCharter.calls (k : Nat) (a0_0 : Int) (A0_1 : Option Addr) (c0_1 : Nat) (l0_1 : List Int) (A0_2 : Option Addr) (c0_2 : Nat) (l0_2 : List (List (S86))) (a1_0 : Int) (A1_1 : Option Addr) (c1_1 : Nat) (l1_1 : List Int) (A1_2 : Option Addr) (c1_2 : Nat) (l1_2 : List (List (S86))) (r : Bool) (w : World) (hr0_1 : Kd.C (Kd.int .i64) w A0_1 l0_1.length l0_1) (hc0_1 : l0_1.length ≤ c0_1) (hr0_2 : Kd.C (Kd.slice 86 k86) w A0_2 l0_2.length l0_2) (hc0_2 : l0_2.length ≤ c0_2) (hr1_1 : Kd.C (Kd.int .i64) w A1_1 l1_1.length l1_1) (hc1_1 : l1_1.length ≤ c1_1) (hr1_2 : Kd.C (Kd.slice 86 k86) w A1_2 l1_2.length l1_2) (hc1_2 : l1_2.length ≤ c1_2) (h : laws_eqCharter.f k a0_0 l0_1 l0_2 a1_0 l1_1 l1_2 = some r) :
  Calls Try.prog 24 #[.agg #[.int .i64 a0_0, .slice A0_1 l0_1.length c0_1, .slice A0_2 l0_2.length c0_2], .agg #[.int .i64 a1_0, .slice A1_1 l1_1.length c1_1, .slice A1_2 l1_2.length c1_2]] w fun e w' => e = .returned (.bool r) ∧ Below w.heap.size w w' := by
 have hu35 := Try.underlying35
 have hu32 := Try.underlying32
 have HR0_1 := Aside0.mk hr0_1
 have HC0_1 := Aside0.mk hc0_1
 clear hr0_1 hc0_1
 have HR0_2 := Aside0.mk hr0_2
 have HC0_2 := Aside0.mk hc0_2
 clear hr0_2 hc0_2
 have HR1_1 := Aside0.mk hr1_1
 have HC1_1 := Aside0.mk hc1_1
 clear hr1_1 hc1_1
 have HR1_2 := Aside0.mk hr1_2
 have HC1_2 := Aside0.mk hc1_2
 clear hr1_2 hc1_2
 have HB := Aside0.mk (Below.refl w.heap.size w)
 have H := h
 clear h
 unfold laws_eqCharter.f at H
 replace H := Option.bind_eq_some_iff.mp H
 obtain ⟨t383, A30, H⟩ := H
 try dsimp only at H
 have A3 := Aside0.mk A30
 clear A30
 by_cases c4 : t383 = true
 ·subst c4
  rw [if_pos rfl] at H
  replace H := Option.bind_eq_some_iff.mp H
  obtain ⟨t384, A50, H⟩ := H
  try dsimp only at H
  have A5 := Aside0.mk A50
  clear A50
  by_cases c6 : t384 = true
  ·subst c6
   rw [if_pos rfl] at H
   obtain rfl := Option.some.inj H
   go_enter Try.func24, Try.ntmps24
   go_wp2_with (first | ((with_reducible refine gate_dst (N := 2) rfl ?_); refine Z.bx #[.int .i64 a0_0, .slice A0_1 l0_1.length c0_1, .slice A0_2 l0_2.length c0_2] 35 HB ?_; clear HB; intro gb381 w7 BK381 GE381 HB hg hb; have GW381 := GE381; clear hb hg) | ((with_reducible refine gate_dst (N := 3) rfl ?_); refine Z.bz #[.int .i64 a1_0, .slice A1_1 l1_1.length c1_1, .slice A1_2 l1_2.length c1_2] 35 HB GE381 ?_; clear HB; intro gb382 w8 BK382 GE382 HB hg hb; have GW382 := GE382; have NB381_382 := Z.nl hg BK381; have NB382_381 := Z.ng hg BK381; replace BK381 := Z.bb BK381 hb; clear hb hg; have hnb9 := NB381_382.out; have hnc9 := NB382_381.out; have hcz10 := Z.c3 BK381.out; have hcz11 := Z.c3 BK382.out) | ((with_reducible refine gate_callee (f := 67) rfl ?_); refine goesL_ (some 9) rfl rfl Try.func67 (by kernel_rfl) rfl #[.agg #[.int .i64 a0_0, .slice A0_1 l0_1.length c0_1], .agg #[.int .i64 a1_0, .slice A1_1 l1_1.length c1_1]] rfl Z.ar ?_; (with_reducible refine (laws_eqHouse.calls k a0_0 _ _ l0_1 a1_0 _ _ l1_1 true _ ?q1 ?q2 ?q3 ?q4 A3.out).mono ?_); (case q1 => exact Z.cc HR0_1 HB); (case q2 => exact HC0_1.out); (case q3 => exact Z.cc HR1_1 HB); (case q4 => exact HC1_1.out); rintro e w12 ⟨rfl, hb⟩; refine ⟨_, rfl, ?_⟩; replace BK381 := Z.bb BK381 hb; replace BK382 := Z.bb BK382 hb; replace HB := Aside0.mk (below_step (by repeat (first | (with_reducible first | exact HB.out | apply below_alloc | apply pw_below_drewN | apply below_drew1 | refine below_set ?_ GE381.out | refine below_set ?_ GE382.out) | exact HB.out)) hb); (try clear hb); (try clear hb2); (try clear hk); (try clear hi); have hcz13 := Z.c3 BK381.out; have hcz14 := Z.c3 BK382.out) | ((with_reducible refine gate_callee (f := 68) rfl ?_); refine goesL_ (some 15) rfl rfl Try.func68 (by kernel_rfl) rfl #[.slice A0_2 l0_2.length c0_2, .slice A1_2 l1_2.length c1_2] rfl Z.ar ?_; (with_reducible refine (laws_eqVariantSS.calls k _ _ l0_2 _ _ l1_2 true _ ?q1 ?q2 ?q3 ?q4 A5.out).mono ?_); (case q1 => exact Z.cc HR0_2 HB); (case q2 => exact HC0_2.out); (case q3 => exact Z.cc HR1_2 HB); (case q4 => exact HC1_2.out); rintro e w15 ⟨rfl, hb⟩; refine ⟨_, rfl, ?_⟩; replace BK381 := Z.bb BK381 hb; replace BK382 := Z.bb BK382 hb; replace HB := Aside0.mk (below_step (by repeat (first | (with_reducible first | exact HB.out | apply below_alloc | apply pw_below_drewN | apply below_drew1 | refine below_set ?_ GE381.out | refine below_set ?_ GE382.out) | exact HB.out)) hb); (try clear hb); (try clear hb2); (try clear hk); (try clear hi)))
   go_ret
   exact ⟨by first | rfl | (simp [errW_none, errW_some] <;> rfl) | (simp [*, errW_none, errW_some] <;> rfl), by repeat (first | (with_reducible first | exact HB.out | apply below_alloc | apply pw_below_drewN | apply below_drew1 | refine below_set ?_ GE381.out | refine below_set ?_ GE382.out) | exact HB.out)⟩
  ·replace c6 := Bool.eq_false_iff.mpr c6
   subst c6
   rw [if_neg (show ¬ (false = true) by decide)] at H
   obtain rfl := Option.some.inj H
   go_enter Try.func24, Try.ntmps24
   go_wp2_with (first | ((with_reducible refine gate_dst (N := 2) rfl ?_); refine Z.bx #[.int .i64 a0_0, .slice A0_1 l0_1.length c0_1, .slice A0_2 l0_2.length c0_2] 35 HB ?_; clear HB; intro gb381 w16 BK381 GE381 HB hg hb; have GW381 := GE381; clear hb hg) | ((with_reducible refine gate_dst (N := 3) rfl ?_); refine Z.bz #[.int .i64 a1_0, .slice A1_1 l1_1.length c1_1, .slice A1_2 l1_2.length c1_2] 35 HB GE381 ?_; clear HB; intro gb382 w17 BK382 GE382 HB hg hb; have GW382 := GE382; have NB381_382 := Z.nl hg BK381; have NB382_381 := Z.ng hg BK381; replace BK381 := Z.bb BK381 hb; clear hb hg; have hnb18 := NB381_382.out; have hnc18 := NB382_381.out; have hcz19 := Z.c3 BK381.out; have hcz20 := Z.c3 BK382.out) | ((with_reducible refine gate_callee (f := 67) rfl ?_); refine goesL_ (some 9) rfl rfl Try.func67 (by kernel_rfl) rfl #[.agg #[.int .i64 a0_0, .slice A0_1 l0_1.length c0_1], .agg #[.int .i64 a1_0, .slice A1_1 l1_1.length c1_1]] rfl Z.ar ?_; (with_reducible refine (laws_eqHouse.calls k a0_0 _ _ l0_1 a1_0 _ _ l1_1 true _ ?q1 ?q2 ?q3 ?q4 A3.out).mono ?_); (case q1 => exact Z.cc HR0_1 HB); (case q2 => exact HC0_1.out); (case q3 => exact Z.cc HR1_1 HB); (case q4 => exact HC1_1.out); rintro e w21 ⟨rfl, hb⟩; refine ⟨_, rfl, ?_⟩; replace BK381 := Z.bb BK381 hb; replace BK382 := Z.bb BK382 hb; replace HB := Aside0.mk (below_step (by repeat (first | (with_reducible first | exact HB.out | apply below_alloc | apply pw_below_drewN | apply below_drew1 | refine below_set ?_ GE381.out | refine below_set ?_ GE382.out) | exact HB.out)) hb); (try clear hb); (try clear hb2); (try clear hk); (try clear hi); have hcz22 := Z.c3 BK381.out; have hcz23 := Z.c3 BK382.out) | ((with_reducible refine gate_callee (f := 68) rfl ?_); refine goesL_ (some 15) rfl rfl Try.func68 (by kernel_rfl) rfl #[.slice A0_2 l0_2.length c0_2, .slice A1_2 l1_2.length c1_2] rfl Z.ar ?_; (with_reducible refine (laws_eqVariantSS.calls k _ _ l0_2 _ _ l1_2 false _ ?q1 ?q2 ?q3 ?q4 A5.out).mono ?_); (case q1 => exact Z.cc HR0_2 HB); (case q2 => exact HC0_2.out); (case q3 => exact Z.cc HR1_2 HB); (case q4 => exact HC1_2.out); rintro e w24 ⟨rfl, hb⟩; refine ⟨_, rfl, ?_⟩; replace BK381 := Z.bb BK381 hb; replace BK382 := Z.bb BK382 hb; replace HB := Aside0.mk (below_step (by repeat (first | (with_reducible first | exact HB.out | apply below_alloc | apply pw_below_drewN | apply below_drew1 | refine below_set ?_ GE381.out | refine below_set ?_ GE382.out) | exact HB.out)) hb); (try clear hb); (try clear hb2); (try clear hk); (try clear hi)))
   go_ret
   exact ⟨by first | rfl | (simp [errW_none, errW_some] <;> rfl) | (simp [*, errW_none, errW_some] <;> rfl), by repeat (first | (with_reducible first | exact HB.out | apply below_alloc | apply pw_below_drewN | apply below_drew1 | refine below_set ?_ GE381.out | refine below_set ?_ GE382.out) | exact HB.out)⟩
 ·replace c4 := Bool.eq_false_iff.mpr c4
  subst c4
  rw [if_neg (show ¬ (false = true) by decide)] at H
  obtain rfl := Option.some.inj H
  go_enter Try.func24, Try.ntmps24
  go_wp2_with (first | ((with_reducible refine gate_dst (N := 2) rfl ?_); refine Z.bx #[.int .i64 a0_0, .slice A0_1 l0_1.length c0_1, .slice A0_2 l0_2.length c0_2] 35 HB ?_; clear HB; intro gb381 w25 BK381 GE381 HB hg hb; have GW381 := GE381; clear hb hg) | ((with_reducible refine gate_dst (N := 3) rfl ?_); refine Z.bz #[.int .i64 a1_0, .slice A1_1 l1_1.length c1_1, .slice A1_2 l1_2.length c1_2] 35 HB GE381 ?_; clear HB; intro gb382 w26 BK382 GE382 HB hg hb; have GW382 := GE382; have NB381_382 := Z.nl hg BK381; have NB382_381 := Z.ng hg BK381; replace BK381 := Z.bb BK381 hb; clear hb hg; have hnb27 := NB381_382.out; have hnc27 := NB382_381.out; have hcz28 := Z.c3 BK381.out; have hcz29 := Z.c3 BK382.out) | ((with_reducible refine gate_callee (f := 67) rfl ?_); refine goesL_ (some 9) rfl rfl Try.func67 (by kernel_rfl) rfl #[.agg #[.int .i64 a0_0, .slice A0_1 l0_1.length c0_1], .agg #[.int .i64 a1_0, .slice A1_1 l1_1.length c1_1]] rfl Z.ar ?_; (with_reducible refine (laws_eqHouse.calls k a0_0 _ _ l0_1 a1_0 _ _ l1_1 false _ ?q1 ?q2 ?q3 ?q4 A3.out).mono ?_); (case q1 => exact Z.cc HR0_1 HB); (case q2 => exact HC0_1.out); (case q3 => exact Z.cc HR1_1 HB); (case q4 => exact HC1_1.out); rintro e w30 ⟨rfl, hb⟩; refine ⟨_, rfl, ?_⟩; replace BK381 := Z.bb BK381 hb; replace BK382 := Z.bb BK382 hb; replace HB := Aside0.mk (below_step (by repeat (first | (with_reducible first | exact HB.out | apply below_alloc | apply pw_below_drewN | apply below_drew1 | refine below_set ?_ GE381.out | refine below_set ?_ GE382.out) | exact HB.out)) hb); (try clear hb); (try clear hb2); (try clear hk); (try clear hi)))
  go_ret
  exact ⟨by first | rfl | (simp [errW_none, errW_some] <;> rfl) | (simp [*, errW_none, errW_some] <;> rfl), by repeat (first | (with_reducible first | exact HB.out | apply below_alloc | apply pw_below_drewN | apply below_drew1 | refine below_set ?_ GE381.out | refine below_set ?_ GE382.out) | exact HB.out)⟩

/-! ### laws_eqAct: function 69 -/
def laws_eqAct.f (a0_0 : Int) (a0_1 : Int) (a0_2 : Int) (a1_0 : Int) (a1_1 : Int) (a1_2 : Int) : Option (Bool) := if a0_0 = a1_0 then (if a0_1 = a1_1 then (if a0_2 = a1_2 then (some true) else (some false)) else (some false)) else (some false)
end Go.Proofs.Ytcafckapdgaogaa.PAll

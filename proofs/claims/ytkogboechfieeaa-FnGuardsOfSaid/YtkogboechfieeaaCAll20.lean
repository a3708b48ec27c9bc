/- Walks of functions that laws of this seat reach, in the form of the print. -/
import Derived.Test.YtkogboechfieeaaCAll19
-- PRINTED
namespace Go.Proofs.Ytkogboechfieeaa.PAll
open Go.RowKit Go.Proofs.YtkogboechfieeaaW.PrintWords Go.Proofs.YtkogboechfieeaaW.PrintLast Go.Proofs.YtkogboechfieeaaW.PrintMore
attribute [local go_sem] max2_int min2_int max_two min_two max_three min_three max_four min_four
set_option linter.unusedVariables false
set_option linter.unusedSimpArgs false

/-! ### spec_l4Says: function 102 -/
def spec_l4Says.f : Nat → Int → List Int → List (S111) → Int → Option (Bool)
 | 0, _, _, _, _ => none
 | k + 1, a0_0, l0_1, l1, a2 => if 0 ≤ (wrap64 ((l1.length : Int) - 1)) then (if (wrap64 ((l1.length : Int) - 1)) < (l1.length : Int) then (if ((rd_T111 l1 (wrap64 ((l1.length : Int) - 1))).f0) = 0 then (if 0 ≤ ((rd_T111 l1 (wrap64 ((l1.length : Int) - 1))).f1) then (if ((rd_T111 l1 (wrap64 ((l1.length : Int) - 1))).f1) < (l0_1.length : Int) then ((spec_l1Heads.f k (Go.bits .and .i64 a2 (rd l0_1 ((rd_T111 l1 (wrap64 ((l1.length : Int) - 1))).f1)))).bind fun t93 => (some (decide (t93 ≥ ((rd_T111 l1 (wrap64 ((l1.length : Int) - 1))).f2))))) else (none)) else (none)) else ((spec_l3Starts.f k l1 (wrap64 ((wrap64 ((l1.length : Int) - 1)) - 1))).bind fun t79 => (if ((rd_T111 l1 (wrap64 ((l1.length : Int) - 1))).f0) = 2 then (if 0 ≤ t79 then (if t79 ≤ (l1.length : Int) then ((spec_l4Says.f k a0_0 l0_1 (l1.take (t79 : Int).toNat) a2).bind fun t91 => (if t91 = true then (some true) else (if t79 ≤ (wrap64 ((l1.length : Int) - 1)) then (if (wrap64 ((l1.length : Int) - 1)) ≤ (l1.length : Int) then ((spec_l4Says.f k a0_0 l0_1 ((l1.take ((wrap64 ((l1.length : Int) - 1)) : Int).toNat).drop (t79 : Int).toNat) a2).bind fun t87 => (some t87)) else (none)) else (none)))) else (none)) else (none)) else (if 0 ≤ t79 then (if t79 ≤ (l1.length : Int) then ((spec_l4Says.f k a0_0 l0_1 (l1.take (t79 : Int).toNat) a2).bind fun t92 => (if t92 = true then (if t79 ≤ (wrap64 ((l1.length : Int) - 1)) then (if (wrap64 ((l1.length : Int) - 1)) ≤ (l1.length : Int) then ((spec_l4Says.f k a0_0 l0_1 ((l1.take ((wrap64 ((l1.length : Int) - 1)) : Int).toNat).drop (t79 : Int).toNat) a2).bind fun t88 => (some t88)) else (none)) else (none)) else (some false))) else (none)) else (none))))) else (none)) else (none)
theorem spec_l4Says.mono_l : ∀ k, (∀ y0 y1 y2 y3, LeO (spec_l4Says.f k y0 y1 y2 y3) (spec_l4Says.f (k + 1) y0 y1 y2 y3))
 | 0 => fun _ _ _ _ r h => by simp [spec_l4Says.f] at h
 | k + 1 => by
  have ih0 := spec_l4Says.mono_l k
  ·intro y0 y1 y2 y3
   unfold spec_l4Says.f
   repeat' first
   | (with_reducible exact LeO.refl _)
   | exact ih0 _ _ _ _
   | exact spec_l1Heads.mono _ _
   | exact spec_l3Starts.mono _ _ _
   | exact LeO.none _
   | refine LeO.ite ?_ ?_
   | refine LeO.bind ?_ (fun _ => ?_)
theorem spec_l4Says.mono : ∀ a0 a1 a2 a3 k, LeO (spec_l4Says.f k a0 a1 a2 a3) (spec_l4Says.f (k + 1) a0 a1 a2 a3) := by
 intro a0 a1 a2 a3 k
 have ih0 := spec_l4Says.mono_l k
 exact ih0 a0 a1 a2 a3
def spec_l4Says.T3 : Bool × List (List Nat × List Nat) := (true, [([], []), ([], []), ([1], [1]), ([], []), ([], []), ([3, 4], [3, 4]), ([5], [5]), ([6], [6]), ([2, 7], [2, 7]), ([8], [8]), ([0, 9], [0, 9]), ([10], [10]), ([], []), ([], []), ([12, 13], [12, 13]), ([14], [14]), ([15], [15]), ([11, 16], [11, 16]), ([17, 11, 0, 1, 2, 3, 4, 5, 6, 7, 8, 9, 10, 11, 12, 13, 14, 15, 16, 17], [17])])
def spec_l4Says.B3 : List Nat := [0, 0, 2, 0, 0, 24, 56, 120, 254, 510, 1023, 2047, 0, 0, 12288, 28672, 61440, 131071, 262143]
theorem spec_l4Says.tab3 : rtab .any (opsOf Try.f102 3) = spec_l4Says.T3 := by kernel_rfl
theorem spec_l4Says.bits3 : waitsOk spec_l4Says.T3.2 spec_l4Says.B3 = true := by kernel_rfl
def spec_l4Says.T6 : Bool × List (List Nat × List Nat) := (true, [([], []), ([], []), ([], []), ([1, 2], [1, 2]), ([], []), ([0, 3, 4], [0, 3, 4]), ([5, 5], [5]), ([6], [6]), ([6], [6]), ([6], [6]), ([6], [6]), ([8, 9, 10, 6], [6, 8, 9, 10]), ([6], [6]), ([7, 11, 12, 6, 6], [6, 7, 11, 12]), ([6, 13], [6, 13]), ([14, 13, 0, 1, 2, 3, 4, 5, 6, 7, 8, 9, 10, 11, 12, 13, 14], [14])])
def spec_l4Says.B6 : List Nat := [0, 0, 0, 6, 0, 31, 63, 127, 127, 127, 127, 1919, 127, 8191, 16383, 32767]
theorem spec_l4Says.tab6 : rtab .any (opsOf Try.f102 6) = spec_l4Says.T6 := by kernel_rfl
theorem spec_l4Says.bits6 : waitsOk spec_l4Says.T6.2 spec_l4Says.B6 = true := by kernel_rfl
def spec_l4Says.T7 : Bool × List (List Nat × List Nat) := (true, [([], []), ([], []), ([], []), ([1, 2], [1, 2]), ([], []), ([0, 3, 4], [0, 3, 4]), ([5, 5], [5]), ([6], [6]), ([6], [6]), ([6], [6]), ([6], [6]), ([8, 9, 10, 6], [6, 8, 9, 10]), ([6], [6]), ([7, 11, 12, 6, 6], [6, 7, 11, 12]), ([6, 13], [6, 13]), ([14, 13, 0, 1, 2, 3, 4, 5, 6, 7, 8, 9, 10, 11, 12, 13, 14], [14])])
def spec_l4Says.B7 : List Nat := [0, 0, 0, 6, 0, 31, 63, 127, 127, 127, 127, 1919, 127, 8191, 16383, 32767]
theorem spec_l4Says.tab7 : rtab .any (opsOf Try.f102 7) = spec_l4Says.T7 := by kernel_rfl
theorem spec_l4Says.bits7 : waitsOk spec_l4Says.T7.2 spec_l4Says.B7 = true := by kernel_rfl
set_option maxHeartbeats 8000000 in
set_option maxRecDepth 100000 in
theorem spec_l4Says.calls (k : Nat) : ∀ (a0_0 : Int) (A0_1 : Option Addr) (c0_1 : Nat) (l0_1 : List Int) (A1 : Option Addr) (c1 : Nat) (l1 : List (S111)) (a2 : Int) (r : Bool) (w : World) (hr0_1 : Kd.C (Kd.int .i64) w A0_1 l0_1.length l0_1) (hc0_1 : l0_1.length ≤ c0_1) (hr1 : Kd.C k111 w A1 l1.length l1) (hc1 : l1.length ≤ c1) (h : spec_l4Says.f k a0_0 l0_1 l1 a2 = some r),
  Calls Try.prog 102 #[.agg #[.int .i64 a0_0, .slice A0_1 l0_1.length c0_1], .slice A1 l1.length c1, .int .i64 a2] w fun e w' => e = .returned (.bool r) ∧ Below w.heap.size w w' := by
 induction k using Nat.strongRecOn with
 | _ k ih =>
 intro a0_0 A0_1 c0_1 l0_1 A1 c1 l1 a2 r w hr0_1 hc0_1 hr1 hc1 h
 cases k with
 | zero => exact absurd h (by simp [spec_l4Says.f])
 | succ k =>
 simp only [spec_l4Says.f] at h
 have hu25 := Try.underlying25
 have HR0_1 := Z.k hr0_1
 have HC0_1 := Z.k hc0_1
 clear hr0_1 hc0_1
 have HR1 := Z.k hr1
 have HC1 := Z.k hc1
 clear hr1 hc1
 have HB := Z.k (Below.refl w.heap.size w)
 have H := h
 clear h
 obtain ⟨ji4, hji4⟩ : ∃ j_ : Int, (wrap64 ((l1.length : Int) - 1)) = j_ := ⟨_, rfl⟩
 replace H : (if 0 ≤ (ji4) then (if (ji4) < (l1.length : Int) then (if ((rd_T111 l1 (ji4)).f0) = 0 then (if 0 ≤ ((rd_T111 l1 (ji4)).f1) then (if ((rd_T111 l1 (ji4)).f1) < (l0_1.length : Int) then ((spec_l1Heads.f k (Go.bits .and .i64 a2 (rd l0_1 ((rd_T111 l1 (ji4)).f1)))).bind fun t93 => (some (decide (t93 ≥ ((rd_T111 l1 (ji4)).f2))))) else (none)) else (none)) else ((spec_l3Starts.f k l1 (wrap64 ((ji4) - 1))).bind fun t79 => (if ((rd_T111 l1 (ji4)).f0) = 2 then (if 0 ≤ t79 then (if t79 ≤ (l1.length : Int) then ((spec_l4Says.f k a0_0 l0_1 (l1.take (t79 : Int).toNat) a2).bind fun t91 => (if t91 = true then (some true) else (if t79 ≤ (ji4) then (if (ji4) ≤ (l1.length : Int) then ((spec_l4Says.f k a0_0 l0_1 ((l1.take ((ji4) : Int).toNat).drop (t79 : Int).toNat) a2).bind fun t87 => (some t87)) else (none)) else (none)))) else (none)) else (none)) else (if 0 ≤ t79 then (if t79 ≤ (l1.length : Int) then ((spec_l4Says.f k a0_0 l0_1 (l1.take (t79 : Int).toNat) a2).bind fun t92 => (if t92 = true then (if t79 ≤ (ji4) then (if (ji4) ≤ (l1.length : Int) then ((spec_l4Says.f k a0_0 l0_1 ((l1.take ((ji4) : Int).toNat).drop (t79 : Int).toNat) a2).bind fun t88 => (some t88)) else (none)) else (none)) else (some false))) else (none)) else (none))))) else (none)) else (none)) = some r := by (rw [hji4] at H; exact H)
 have hji4w : (IntKind.i64.wrap ((l1.length : Int) - 1)) = ji4 := (i64_w _).trans hji4
 obtain ⟨c5b0, H⟩ := Z.fd H
 obtain ⟨c6b0, H⟩ := Z.fd H
 by_cases c7 : ((rd_T111 l1 (ji4)).f0) = 0
 ·rw [if_pos c7] at H
  have c7b0 : (((rd_T111 l1 (ji4)).f0) == 0) = true := beq_iff_eq.mpr c7
  have c7b1 : (((rd_T111 l1 (ji4)).f0) != 0) = false := bne_eq_false_iff_eq.mpr c7
  clear c7
  obtain ⟨c8, H⟩ := Z.ifp H
  have c8b0 : decide (0 ≤ ((rd_T111 l1 (ji4)).f1)) = true := decide_eq_true c8
  clear c8
  obtain ⟨c9, H⟩ := Z.ifp H
  have c9b0 : decide (((rd_T111 l1 (ji4)).f1) < (l0_1.length : Int)) = true := decide_eq_true c9
  clear c9
  revert H; refine Z.bd ?_; rintro t93 A10 H
  obtain rfl := Option.some.inj H
  go_enter Try.func102, Try.ntmps102
  try go_wp2_with (((with_reducible refine gate_dst (N := 3) rfl ?_); refine Z.bx #[.int .i64 a0_0, .slice A0_1 l0_1.length c0_1] 25 HB ?_; clear HB; intro gb77 w11 BK77 GE77 HB hg hb; have GW77 := GE77; clear hb hg; have p76 : 0 ≤ ((ji4) : Int) := Z.od; have q76 : (ji4) < (l1.length : Int) := Z.od; obtain ⟨ad76, e76, hx76_0, hx76_1, hx76_2⟩ := at_T111 HR1.out (ji4) p76 q76; cases e76; replace hx76_0 := Z.up HB.out hx76_0; replace hx76_1 := Z.up HB.out hx76_1; replace hx76_2 := Z.up HB.out hx76_2; replace p76 := eq_true p76; replace q76 := eq_true q76))
  replace BK77 := Z.k (blk_drew BK77.out)
  replace HB := Z.k (below_drew1 HB.out)
  have p80 : (0 ≤ ((ji4) : Int)) = True := Z.oe
  have q80 : ((ji4) < (l1.length : Int)) = True := Z.oe
  obtain ⟨ad80, e80, hx80_0, hx80_1, hx80_2⟩ := at_T111 HR1.out (ji4) Z.od Z.od
  have hw80_2 := hx80_2
  have hw80_1 := hx80_1
  have hw80_0 := hx80_0
  obtain rfl : ad76 = ad80 := (by injection e80)
  replace hx80_0 := Z.up HB.out hx80_0
  replace hx80_1 := Z.up HB.out hx80_1
  replace hx80_2 := Z.up HB.out hx80_2
  have p86 : (0 ≤ (((rd_T111 l1 (ji4)).f1) : Int)) = True := Z.oe
  have q86 : (((rd_T111 l1 (ji4)).f1) < (l0_1.length : Int)) = True := Z.oe
  obtain ⟨ad86, rfl, hx86_0⟩ := Kd.at_int HR0_1.out ((rd_T111 l1 (ji4)).f1) Z.od Z.od
  have hw86_0 := hx86_0
  replace hx86_0 := Z.up HB.out hx86_0
  have p81 : (0 ≤ ((ji4) : Int)) = True := Z.oe
  have q81 : ((ji4) < (l1.length : Int)) = True := Z.oe
  obtain ⟨ad81, e81, hx81_0, hx81_1, hx81_2⟩ := at_T111 HR1.out (ji4) Z.od Z.od
  have hw81_2 := hx81_2
  have hw81_1 := hx81_1
  have hw81_0 := hx81_0
  obtain rfl : ad76 = ad81 := (by injection e81)
  replace hx81_0 := Z.up HB.out hx81_0
  replace hx81_1 := Z.up HB.out hx81_1
  replace hx81_2 := Z.up HB.out hx81_2
  refine start_ (n := 19) (S := fun w' => w'.cell? ⟨gb77, 0, none⟩ = some (.int .i64 a0_0) ∧ w'.cell? ⟨gb77, 1, none⟩ = some (.slice (some ad86) l0_1.length c0_1) ∧ w'.cell? (ad76.add (((ji4)).toNat * 3)) = some (.int .i64 ((rd_T111 l1 (ji4)).f0)) ∧ w'.cell? ⟨(ad76.add (((ji4)).toNat * 3)).block, (ad76.add (((ji4)).toNat * 3)).off + 1, none⟩ = some (.int .i64 ((rd_T111 l1 (ji4)).f1)) ∧ w'.cell? ⟨(ad76.add (((ji4)).toNat * 3)).block, (ad76.add (((ji4)).toNat * 3)).off + 2, none⟩ = some (.int .i64 ((rd_T111 l1 (ji4)).f2)) ∧ w'.cell? (ad86.add (((rd_T111 l1 (ji4)).f1)).toNat) = some (.int .i64 (rd l0_1 ((rd_T111 l1 (ji4)).f1))) ∧ w'.cell? (ad76.add (((ji4)).toNat * 3)) = some (.int .i64 ((rd_T111 l1 (ji4)).f0)) ∧ w'.cell? ⟨(ad76.add (((ji4)).toNat * 3)).block, (ad76.add (((ji4)).toNat * 3)).off + 1, none⟩ = some (.int .i64 ((rd_T111 l1 (ji4)).f1)) ∧ w'.cell? ⟨(ad76.add (((ji4)).toNat * 3)).block, (ad76.add (((ji4)).toNat * 3)).off + 2, none⟩ = some (.int .i64 ((rd_T111 l1 (ji4)).f2))) (ds := []) (Z.mb 19 0) (by kernel_rfl) rfl rfl ⟨Z.b BK77 0, Z.b BK77 1, (Z.up HB.out hw80_0 :), (Z.up HB.out hw80_1 :), (Z.up HB.out hw80_2 :), (Z.up HB.out hw86_0 :), (Z.up HB.out hw81_0 :), (Z.up HB.out hw81_1 :), (Z.up HB.out hw81_2 :)⟩ (fun hHeld => ?_); refine with_tabW spec_l4Says.tab3 spec_l4Says.bits3 (fun HT_ HW_ => ?_)
  generalize w11.drew = w12 at BK77 HB hx80_0 hx80_1 hx80_2 hx86_0 hx81_0 hx81_1 hx81_2 hHeld ⊢
  refine Z.pv 0 18 19 1 HT_.out ?_
  refine Z.pv 1 19 19 3 HT_.out ?_
  refine Z.pv 3 21 19 11 HT_.out ?_
  refine Z.pv 4 22 19 27 HT_.out ?_
  refine Z.pv 5 23 19 59 HT_.out ?_
  refine Z.pv 6 24 19 123 HT_.out ?_
  refine Z.pv 12 30 19 4219 HT_.out ?_
  refine Z.pv 13 31 19 12411 HT_.out ?_
  refine Z.pv 14 32 19 28795 HT_.out ?_
  refine Z.pv 15 33 19 61563 HT_.out ?_
  refine Z.t9 2 20 19 61567 HT_.out HW_.out hHeld ?_
  refine Z.t9 7 25 19 61695 HT_.out HW_.out hHeld ?_
  refine Z.pv 8 26 19 61951 HT_.out ?_
  refine Z.t9 9 27 19 62463 HT_.out HW_.out hHeld ?_
  refine Z.pv 10 28 19 63487 HT_.out ?_
  refine Z.t9 16 34 19 129023 HT_.out HW_.out hHeld ?_
  refine one_ (i := 11) (N := some 29) (Z.mb 19 131071) rfl rfl (one_of HT_.out (by kernel_rfl)) (by decide) (fun K hK => ?_)
  refine goes_ Try.func108 (by kernel_rfl) rfl #[.int .i64 (Go.bits .and .i64 a2 (rd l0_1 ((rd_T111 l1 (ji4)).f1)))] (by rfl) rfl rfl (by (try simp only [List.map_toArray, List.map_cons, List.map_nil]); rfl) ?_
  with_reducible refine (spec_l1Heads.calls k (Go.bits .and .i64 a2 (rd l0_1 ((rd_T111 l1 (ji4)).f1))) t93 _ A10.out).mono ?_
  rintro e w' ⟨rfl, ⟨nd, rfl⟩⟩
  refine ⟨_, rfl, ?_⟩
  refine hK.out _ _ ⟨Z.b BK77 0, Z.b BK77 1, (Z.up HB.out hw80_0 :), (Z.up HB.out hw80_1 :), (Z.up HB.out hw80_2 :), (Z.up HB.out hw86_0 :), (Z.up HB.out hw81_0 :), (Z.up HB.out hw81_1 :), (Z.up HB.out hw81_2 :)⟩ (fun hHeld => ?_)
  clear hK K
  refine Z.nm ?_
  refine Z.pv 17 35 19 262143 HT_.out ?_
  refine Z.pv 18 6 19 524287 HT_.out ?_
  refine done_ (done_of HT_.out (by kernel_rfl)) ?_
  try go_wp2
  go_ret
  exact ⟨by rfl, Z.bs HB.out GE77.out⟩
 rw [if_neg c7] at H
 have c7b0 : (((rd_T111 l1 (ji4)).f0) == 0) = false := beq_eq_false_iff_ne.mpr c7
 have c7b1 : (((rd_T111 l1 (ji4)).f0) != 0) = true := bne_iff_ne.mpr c7
 revert H; refine Z.bd ?_; rintro t79 A13 H
 by_cases c14 : ((rd_T111 l1 (ji4)).f0) = 2
 ·rw [if_pos c14] at H
  have c14b0 : (((rd_T111 l1 (ji4)).f0) == 2) = true := beq_iff_eq.mpr c14
  have c14b1 : (((rd_T111 l1 (ji4)).f0) != 2) = false := bne_eq_false_iff_eq.mpr c14
  clear c14
  obtain ⟨c15, H⟩ := Z.ifp H
  have c15b0 := eq_true c15
  have c15b1 : decide (0 ≤ t79) = true := decide_eq_true c15
  clear c15
  obtain ⟨c16, H⟩ := Z.ifp H
  have c16b0 := eq_true c16
  have c16b1 : decide (t79 ≤ (l1.length : Int)) = true := decide_eq_true c16
  clear c16
  obtain ⟨y82, hy82⟩ : ∃ y_ : List (S111), y_ = (l1.take (t79 : Int).toNat) := ⟨_, rfl⟩
  replace H : ((spec_l4Says.f k a0_0 l0_1 y82 a2).bind fun t91 => (if t91 = true then (some true) else (if t79 ≤ (ji4) then (if (ji4) ≤ (l1.length : Int) then ((spec_l4Says.f k a0_0 l0_1 ((l1.take ((ji4) : Int).toNat).drop (t79 : Int).toNat) a2).bind fun t87 => (some t87)) else (none)) else (none)))) = some r := by (rw [hy82]; with_reducible exact H)
  have Ny82 := Z.k hy82
  clear hy82
  revert H; refine Z.bd ?_; rintro t91 A17 H
  by_cases c18 : t91 = true
  ·subst c18
   rw [if_pos rfl] at H
   obtain rfl := Option.some.inj H
   go_enter Try.func102, Try.ntmps102
   try go_wp2_with (first | ((with_reducible refine gate_dst (N := 3) rfl ?_); refine Z.bx #[.int .i64 a0_0, .slice A0_1 l0_1.length c0_1] 25 HB ?_; clear HB; intro gb77 w19 BK77 GE77 HB hg hb; have GW77 := GE77; clear hb hg; have p76 : 0 ≤ ((ji4) : Int) := Z.od; have q76 : (ji4) < (l1.length : Int) := Z.od; obtain ⟨ad76, e76, hx76_0, hx76_1, hx76_2⟩ := at_T111 HR1.out (ji4) p76 q76; cases e76; replace hx76_0 := Z.up HB.out hx76_0; replace hx76_1 := Z.up HB.out hx76_1; replace hx76_2 := Z.up HB.out hx76_2; replace p76 := eq_true p76; replace q76 := eq_true q76) | ((with_reducible refine gate_callee (f := 117) rfl ?_); refine goesL_ (some 39) rfl rfl Try.func117 (by kernel_rfl) rfl #[.slice (some ad76) l1.length c1, .int .i64 (wrap64 ((ji4) - 1))] rfl (by (try simp only [List.map_toArray, List.map_cons, List.map_nil]); rfl) ?_; (with_reducible refine (spec_l3Starts.calls k _ _ l1 (wrap64 ((ji4) - 1)) t79 _ ?q1 ?q2 A13.out).mono ?_); (case q1 => exact Z.cc HR1 HB); (case q2 => exact HC1.out); rintro e w' ⟨rfl, ⟨nd, rfl⟩⟩; refine ⟨_, rfl, ?_⟩; have p78 : 0 ≤ ((ji4) : Int) := Z.od; have q78 : (ji4) < (l1.length : Int) := Z.od; obtain ⟨ad78, e78, hx78_0, hx78_1, hx78_2⟩ := at_T111 HR1.out (ji4) p78 q78; obtain rfl : ad76 = ad78 := (by injection e78); replace hx78_0 := Z.up HB.out hx78_0; replace hx78_1 := Z.up HB.out hx78_1; replace hx78_2 := Z.up HB.out hx78_2; replace p78 := eq_true p78; replace q78 := eq_true q78))
   (try (rw [drewN_self w19]; generalize hq_ : World.drewN w19 _ = w19; replace BK77 : Aside0 (w19.heap[gb77]? = some (.cells #[.int .i64 a0_0, .slice A0_1 l0_1.length c0_1] 25 (0, 0))) := ⟨by rw [← hq_]; exact (Z.bk BK77.out)⟩; replace HB : Aside0 (Below w.heap.size w w19) := ⟨by rw [← hq_]; exact (Z.bs HB.out GE77.out)⟩; clear hq_))
   replace BK77 := Z.k (blk_drew BK77.out)
   replace HB := Z.k (below_drew1 HB.out)
   have q21 : (t79 : Int) ≤ ((l1.length : Int) : Int) := Z.od
   obtain ⟨i021, hi98, _, hsz21, _⟩ := info_parts info111
   have hroom21 : l1.length ≤ c1 := HC1.out
   have hC21 : Kd.C k111 _ (some ad76) l1.length l1 := HR1.out
   have hcut21 := cut_to (P := Try.prog) 35 111 .i64 Try.underlying35 hi98 (some ad76) l1.length c1 t79 (Z.od) q21 hroom21
   have hr21 := Kd.C_take (m := (t79 : Int).toNat) hC21 (by omega)
   have hy21 : y82.length = (t79 : Int).toNat := (by rw [Ny82.out, List.length_take]; omega)
   rw [← Ny82.out] at hr21
   rw [← hy21] at hcut21
   have HR89 := Z.k hr21
   have HC89 := Z.k (show y82.length ≤ c1 from by omega)
   clear hr21 hC21 hroom21 hi98 hsz21
   have KY21 := Z.k hy21
   clear hy21
   replace q21 := eq_true q21
   refine start_ (n := 16) (S := fun w' => w'.cell? ⟨gb77, 0, none⟩ = some (.int .i64 a0_0) ∧ w'.cell? ⟨gb77, 1, none⟩ = some (.slice A0_1 l0_1.length c0_1)) (ds := []) (Z.mb 16 0) (by kernel_rfl) rfl rfl ⟨Z.b BK77 0, Z.b BK77 1⟩ (fun hHeld => ?_); refine with_tabW spec_l4Says.tab6 spec_l4Says.bits6 (fun HT_ HW_ => ?_)
   generalize w19.drew = w20 at BK77 HB HR89 hHeld ⊢
   refine Z.pv 1 47 16 2 HT_.out ?_
   refine Z.pv 2 48 16 6 HT_.out ?_
   refine Z.pv 3 49 16 14 HT_.out ?_
   refine Z.pv 4 50 16 30 HT_.out ?_
   refine Z.t2 0 46 16 31 HT_.out HW_.out hHeld ?_
   refine one_ (i := 5) (N := some 51) (Z.mb 16 63) rfl rfl (one_of HT_.out (by kernel_rfl)) (by decide) (fun K hK => ?_)
   refine goes_ Try.func102 (by kernel_rfl) rfl #[.agg #[.int .i64 a0_0, .slice A0_1 l0_1.length c0_1], .slice (some ad76) y82.length c1, .int .i64 a2] (by rfl) rfl rfl Z.ar ?_
   with_reducible refine (ih k (by omega) a0_0 _ _ l0_1 _ _ y82 a2 true _ ?q1 ?q2 ?q3 ?q4 A17.out).mono ?_
   (case q1 => exact Z.cc HR0_1 HB)
   (case q2 => exact HC0_1.out)
   (case q3 => exact Z.cc HR89 HB)
   (case q4 => exact HC89.out)
   rintro e w22 ⟨rfl, hb⟩
   refine ⟨_, rfl, ?_⟩
   replace BK77 := Z.bb BK77 hb
   replace HB := Z.st (Z.bs HB.out GE77.out) hb
   (try clear hb)
   refine hK.out _ _ ⟨Z.b BK77 0, Z.b BK77 1⟩ (fun hHeld => ?_)
   clear hK K
   refine Z.nm ?_
   refine Z.pv 6 52 16 127 HT_.out ?_
   refine Z.pu 7 53 16 255 HT_.out ?_
   refine Z.pu 8 54 16 511 HT_.out ?_
   refine Z.pu 9 55 16 1023 HT_.out ?_
   refine Z.pu 10 56 16 2047 HT_.out ?_
   refine Z.pu 11 57 16 4095 HT_.out ?_
   refine Z.pu 12 58 16 8191 HT_.out ?_
   refine Z.pu 13 59 16 16383 HT_.out ?_
   refine Z.pv 14 60 16 32767 HT_.out ?_
   refine Z.pv 15 6 16 65535 HT_.out ?_
   refine done_ (done_of HT_.out (by kernel_rfl)) ?_
   try go_wp2
   go_ret
   exact ⟨by rfl, Z.bs HB.out GE77.out⟩
  replace c18 := Bool.eq_false_iff.mpr c18
  subst c18
  rw [if_neg (show ¬ (false = true) by decide)] at H
  have c23b0 := eq_true (Z.od : 0 ≤ t79)
  obtain ⟨c24, H⟩ := Z.ifp H
  have c24b0 := eq_true c24
  have c24b1 : decide (t79 ≤ (ji4)) = true := decide_eq_true c24
  clear c24
  obtain ⟨c25, H⟩ := Z.ifp H
  have c25b0 := eq_true c25
  have c25b1 : decide ((ji4) ≤ (l1.length : Int)) = true := decide_eq_true c25
  clear c25
  obtain ⟨y84, hy84⟩ : ∃ y_ : List (S111), y_ = ((l1.take ((ji4) : Int).toNat).drop (t79 : Int).toNat) := ⟨_, rfl⟩
  replace H : ((spec_l4Says.f k a0_0 l0_1 y84 a2).bind fun t87 => (some t87)) = some r := by (rw [hy84]; with_reducible exact H)
  have Ny84 := Z.k hy84
  clear hy84
  revert H; refine Z.bd ?_; rintro t87 A26 H
  obtain rfl := Option.some.inj H
  go_enter Try.func102, Try.ntmps102
  try go_wp2_with (first | ((with_reducible refine gate_dst (N := 3) rfl ?_); refine Z.bx #[.int .i64 a0_0, .slice A0_1 l0_1.length c0_1] 25 HB ?_; clear HB; intro gb77 w27 BK77 GE77 HB hg hb; have GW77 := GE77; clear hb hg; have p76 : 0 ≤ ((ji4) : Int) := Z.od; have q76 : (ji4) < (l1.length : Int) := Z.od; obtain ⟨ad76, e76, hx76_0, hx76_1, hx76_2⟩ := at_T111 HR1.out (ji4) p76 q76; cases e76; replace hx76_0 := Z.up HB.out hx76_0; replace hx76_1 := Z.up HB.out hx76_1; replace hx76_2 := Z.up HB.out hx76_2; replace p76 := eq_true p76; replace q76 := eq_true q76) | ((with_reducible refine gate_callee (f := 117) rfl ?_); refine goesL_ (some 39) rfl rfl Try.func117 (by kernel_rfl) rfl #[.slice (some ad76) l1.length c1, .int .i64 (wrap64 ((ji4) - 1))] rfl (by (try simp only [List.map_toArray, List.map_cons, List.map_nil]); rfl) ?_; (with_reducible refine (spec_l3Starts.calls k _ _ l1 (wrap64 ((ji4) - 1)) t79 _ ?q1 ?q2 A13.out).mono ?_); (case q1 => exact Z.cc HR1 HB); (case q2 => exact HC1.out); rintro e w' ⟨rfl, ⟨nd, rfl⟩⟩; refine ⟨_, rfl, ?_⟩; have p78 : 0 ≤ ((ji4) : Int) := Z.od; have q78 : (ji4) < (l1.length : Int) := Z.od; obtain ⟨ad78, e78, hx78_0, hx78_1, hx78_2⟩ := at_T111 HR1.out (ji4) p78 q78; obtain rfl : ad76 = ad78 := (by injection e78); replace hx78_0 := Z.up HB.out hx78_0; replace hx78_1 := Z.up HB.out hx78_1; replace hx78_2 := Z.up HB.out hx78_2; replace p78 := eq_true p78; replace q78 := eq_true q78))
  (try (rw [drewN_self w27]; generalize hq_ : World.drewN w27 _ = w27; replace BK77 : Aside0 (w27.heap[gb77]? = some (.cells #[.int .i64 a0_0, .slice A0_1 l0_1.length c0_1] 25 (0, 0))) := ⟨by rw [← hq_]; exact (Z.bk BK77.out)⟩; replace HB : Aside0 (Below w.heap.size w w27) := ⟨by rw [← hq_]; exact (Z.bs HB.out GE77.out)⟩; clear hq_))
  replace BK77 := Z.k (blk_drew BK77.out)
  replace HB := Z.k (below_drew1 HB.out)
  have q29 : (t79 : Int) ≤ ((l1.length : Int) : Int) := Z.od
  obtain ⟨i029, hi99, _, hsz29, _⟩ := info_parts info111
  have hroom29 : l1.length ≤ c1 := HC1.out
  have hC29 : Kd.C k111 _ (some ad76) l1.length l1 := HR1.out
  have hcut29 := cut_to (P := Try.prog) 35 111 .i64 Try.underlying35 hi99 (some ad76) l1.length c1 t79 (Z.od) q29 hroom29
  have hr29 := Kd.C_take (m := (t79 : Int).toNat) hC29 (by omega)
  have hy29 : y82.length = (t79 : Int).toNat := (by rw [Ny82.out, List.length_take]; omega)
  rw [← Ny82.out] at hr29
  rw [← hy29] at hcut29
  have HR89 := Z.k hr29
  have HC89 := Z.k (show y82.length ≤ c1 from by omega)
  clear hr29 hC29 hroom29 hi99 hsz29
  have KY29 := Z.k hy29
  clear hy29
  replace q29 := eq_true q29
  refine start_ (n := 16) (S := fun w' => w'.cell? ⟨gb77, 0, none⟩ = some (.int .i64 a0_0) ∧ w'.cell? ⟨gb77, 1, none⟩ = some (.slice A0_1 l0_1.length c0_1)) (ds := []) (Z.mb 16 0) (by kernel_rfl) rfl rfl ⟨Z.b BK77 0, Z.b BK77 1⟩ (fun hHeld => ?_); refine with_tabW spec_l4Says.tab6 spec_l4Says.bits6 (fun HT_ HW_ => ?_)
  generalize w27.drew = w28 at BK77 HB HR89 hHeld ⊢
  refine Z.pv 1 47 16 2 HT_.out ?_
  refine Z.pv 2 48 16 6 HT_.out ?_
  refine Z.pv 3 49 16 14 HT_.out ?_
  refine Z.pv 4 50 16 30 HT_.out ?_
  refine Z.t2 0 46 16 31 HT_.out HW_.out hHeld ?_
  refine one_ (i := 5) (N := some 51) (Z.mb 16 63) rfl rfl (one_of HT_.out (by kernel_rfl)) (by decide) (fun K hK => ?_)
  refine goes_ Try.func102 (by kernel_rfl) rfl #[.agg #[.int .i64 a0_0, .slice A0_1 l0_1.length c0_1], .slice (some ad76) y82.length c1, .int .i64 a2] (by rfl) rfl rfl Z.ar ?_
  with_reducible refine (ih k (by omega) a0_0 _ _ l0_1 _ _ y82 a2 false _ ?q1 ?q2 ?q3 ?q4 A17.out).mono ?_
  (case q1 => exact Z.cc HR0_1 HB)
  (case q2 => exact HC0_1.out)
  (case q3 => exact Z.cc HR89 HB)
  (case q4 => exact HC89.out)
  rintro e w30 ⟨rfl, hb⟩
  refine ⟨_, rfl, ?_⟩
  replace BK77 := Z.bb BK77 hb
  replace HB := Z.st (Z.bs HB.out GE77.out) hb
  (try clear hb)
  have q31 : ((ji4) : Int) ≤ ((l1.length : Int) : Int) := Z.od
  obtain ⟨i031, hi94, _, hsz31, _⟩ := info_parts info111
  have hroom31 : l1.length ≤ c1 := HC1.out
  have hC31 : Kd.C k111 _ (some ad76) l1.length l1 := HR1.out
  have ql31 : (t79 : Int) ≤ ((ji4) : Int) := Z.od
  have q94 : (0 : Int) ≤ (t79 : Int) := Z.od
  have hcut31 := cut_mid (P := Try.prog) 35 111 .i64 .i64 Try.underlying35 hi94 3 hsz31 (some ad76) l1.length c1 t79 (ji4) q94 ql31 q31 hroom31
  have hr31 := Kd.C_mid (lo := (t79 : Int).toNat) (hi := ((ji4) : Int).toNat) (c := c1) hC31 (by omega) (by omega) hroom31
  obtain ⟨A31, hA31⟩ : ∃ A1, A1 = (if c1 = (t79 : Int).toNat then (some ad76) else ((some ad76) : Option Addr).map (·.add ((t79 : Int).toNat * 3))) := ⟨_, rfl⟩
  obtain ⟨c31, hc31⟩ : ∃ c_, c_ = c1 - (t79 : Int).toNat := ⟨_, rfl⟩
  have hy31 : y84.length = ((ji4) : Int).toNat - (t79 : Int).toNat := (by rw [Ny84.out, List.length_drop, List.length_take] <;> omega)
  rw [show ((l1).take ((ji4) : Int).toNat).drop (t79 : Int).toNat = y84 from Ny84.out.symm] at hr31
  replace hr31 : Kd.C k111 _ A31 y84.length y84 := (by rw [hA31]; exact hr31)
  rw [← hy31, ← hA31, ← hc31] at hcut31
  have HR96 := Z.k hr31
  have HC96 := Z.k (show y84.length ≤ c31 from by rw [hy31, hc31]; exact Nat.sub_le_sub_right (Nat.le_trans (by omega) hroom31) _)
  clear hr31 hC31 hroom31 hi94 hsz31 hc31
  have KY31 := Z.k hy31
  have KA31 := Z.k hA31
  clear hy31 hA31
  replace q31 := eq_true q31
  refine hK.out _ _ ⟨Z.b BK77 0, Z.b BK77 1⟩ (fun hHeld => ?_)
  clear hK K
  refine Z.nm ?_
  refine Z.pv 6 52 16 127 HT_.out ?_
  refine Z.pv 8 54 16 383 HT_.out ?_
  refine Z.pv 9 55 16 895 HT_.out ?_
  refine Z.pv 10 56 16 1919 HT_.out ?_
  refine Z.pv 11 57 16 3967 HT_.out ?_
  refine Z.pv 12 58 16 8063 HT_.out ?_
  refine Z.t2 7 53 16 8191 HT_.out HW_.out hHeld ?_
  refine one_ (i := 13) (N := some 59) (Z.mb 16 16383) rfl rfl (one_of HT_.out (by kernel_rfl)) (by decide) (fun K hK => ?_)
  refine goes_ Try.func102 (by kernel_rfl) rfl #[.agg #[.int .i64 a0_0, .slice A0_1 l0_1.length c0_1], .slice A31 y84.length c31, .int .i64 a2] (by rfl) rfl rfl Z.ar ?_
  with_reducible refine (ih k (by omega) a0_0 _ _ l0_1 _ _ y84 a2 t87 _ ?q1 ?q2 ?q3 ?q4 A26.out).mono ?_
  (case q1 => exact Z.cc HR0_1 HB)
  (case q2 => exact HC0_1.out)
  (case q3 => exact Z.cc HR96 HB)
  (case q4 => exact HC96.out)
  rintro e w32 ⟨rfl, hb⟩
  refine ⟨_, rfl, ?_⟩
  replace BK77 := Z.bb BK77 hb
  replace HB := Z.st (Z.bs HB.out GE77.out) hb
  (try clear hb)
  refine hK.out _ _ ⟨Z.b BK77 0, Z.b BK77 1⟩ (fun hHeld => ?_)
  clear hK K
  refine Z.nm ?_
  refine Z.pv 14 60 16 32767 HT_.out ?_
  refine Z.pv 15 6 16 65535 HT_.out ?_
  refine done_ (done_of HT_.out (by kernel_rfl)) ?_
  try go_wp2
  go_ret
  exact ⟨by rfl, Z.bs HB.out GE77.out⟩
 rw [if_neg c14] at H
 have c14b0 : (((rd_T111 l1 (ji4)).f0) == 2) = false := beq_eq_false_iff_ne.mpr c14
 have c14b1 : (((rd_T111 l1 (ji4)).f0) != 2) = true := bne_iff_ne.mpr c14
 obtain ⟨c33, H⟩ := Z.ifp H
 have c33b0 := eq_true c33
 have c33b1 : decide (0 ≤ t79) = true := decide_eq_true c33
 clear c33
 obtain ⟨c34, H⟩ := Z.ifp H
 have c34b0 := eq_true c34
 have c34b1 : decide (t79 ≤ (l1.length : Int)) = true := decide_eq_true c34
 clear c34
 obtain ⟨y83, hy83⟩ : ∃ y_ : List (S111), y_ = (l1.take (t79 : Int).toNat) := ⟨_, rfl⟩
 replace H : ((spec_l4Says.f k a0_0 l0_1 y83 a2).bind fun t92 => (if t92 = true then (if t79 ≤ (ji4) then (if (ji4) ≤ (l1.length : Int) then ((spec_l4Says.f k a0_0 l0_1 ((l1.take ((ji4) : Int).toNat).drop (t79 : Int).toNat) a2).bind fun t88 => (some t88)) else (none)) else (none)) else (some false))) = some r := by (rw [hy83]; with_reducible exact H)
 have Ny83 := Z.k hy83
 clear hy83
 revert H; refine Z.bd ?_; rintro t92 A35 H
 by_cases c36 : t92 = true
 rotate_left
 ·replace c36 := Bool.eq_false_iff.mpr c36
  subst c36
  rw [if_neg (show ¬ (false = true) by decide)] at H
  obtain rfl := Option.some.inj H
  go_enter Try.func102, Try.ntmps102
  try go_wp2_with (first | ((with_reducible refine gate_dst (N := 3) rfl ?_); refine Z.bx #[.int .i64 a0_0, .slice A0_1 l0_1.length c0_1] 25 HB ?_; clear HB; intro gb77 w47 BK77 GE77 HB hg hb; have GW77 := GE77; clear hb hg; have p76 : 0 ≤ ((ji4) : Int) := Z.od; have q76 : (ji4) < (l1.length : Int) := Z.od; obtain ⟨ad76, e76, hx76_0, hx76_1, hx76_2⟩ := at_T111 HR1.out (ji4) p76 q76; cases e76; replace hx76_0 := Z.up HB.out hx76_0; replace hx76_1 := Z.up HB.out hx76_1; replace hx76_2 := Z.up HB.out hx76_2; replace p76 := eq_true p76; replace q76 := eq_true q76) | ((with_reducible refine gate_callee (f := 117) rfl ?_); refine goesL_ (some 39) rfl rfl Try.func117 (by kernel_rfl) rfl #[.slice (some ad76) l1.length c1, .int .i64 (wrap64 ((ji4) - 1))] rfl (by (try simp only [List.map_toArray, List.map_cons, List.map_nil]); rfl) ?_; (with_reducible refine (spec_l3Starts.calls k _ _ l1 (wrap64 ((ji4) - 1)) t79 _ ?q1 ?q2 A13.out).mono ?_); (case q1 => exact Z.cc HR1 HB); (case q2 => exact HC1.out); rintro e w' ⟨rfl, ⟨nd, rfl⟩⟩; refine ⟨_, rfl, ?_⟩; have p78 : 0 ≤ ((ji4) : Int) := Z.od; have q78 : (ji4) < (l1.length : Int) := Z.od; obtain ⟨ad78, e78, hx78_0, hx78_1, hx78_2⟩ := at_T111 HR1.out (ji4) p78 q78; obtain rfl : ad76 = ad78 := (by injection e78); replace hx78_0 := Z.up HB.out hx78_0; replace hx78_1 := Z.up HB.out hx78_1; replace hx78_2 := Z.up HB.out hx78_2; replace p78 := eq_true p78; replace q78 := eq_true q78))
  (try (rw [drewN_self w47]; generalize hq_ : World.drewN w47 _ = w47; replace BK77 : Aside0 (w47.heap[gb77]? = some (.cells #[.int .i64 a0_0, .slice A0_1 l0_1.length c0_1] 25 (0, 0))) := ⟨by rw [← hq_]; exact (Z.bk BK77.out)⟩; replace HB : Aside0 (Below w.heap.size w w47) := ⟨by rw [← hq_]; exact (Z.bs HB.out GE77.out)⟩; clear hq_))
  replace BK77 := Z.k (blk_drew BK77.out)
  replace HB := Z.k (below_drew1 HB.out)
  have q49 : (t79 : Int) ≤ ((l1.length : Int) : Int) := Z.od
  obtain ⟨i049, hi049, _, hsz49, _⟩ := info_parts info111
  have hroom49 : l1.length ≤ c1 := HC1.out
  have hC49 : Kd.C k111 _ (some ad76) l1.length l1 := HR1.out
  have hcut49 := cut_to (P := Try.prog) 35 111 .i64 Try.underlying35 hi049 (some ad76) l1.length c1 t79 (Z.od) q49 hroom49
  have hr49 := Kd.C_take (m := (t79 : Int).toNat) hC49 (by omega)
  have hy49 : y83.length = (t79 : Int).toNat := (by rw [Ny83.out, List.length_take]; omega)
  rw [← Ny83.out] at hr49
  rw [← hy49] at hcut49
  have HR90 := Z.k hr49
  have HC90 := Z.k (show y83.length ≤ c1 from by omega)
  clear hr49 hC49 hroom49 hi049 hsz49
  have KY49 := Z.k hy49
  clear hy49
  replace q49 := eq_true q49
  refine start_ (n := 16) (S := fun w' => w'.cell? ⟨gb77, 0, none⟩ = some (.int .i64 a0_0) ∧ w'.cell? ⟨gb77, 1, none⟩ = some (.slice A0_1 l0_1.length c0_1)) (ds := []) (Z.mb 16 0) (by kernel_rfl) rfl rfl ⟨Z.b BK77 0, Z.b BK77 1⟩ (fun hHeld => ?_); refine with_tabW spec_l4Says.tab7 spec_l4Says.bits7 (fun HT_ HW_ => ?_)
  generalize w47.drew = w48 at BK77 HB HR90 hHeld ⊢
  refine Z.pv 1 62 16 2 HT_.out ?_
  refine Z.pv 2 63 16 6 HT_.out ?_
  refine Z.pv 3 64 16 14 HT_.out ?_
  refine Z.pv 4 65 16 30 HT_.out ?_
  refine Z.t2 0 61 16 31 HT_.out HW_.out hHeld ?_
  refine one_ (i := 5) (N := some 66) (Z.mb 16 63) rfl rfl (one_of HT_.out (by kernel_rfl)) (by decide) (fun K hK => ?_)
  refine goes_ Try.func102 (by kernel_rfl) rfl #[.agg #[.int .i64 a0_0, .slice A0_1 l0_1.length c0_1], .slice (some ad76) y83.length c1, .int .i64 a2] (by rfl) rfl rfl Z.ar ?_
  with_reducible refine (ih k (by omega) a0_0 _ _ l0_1 _ _ y83 a2 false _ ?q1 ?q2 ?q3 ?q4 A35.out).mono ?_
  (case q1 => exact Z.cc HR0_1 HB)
  (case q2 => exact HC0_1.out)
  (case q3 => exact Z.cc HR90 HB)
  (case q4 => exact HC90.out)
  rintro e w50 ⟨rfl, hb⟩
  refine ⟨_, rfl, ?_⟩
  replace BK77 := Z.bb BK77 hb
  replace HB := Z.st (Z.bs HB.out GE77.out) hb
  (try clear hb)
  refine hK.out _ _ ⟨Z.b BK77 0, Z.b BK77 1⟩ (fun hHeld => ?_)
  clear hK K
  refine Z.nm ?_
  refine Z.pv 6 67 16 127 HT_.out ?_
  refine Z.pu 7 68 16 255 HT_.out ?_
  refine Z.pu 8 69 16 511 HT_.out ?_
  refine Z.pu 9 70 16 1023 HT_.out ?_
  refine Z.pu 10 71 16 2047 HT_.out ?_
  refine Z.pu 11 72 16 4095 HT_.out ?_
  refine Z.pu 12 73 16 8191 HT_.out ?_
  refine Z.pu 13 74 16 16383 HT_.out ?_
  refine Z.pv 14 75 16 32767 HT_.out ?_
  refine Z.pv 15 6 16 65535 HT_.out ?_
  refine done_ (done_of HT_.out (by kernel_rfl)) ?_
  try go_wp2
  go_ret
  exact ⟨by rfl, Z.bs HB.out GE77.out⟩

 subst c36
 rw [if_pos rfl] at H
 have c37b0 := eq_true (Z.od : 0 ≤ t79)
 obtain ⟨c38, H⟩ := Z.ifp H
 have c38b0 := eq_true c38
 have c38b1 : decide (t79 ≤ (ji4)) = true := decide_eq_true c38
 clear c38
 obtain ⟨c39, H⟩ := Z.ifp H
 have c39b0 := eq_true c39
 have c39b1 : decide ((ji4) ≤ (l1.length : Int)) = true := decide_eq_true c39
 clear c39
 obtain ⟨y85, hy85⟩ : ∃ y_ : List (S111), y_ = ((l1.take ((ji4) : Int).toNat).drop (t79 : Int).toNat) := ⟨_, rfl⟩
 replace H : ((spec_l4Says.f k a0_0 l0_1 y85 a2).bind fun t88 => (some t88)) = some r := by (rw [hy85]; with_reducible exact H)
 have Ny85 := Z.k hy85
 clear hy85
 revert H; refine Z.bd ?_; rintro t88 A40 H
 obtain rfl := Option.some.inj H
 go_enter Try.func102, Try.ntmps102
 try go_wp2_with (first | ((with_reducible refine gate_dst (N := 3) rfl ?_); refine Z.bx #[.int .i64 a0_0, .slice A0_1 l0_1.length c0_1] 25 HB ?_; clear HB; intro gb77 w41 BK77 GE77 HB hg hb; have GW77 := GE77; clear hb hg; have p76 : 0 ≤ ((ji4) : Int) := Z.od; have q76 : (ji4) < (l1.length : Int) := Z.od; obtain ⟨ad76, e76, hx76_0, hx76_1, hx76_2⟩ := at_T111 HR1.out (ji4) p76 q76; cases e76; replace hx76_0 := Z.up HB.out hx76_0; replace hx76_1 := Z.up HB.out hx76_1; replace hx76_2 := Z.up HB.out hx76_2; replace p76 := eq_true p76; replace q76 := eq_true q76) | ((with_reducible refine gate_callee (f := 117) rfl ?_); refine goesL_ (some 39) rfl rfl Try.func117 (by kernel_rfl) rfl #[.slice (some ad76) l1.length c1, .int .i64 (wrap64 ((ji4) - 1))] rfl (by (try simp only [List.map_toArray, List.map_cons, List.map_nil]); rfl) ?_; (with_reducible refine (spec_l3Starts.calls k _ _ l1 (wrap64 ((ji4) - 1)) t79 _ ?q1 ?q2 A13.out).mono ?_); (case q1 => exact Z.cc HR1 HB); (case q2 => exact HC1.out); rintro e w' ⟨rfl, ⟨nd, rfl⟩⟩; refine ⟨_, rfl, ?_⟩; have p78 : 0 ≤ ((ji4) : Int) := Z.od; have q78 : (ji4) < (l1.length : Int) := Z.od; obtain ⟨ad78, e78, hx78_0, hx78_1, hx78_2⟩ := at_T111 HR1.out (ji4) p78 q78; obtain rfl : ad76 = ad78 := (by injection e78); replace hx78_0 := Z.up HB.out hx78_0; replace hx78_1 := Z.up HB.out hx78_1; replace hx78_2 := Z.up HB.out hx78_2; replace p78 := eq_true p78; replace q78 := eq_true q78))
 (try (rw [drewN_self w41]; generalize hq_ : World.drewN w41 _ = w41; replace BK77 : Aside0 (w41.heap[gb77]? = some (.cells #[.int .i64 a0_0, .slice A0_1 l0_1.length c0_1] 25 (0, 0))) := ⟨by rw [← hq_]; exact (Z.bk BK77.out)⟩; replace HB : Aside0 (Below w.heap.size w w41) := ⟨by rw [← hq_]; exact (Z.bs HB.out GE77.out)⟩; clear hq_))
 replace BK77 := Z.k (blk_drew BK77.out)
 replace HB := Z.k (below_drew1 HB.out)
 have q43 : (t79 : Int) ≤ ((l1.length : Int) : Int) := Z.od
 obtain ⟨i043, hi043, _, hsz43, _⟩ := info_parts info111
 have hroom43 : l1.length ≤ c1 := HC1.out
 have hC43 : Kd.C k111 _ (some ad76) l1.length l1 := HR1.out
 have hcut43 := cut_to (P := Try.prog) 35 111 .i64 Try.underlying35 hi043 (some ad76) l1.length c1 t79 (Z.od) q43 hroom43
 have hr43 := Kd.C_take (m := (t79 : Int).toNat) hC43 (by omega)
 have hy43 : y83.length = (t79 : Int).toNat := (by rw [Ny83.out, List.length_take]; omega)
 rw [← Ny83.out] at hr43
 rw [← hy43] at hcut43
 have HR90 := Z.k hr43
 have HC90 := Z.k (show y83.length ≤ c1 from by omega)
 clear hr43 hC43 hroom43 hi043 hsz43
 have KY43 := Z.k hy43
 clear hy43
 replace q43 := eq_true q43
 refine start_ (n := 16) (S := fun w' => w'.cell? ⟨gb77, 0, none⟩ = some (.int .i64 a0_0) ∧ w'.cell? ⟨gb77, 1, none⟩ = some (.slice A0_1 l0_1.length c0_1)) (ds := []) (Z.mb 16 0) (by kernel_rfl) rfl rfl ⟨Z.b BK77 0, Z.b BK77 1⟩ (fun hHeld => ?_); refine with_tabW spec_l4Says.tab7 spec_l4Says.bits7 (fun HT_ HW_ => ?_)
 generalize w41.drew = w42 at BK77 HB HR90 hHeld ⊢
 refine Z.pv 1 62 16 2 HT_.out ?_
 refine Z.pv 2 63 16 6 HT_.out ?_
 refine Z.pv 3 64 16 14 HT_.out ?_
 refine Z.pv 4 65 16 30 HT_.out ?_
 refine Z.t2 0 61 16 31 HT_.out HW_.out hHeld ?_
 refine one_ (i := 5) (N := some 66) (Z.mb 16 63) rfl rfl (one_of HT_.out (by kernel_rfl)) (by decide) (fun K hK => ?_)
 refine goes_ Try.func102 (by kernel_rfl) rfl #[.agg #[.int .i64 a0_0, .slice A0_1 l0_1.length c0_1], .slice (some ad76) y83.length c1, .int .i64 a2] (by rfl) rfl rfl Z.ar ?_
 with_reducible refine (ih k (by omega) a0_0 _ _ l0_1 _ _ y83 a2 true _ ?q1 ?q2 ?q3 ?q4 A35.out).mono ?_
 (case q1 => exact Z.cc HR0_1 HB)
 (case q2 => exact HC0_1.out)
 (case q3 => exact Z.cc HR90 HB)
 (case q4 => exact HC90.out)
 rintro e w44 ⟨rfl, hb⟩
 refine ⟨_, rfl, ?_⟩
 replace BK77 := Z.bb BK77 hb
 replace HB := Z.st (Z.bs HB.out GE77.out) hb
 (try clear hb)
 have q45 : ((ji4) : Int) ≤ ((l1.length : Int) : Int) := Z.od
 obtain ⟨i045, hi95, _, hsz45, _⟩ := info_parts info111
 have hroom45 : l1.length ≤ c1 := HC1.out
 have hC45 : Kd.C k111 _ (some ad76) l1.length l1 := HR1.out
 have ql45 : (t79 : Int) ≤ ((ji4) : Int) := Z.od
 have q95 : (0 : Int) ≤ (t79 : Int) := Z.od
 have hcut45 := cut_mid (P := Try.prog) 35 111 .i64 .i64 Try.underlying35 hi95 3 hsz45 (some ad76) l1.length c1 t79 (ji4) q95 ql45 q45 hroom45
 have hr45 := Kd.C_mid (lo := (t79 : Int).toNat) (hi := ((ji4) : Int).toNat) (c := c1) hC45 (by omega) (by omega) hroom45
 obtain ⟨A45, hA45⟩ : ∃ A1, A1 = (if c1 = (t79 : Int).toNat then (some ad76) else ((some ad76) : Option Addr).map (·.add ((t79 : Int).toNat * 3))) := ⟨_, rfl⟩
 obtain ⟨c45, hc45⟩ : ∃ c_, c_ = c1 - (t79 : Int).toNat := ⟨_, rfl⟩
 have hy45 : y85.length = ((ji4) : Int).toNat - (t79 : Int).toNat := (by rw [Ny85.out, List.length_drop, List.length_take] <;> omega)
 rw [show ((l1).take ((ji4) : Int).toNat).drop (t79 : Int).toNat = y85 from Ny85.out.symm] at hr45
 replace hr45 : Kd.C k111 _ A45 y85.length y85 := (by rw [hA45]; exact hr45)
 rw [← hy45, ← hA45, ← hc45] at hcut45
 have HR97 := Z.k hr45
 have HC97 := Z.k (show y85.length ≤ c45 from by rw [hy45, hc45]; exact Nat.sub_le_sub_right (Nat.le_trans (by omega) hroom45) _)
 clear hr45 hC45 hroom45 hi95 hsz45 hc45
 have KY45 := Z.k hy45
 have KA45 := Z.k hA45
 clear hy45 hA45
 replace q45 := eq_true q45
 refine hK.out _ _ ⟨Z.b BK77 0, Z.b BK77 1⟩ (fun hHeld => ?_)
 clear hK K
 refine Z.nm ?_
 refine Z.pv 6 67 16 127 HT_.out ?_
 refine Z.pv 8 69 16 383 HT_.out ?_
 refine Z.pv 9 70 16 895 HT_.out ?_
 refine Z.pv 10 71 16 1919 HT_.out ?_
 refine Z.pv 11 72 16 3967 HT_.out ?_
 refine Z.pv 12 73 16 8063 HT_.out ?_
 refine Z.t2 7 68 16 8191 HT_.out HW_.out hHeld ?_
 refine one_ (i := 13) (N := some 74) (Z.mb 16 16383) rfl rfl (one_of HT_.out (by kernel_rfl)) (by decide) (fun K hK => ?_)
 refine goes_ Try.func102 (by kernel_rfl) rfl #[.agg #[.int .i64 a0_0, .slice A0_1 l0_1.length c0_1], .slice A45 y85.length c45, .int .i64 a2] (by rfl) rfl rfl Z.ar ?_
 with_reducible refine (ih k (by omega) a0_0 _ _ l0_1 _ _ y85 a2 t88 _ ?q1 ?q2 ?q3 ?q4 A40.out).mono ?_
 (case q1 => exact Z.cc HR0_1 HB)
 (case q2 => exact HC0_1.out)
 (case q3 => exact Z.cc HR97 HB)
 (case q4 => exact HC97.out)
 rintro e w46 ⟨rfl, hb⟩
 refine ⟨_, rfl, ?_⟩
 replace BK77 := Z.bb BK77 hb
 replace HB := Z.st (Z.bs HB.out GE77.out) hb
 (try clear hb)
 refine hK.out _ _ ⟨Z.b BK77 0, Z.b BK77 1⟩ (fun hHeld => ?_)
 clear hK K
 refine Z.nm ?_
 refine Z.pv 14 75 16 32767 HT_.out ?_
 refine Z.pv 15 6 16 65535 HT_.out ?_
 refine done_ (done_of HT_.out (by kernel_rfl)) ?_
 try go_wp2
 go_ret
 exact ⟨by rfl, Z.bs HB.out GE77.out⟩
end Go.Proofs.Ytkogboechfieeaa.PAll

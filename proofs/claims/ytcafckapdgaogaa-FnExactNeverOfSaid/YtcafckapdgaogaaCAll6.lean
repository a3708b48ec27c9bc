/- Walks of functions that All reaches, in the form of the print. -/
-- PRINTED
import Derived.Test.YtcafckapdgaogaaCAll5
namespace Go.Proofs.Ytcafckapdgaogaa.PAll
open Go.RowKit Go.Proofs.YtcafckapdgaogaaW.PrintWords Go.Proofs.YtcafckapdgaogaaW.PrintLast Go.Proofs.YtcafckapdgaogaaW.PrintMore
attribute [local go_sem] max2_int min2_int max_two min_two max_three min_three max_four min_four
set_option linter.unusedVariables false
set_option linter.unusedSimpArgs false

/-! ### spec_l4Says: function 125 -/
def spec_l4Says.f : Nat → Int → List Int → List (S134) → Int → Option (Bool)
 | 0, _, _, _, _ => none
 | k + 1, a0_0, l0_1, l1, a2 => if 0 ≤ (wrap64 ((l1.length : Int) - 1)) then (if (wrap64 ((l1.length : Int) - 1)) < (l1.length : Int) then (if ((rd_T134 l1 (wrap64 ((l1.length : Int) - 1))).f0) = 0 then (if 0 ≤ ((rd_T134 l1 (wrap64 ((l1.length : Int) - 1))).f1) then (if ((rd_T134 l1 (wrap64 ((l1.length : Int) - 1))).f1) < (l0_1.length : Int) then ((spec_l1Heads.f k (Go.bits .and .i64 a2 (rd l0_1 ((rd_T134 l1 (wrap64 ((l1.length : Int) - 1))).f1)))).bind fun t154 => (some (decide (t154 ≥ ((rd_T134 l1 (wrap64 ((l1.length : Int) - 1))).f2))))) else (none)) else (none)) else ((spec_l3Starts.f k l1 (wrap64 ((wrap64 ((l1.length : Int) - 1)) - 1))).bind fun t156 => (if ((rd_T134 l1 (wrap64 ((l1.length : Int) - 1))).f0) = 2 then (if 0 ≤ t156 then (if t156 ≤ (l1.length : Int) then ((spec_l4Says.f k a0_0 l0_1 (l1.take (t156 : Int).toNat) a2).bind fun t162 => (if t162 = true then (some true) else (if t156 ≤ (wrap64 ((l1.length : Int) - 1)) then (if (wrap64 ((l1.length : Int) - 1)) ≤ (l1.length : Int) then ((spec_l4Says.f k a0_0 l0_1 ((l1.take ((wrap64 ((l1.length : Int) - 1)) : Int).toNat).drop (t156 : Int).toNat) a2).bind fun t167 => (some t167)) else (none)) else (none)))) else (none)) else (none)) else (if 0 ≤ t156 then (if t156 ≤ (l1.length : Int) then ((spec_l4Says.f k a0_0 l0_1 (l1.take (t156 : Int).toNat) a2).bind fun t172 => (if t172 = true then (if t156 ≤ (wrap64 ((l1.length : Int) - 1)) then (if (wrap64 ((l1.length : Int) - 1)) ≤ (l1.length : Int) then ((spec_l4Says.f k a0_0 l0_1 ((l1.take ((wrap64 ((l1.length : Int) - 1)) : Int).toNat).drop (t156 : Int).toNat) a2).bind fun t177 => (some t177)) else (none)) else (none)) else (some false))) else (none)) else (none))))) else (none)) else (none)
theorem spec_l4Says.mono_l : ∀ k, (∀ y0 y1 y2 y3, LeO (spec_l4Says.f k y0 y1 y2 y3) (spec_l4Says.f (k + 1) y0 y1 y2 y3))
 | 0 => fun _ _ _ _ r h => by simp [spec_l4Says.f] at h
 | k + 1 => by
  have ih0 := spec_l4Says.mono_l k
  ·intro y0 y1 y2 y3
   unfold spec_l4Says.f
   repeat' first
   | (with_reducible exact LeO.refl _)
   | exact ih0 _ _ _ _
   | exact spec_l1Heads.mono _ _
   | exact spec_l3Starts.mono _ _ _
   | exact LeO.none _
   | refine LeO.ite ?_ ?_
   | refine LeO.bind ?_ (fun _ => ?_)
theorem spec_l4Says.mono : ∀ a0 a1 a2 a3 k, LeO (spec_l4Says.f k a0 a1 a2 a3) (spec_l4Says.f (k + 1) a0 a1 a2 a3) := by
 intro a0 a1 a2 a3 k
 have ih0 := spec_l4Says.mono_l k
 exact ih0 a0 a1 a2 a3
def spec_l4Says.T3 : Bool × List (List Nat × List Nat) := (true, [([], []), ([], []), ([1], [1]), ([], []), ([], []), ([3, 4], [3, 4]), ([5], [5]), ([6], [6]), ([2, 7], [2, 7]), ([8], [8]), ([0, 9], [0, 9]), ([10], [10]), ([], []), ([], []), ([12, 13], [12, 13]), ([14], [14]), ([15], [15]), ([11, 16], [11, 16]), ([17, 11, 0, 1, 2, 3, 4, 5, 6, 7, 8, 9, 10, 11, 12, 13, 14, 15, 16, 17], [17])])
def spec_l4Says.B3 : List Nat := [0, 0, 2, 0, 0, 24, 56, 120, 254, 510, 1023, 2047, 0, 0, 12288, 28672, 61440, 131071, 262143]
theorem spec_l4Says.tab3 : rtab .any (opsOf Try.f125 3) = spec_l4Says.T3 := by kernel_rfl
theorem spec_l4Says.bits3 : waitsOk spec_l4Says.T3.2 spec_l4Says.B3 = true := by kernel_rfl
def spec_l4Says.T6 : Bool × List (List Nat × List Nat) := (true, [([], []), ([], []), ([], []), ([1, 2], [1, 2]), ([], []), ([0, 3, 4], [0, 3, 4]), ([5, 5], [5]), ([6], [6]), ([6], [6]), ([6], [6]), ([6], [6]), ([8, 9, 10, 6], [6, 8, 9, 10]), ([6], [6]), ([7, 11, 12, 6, 6], [6, 7, 11, 12]), ([6, 13], [6, 13]), ([14, 13, 0, 1, 2, 3, 4, 5, 6, 7, 8, 9, 10, 11, 12, 13, 14], [14])])
def spec_l4Says.B6 : List Nat := [0, 0, 0, 6, 0, 31, 63, 127, 127, 127, 127, 1919, 127, 8191, 16383, 32767]
theorem spec_l4Says.tab6 : rtab .any (opsOf Try.f125 6) = spec_l4Says.T6 := by kernel_rfl
theorem spec_l4Says.bits6 : waitsOk spec_l4Says.T6.2 spec_l4Says.B6 = true := by kernel_rfl
def spec_l4Says.T7 : Bool × List (List Nat × List Nat) := (true, [([], []), ([], []), ([], []), ([1, 2], [1, 2]), ([], []), ([0, 3, 4], [0, 3, 4]), ([5, 5], [5]), ([6], [6]), ([6], [6]), ([6], [6]), ([6], [6]), ([8, 9, 10, 6], [6, 8, 9, 10]), ([6], [6]), ([7, 11, 12, 6, 6], [6, 7, 11, 12]), ([6, 13], [6, 13]), ([14, 13, 0, 1, 2, 3, 4, 5, 6, 7, 8, 9, 10, 11, 12, 13, 14], [14])])
def spec_l4Says.B7 : List Nat := [0, 0, 0, 6, 0, 31, 63, 127, 127, 127, 127, 1919, 127, 8191, 16383, 32767]
theorem spec_l4Says.tab7 : rtab .any (opsOf Try.f125 7) = spec_l4Says.T7 := by kernel_rfl
theorem spec_l4Says.bits7 : waitsOk spec_l4Says.T7.2 spec_l4Says.B7 = true := by kernel_rfl
set_option maxHeartbeats 8000000 in
set_option maxRecDepth 100000 in
theorem spec_l4Says.calls (k : Nat) : ∀ (a0_0 : Int) (A0_1 : Option Addr) (c0_1 : Nat) (l0_1 : List Int) (A1 : Option Addr) (c1 : Nat) (l1 : List (S134)) (a2 : Int) (r : Bool) (w : World) (hr0_1 : Kd.C (Kd.int .i64) w A0_1 l0_1.length l0_1) (hc0_1 : l0_1.length ≤ c0_1) (hr1 : Kd.C k134 w A1 l1.length l1) (hc1 : l1.length ≤ c1) (h : spec_l4Says.f k a0_0 l0_1 l1 a2 = some r),
  Calls Try.prog 125 #[.agg #[.int .i64 a0_0, .slice A0_1 l0_1.length c0_1], .slice A1 l1.length c1, .int .i64 a2] w fun e w' => e = .returned (.bool r) ∧ Below w.heap.size w w' := by
 induction k using Nat.strongRecOn with
 | _ k ih =>
 intro a0_0 A0_1 c0_1 l0_1 A1 c1 l1 a2 r w hr0_1 hc0_1 hr1 hc1 h
 cases k with
 | zero => exact absurd h (by simp [spec_l4Says.f])
 | succ k =>
 simp only [spec_l4Says.f] at h
 have hu32 := Try.underlying32
 have HR0_1 := Aside0.mk hr0_1
 have HC0_1 := Aside0.mk hc0_1
 clear hr0_1 hc0_1
 have HR1 := Aside0.mk hr1
 have HC1 := Aside0.mk hc1
 clear hr1 hc1
 have HB := Aside0.mk (Below.refl w.heap.size w)
 have H := h
 clear h
 obtain ⟨ji4, hji4⟩ : ∃ j_ : Int, (wrap64 ((l1.length : Int) - 1)) = j_ := ⟨_, rfl⟩
 replace H : (if 0 ≤ (ji4) then (if (ji4) < (l1.length : Int) then (if ((rd_T134 l1 (ji4)).f0) = 0 then (if 0 ≤ ((rd_T134 l1 (ji4)).f1) then (if ((rd_T134 l1 (ji4)).f1) < (l0_1.length : Int) then ((spec_l1Heads.f k (Go.bits .and .i64 a2 (rd l0_1 ((rd_T134 l1 (ji4)).f1)))).bind fun t154 => (some (decide (t154 ≥ ((rd_T134 l1 (ji4)).f2))))) else (none)) else (none)) else ((spec_l3Starts.f k l1 (wrap64 ((ji4) - 1))).bind fun t156 => (if ((rd_T134 l1 (ji4)).f0) = 2 then (if 0 ≤ t156 then (if t156 ≤ (l1.length : Int) then ((spec_l4Says.f k a0_0 l0_1 (l1.take (t156 : Int).toNat) a2).bind fun t162 => (if t162 = true then (some true) else (if t156 ≤ (ji4) then (if (ji4) ≤ (l1.length : Int) then ((spec_l4Says.f k a0_0 l0_1 ((l1.take ((ji4) : Int).toNat).drop (t156 : Int).toNat) a2).bind fun t167 => (some t167)) else (none)) else (none)))) else (none)) else (none)) else (if 0 ≤ t156 then (if t156 ≤ (l1.length : Int) then ((spec_l4Says.f k a0_0 l0_1 (l1.take (t156 : Int).toNat) a2).bind fun t172 => (if t172 = true then (if t156 ≤ (ji4) then (if (ji4) ≤ (l1.length : Int) then ((spec_l4Says.f k a0_0 l0_1 ((l1.take ((ji4) : Int).toNat).drop (t156 : Int).toNat) a2).bind fun t177 => (some t177)) else (none)) else (none)) else (some false))) else (none)) else (none))))) else (none)) else (none)) = some r := by (rw [hji4] at H; exact H)
 have hji4w : (IntKind.i64.wrap ((l1.length : Int) - 1)) = ji4 := (i64_w _).trans hji4
 obtain ⟨c5, H⟩ := Z.ifp H
 have c5b0 : decide (0 ≤ (ji4)) = true := decide_eq_true c5
 clear c5
 obtain ⟨c6, H⟩ := Z.ifp H
 have c6b0 : decide ((ji4) < (l1.length : Int)) = true := decide_eq_true c6
 clear c6
 by_cases c7 : ((rd_T134 l1 (ji4)).f0) = 0
 ·rw [if_pos c7] at H
  have c7b0 : (((rd_T134 l1 (ji4)).f0) == 0) = true := beq_iff_eq.mpr c7
  have c7b1 : (((rd_T134 l1 (ji4)).f0) != 0) = false := bne_eq_false_iff_eq.mpr c7
  clear c7
  obtain ⟨c8, H⟩ := Z.ifp H
  have c8b0 : decide (0 ≤ ((rd_T134 l1 (ji4)).f1)) = true := decide_eq_true c8
  clear c8
  obtain ⟨c9, H⟩ := Z.ifp H
  have c9b0 : decide (((rd_T134 l1 (ji4)).f1) < (l0_1.length : Int)) = true := decide_eq_true c9
  clear c9
  replace H := Option.bind_eq_some_iff.mp H
  obtain ⟨t154, A100, H⟩ := H
  have A10 := Aside0.mk A100
  clear A100
  obtain rfl := Option.some.inj H
  go_enter Try.func125, Try.ntmps125
  try go_wp2_with (((with_reducible refine gate_dst (N := 3) rfl ?_); refine Z.bx #[.int .i64 a0_0, .slice A0_1 l0_1.length c0_1] 32 HB ?_; clear HB; intro gb150 w11 BK150 GE150 HB hg hb; have GW150 := GE150; clear hb hg; have p151 : 0 ≤ ((ji4) : Int) := Z.od; have q151 : (ji4) < (l1.length : Int) := Z.od; obtain ⟨ad151, e151, hx151_0, hx151_1, hx151_2⟩ := at_T134 HR1.out (ji4) p151 q151; cases e151; replace hx151_0 := Z.up HB.out hx151_0; replace hx151_1 := Z.up HB.out hx151_1; replace hx151_2 := Z.up HB.out hx151_2; replace p151 := eq_true p151; replace q151 := eq_true q151))
  replace BK150 := Aside0.mk (blk_drew BK150.out)
  replace HB := Aside0.mk (below_drew1 HB.out)
  have p152 : 0 ≤ ((ji4) : Int) := Z.od
  have q152 : (ji4) < (l1.length : Int) := Z.od
  obtain ⟨ad152, e152, hx152_0, hx152_1, hx152_2⟩ := at_T134 HR1.out (ji4) p152 q152
  have hw152_2 := hx152_2
  have hw152_1 := hx152_1
  have hw152_0 := hx152_0
  obtain rfl : ad151 = ad152 := (by injection e152)
  replace hx152_0 := Z.up HB.out hx152_0
  replace hx152_1 := Z.up HB.out hx152_1
  replace hx152_2 := Z.up HB.out hx152_2
  replace p152 := eq_true p152
  replace q152 := eq_true q152
  have p153 : 0 ≤ (((rd_T134 l1 (ji4)).f1) : Int) := Z.od
  have q153 : ((rd_T134 l1 (ji4)).f1) < (l0_1.length : Int) := Z.od
  obtain ⟨ad153, rfl, hx153_0⟩ := Kd.at_int HR0_1.out ((rd_T134 l1 (ji4)).f1) p153 q153
  have hw153_0 := hx153_0
  replace hx153_0 := Z.up HB.out hx153_0
  replace p153 := eq_true p153
  replace q153 := eq_true q153
  have p155 : 0 ≤ ((ji4) : Int) := Z.od
  have q155 : (ji4) < (l1.length : Int) := Z.od
  obtain ⟨ad155, e155, hx155_0, hx155_1, hx155_2⟩ := at_T134 HR1.out (ji4) p155 q155
  have hw155_2 := hx155_2
  have hw155_1 := hx155_1
  have hw155_0 := hx155_0
  obtain rfl : ad151 = ad155 := (by injection e155)
  replace hx155_0 := Z.up HB.out hx155_0
  replace hx155_1 := Z.up HB.out hx155_1
  replace hx155_2 := Z.up HB.out hx155_2
  replace p155 := eq_true p155
  replace q155 := eq_true q155
  refine start_ (n := 19) (S := fun w' => w'.cell? ⟨gb150, 0, none⟩ = some (.int .i64 a0_0) ∧ w'.cell? ⟨gb150, 1, none⟩ = some (.slice (some ad153) l0_1.length c0_1) ∧ w'.cell? (ad151.add (((ji4)).toNat * 3)) = some (.int .i64 ((rd_T134 l1 (ji4)).f0)) ∧ w'.cell? ⟨(ad151.add (((ji4)).toNat * 3)).block, (ad151.add (((ji4)).toNat * 3)).off + 1, none⟩ = some (.int .i64 ((rd_T134 l1 (ji4)).f1)) ∧ w'.cell? ⟨(ad151.add (((ji4)).toNat * 3)).block, (ad151.add (((ji4)).toNat * 3)).off + 2, none⟩ = some (.int .i64 ((rd_T134 l1 (ji4)).f2)) ∧ w'.cell? (ad153.add (((rd_T134 l1 (ji4)).f1)).toNat) = some (.int .i64 (rd l0_1 ((rd_T134 l1 (ji4)).f1))) ∧ w'.cell? (ad151.add (((ji4)).toNat * 3)) = some (.int .i64 ((rd_T134 l1 (ji4)).f0)) ∧ w'.cell? ⟨(ad151.add (((ji4)).toNat * 3)).block, (ad151.add (((ji4)).toNat * 3)).off + 1, none⟩ = some (.int .i64 ((rd_T134 l1 (ji4)).f1)) ∧ w'.cell? ⟨(ad151.add (((ji4)).toNat * 3)).block, (ad151.add (((ji4)).toNat * 3)).off + 2, none⟩ = some (.int .i64 ((rd_T134 l1 (ji4)).f2))) (ds := []) #[false, false, false, false, false, false, false, false, false, false, false, false, false, false, false, false, false, false, false] (by kernel_rfl) rfl rfl ⟨(blk_cell BK150.out 0).trans rfl, (blk_cell BK150.out 1).trans rfl, (Z.up HB.out hw152_0 :), (Z.up HB.out hw152_1 :), (Z.up HB.out hw152_2 :), (Z.up HB.out hw153_0 :), (Z.up HB.out hw155_0 :), (Z.up HB.out hw155_1 :), (Z.up HB.out hw155_2 :)⟩ (fun hHeld => ?_); refine with_tabW spec_l4Says.tab3 spec_l4Says.bits3 (fun HT_ HW_ => ?_)
  generalize w11.drew = w12 at BK150 HB hx152_0 hx152_1 hx152_2 hx153_0 hx155_0 hx155_1 hx155_2 hHeld ⊢
  refine Z.pv 0 18 19 1 HT_.out ?_
  refine Z.pv 1 19 19 3 HT_.out ?_
  refine Z.pv 3 21 19 11 HT_.out ?_
  refine Z.pv 4 22 19 27 HT_.out ?_
  refine Z.pv 5 23 19 59 HT_.out ?_
  refine Z.pv 6 24 19 123 HT_.out ?_
  refine Z.pv 12 30 19 4219 HT_.out ?_
  refine Z.pv 13 31 19 12411 HT_.out ?_
  refine Z.pv 14 32 19 28795 HT_.out ?_
  refine Z.pv 15 33 19 61563 HT_.out ?_
  refine Z.t9 2 20 19 61567 HT_.out HW_.out hHeld ?_
  refine Z.t9 7 25 19 61695 HT_.out HW_.out hHeld ?_
  refine Z.pv 8 26 19 61951 HT_.out ?_
  refine Z.t9 9 27 19 62463 HT_.out HW_.out hHeld ?_
  refine Z.pv 10 28 19 63487 HT_.out ?_
  refine Z.t9 16 34 19 129023 HT_.out HW_.out hHeld ?_
  refine one_ (i := 11) (N := some 29) (Z.mb 19 131071) rfl rfl (one_of HT_.out (by kernel_rfl)) (by decide) (fun K hK => ?_)
  refine goes_ Try.func130 (by kernel_rfl) rfl #[.int .i64 (Go.bits .and .i64 a2 (rd l0_1 ((rd_T134 l1 (ji4)).f1)))] (by rfl) rfl rfl (by (try simp only [List.map_toArray, List.map_cons, List.map_nil]); rfl) ?_
  with_reducible refine (spec_l1Heads.calls k (Go.bits .and .i64 a2 (rd l0_1 ((rd_T134 l1 (ji4)).f1))) t154 _ A10.out).mono ?_
  rintro e w' ⟨rfl, ⟨nd, rfl⟩⟩
  refine ⟨_, rfl, ?_⟩
  refine hK.out _ _ ⟨(blk_cell BK150.out 0).trans rfl, (blk_cell BK150.out 1).trans rfl, (Z.up HB.out hw152_0 :), (Z.up HB.out hw152_1 :), (Z.up HB.out hw152_2 :), (Z.up HB.out hw153_0 :), (Z.up HB.out hw155_0 :), (Z.up HB.out hw155_1 :), (Z.up HB.out hw155_2 :)⟩ (fun hHeld => ?_)
  clear hK K
  refine Z.nm ?_
  refine Z.pv 17 35 19 262143 HT_.out ?_
  refine Z.pv 18 6 19 524287 HT_.out ?_
  refine done_ (done_of HT_.out (by kernel_rfl)) ?_
  try go_wp2
  go_ret
  exact ⟨by rfl, Z.bs HB.out GE150.out⟩
 ·rw [if_neg c7] at H
  have c7b0 : (((rd_T134 l1 (ji4)).f0) == 0) = false := beq_eq_false_iff_ne.mpr c7
  have c7b1 : (((rd_T134 l1 (ji4)).f0) != 0) = true := bne_iff_ne.mpr c7
  replace H := Option.bind_eq_some_iff.mp H
  obtain ⟨t156, A130, H⟩ := H
  have A13 := Aside0.mk A130
  clear A130
  by_cases c14 : ((rd_T134 l1 (ji4)).f0) = 2
  ·rw [if_pos c14] at H
   have c14b0 : (((rd_T134 l1 (ji4)).f0) == 2) = true := beq_iff_eq.mpr c14
   have c14b1 : (((rd_T134 l1 (ji4)).f0) != 2) = false := bne_eq_false_iff_eq.mpr c14
   clear c14
   obtain ⟨c15, H⟩ := Z.ifp H
   have c15b0 := eq_true c15
   have c15b1 : decide (0 ≤ t156) = true := decide_eq_true c15
   clear c15
   obtain ⟨c16, H⟩ := Z.ifp H
   have c16b0 := eq_true c16
   have c16b1 : decide (t156 ≤ (l1.length : Int)) = true := decide_eq_true c16
   clear c16
   obtain ⟨y158, hy158⟩ : ∃ y_ : List (S134), y_ = (l1.take (t156 : Int).toNat) := ⟨_, rfl⟩
   replace H : ((spec_l4Says.f k a0_0 l0_1 y158 a2).bind fun t162 => (if t162 = true then (some true) else (if t156 ≤ (ji4) then (if (ji4) ≤ (l1.length : Int) then ((spec_l4Says.f k a0_0 l0_1 ((l1.take ((ji4) : Int).toNat).drop (t156 : Int).toNat) a2).bind fun t167 => (some t167)) else (none)) else (none)))) = some r := by (rw [hy158]; with_reducible exact H)
   have Ny158 := Aside0.mk hy158
   clear hy158
   replace H := Option.bind_eq_some_iff.mp H
   obtain ⟨t162, A170, H⟩ := H
   have A17 := Aside0.mk A170
   clear A170
   by_cases c18 : t162 = true
   ·subst c18
    rw [if_pos rfl] at H
    obtain rfl := Option.some.inj H
    go_enter Try.func125, Try.ntmps125
    try go_wp2_with (first | ((with_reducible refine gate_dst (N := 3) rfl ?_); refine Z.bx #[.int .i64 a0_0, .slice A0_1 l0_1.length c0_1] 32 HB ?_; clear HB; intro gb150 w19 BK150 GE150 HB hg hb; have GW150 := GE150; clear hb hg; have p151 : 0 ≤ ((ji4) : Int) := Z.od; have q151 : (ji4) < (l1.length : Int) := Z.od; obtain ⟨ad151, e151, hx151_0, hx151_1, hx151_2⟩ := at_T134 HR1.out (ji4) p151 q151; cases e151; replace hx151_0 := Z.up HB.out hx151_0; replace hx151_1 := Z.up HB.out hx151_1; replace hx151_2 := Z.up HB.out hx151_2; replace p151 := eq_true p151; replace q151 := eq_true q151) | ((with_reducible refine gate_callee (f := 150) rfl ?_); refine goesL_ (some 39) rfl rfl Try.func150 (by kernel_rfl) rfl #[.slice (some ad151) l1.length c1, .int .i64 (wrap64 ((ji4) - 1))] rfl (by (try simp only [List.map_toArray, List.map_cons, List.map_nil]); rfl) ?_; (with_reducible refine (spec_l3Starts.calls k _ _ l1 (wrap64 ((ji4) - 1)) t156 _ ?q1 ?q2 A13.out).mono ?_); (case q1 => exact Z.cc HR1 HB); (case q2 => exact HC1.out); rintro e w' ⟨rfl, ⟨nd, rfl⟩⟩; refine ⟨_, rfl, ?_⟩; have p157 : 0 ≤ ((ji4) : Int) := Z.od; have q157 : (ji4) < (l1.length : Int) := Z.od; obtain ⟨ad157, e157, hx157_0, hx157_1, hx157_2⟩ := at_T134 HR1.out (ji4) p157 q157; obtain rfl : ad151 = ad157 := (by injection e157); replace hx157_0 := Z.up HB.out hx157_0; replace hx157_1 := Z.up HB.out hx157_1; replace hx157_2 := Z.up HB.out hx157_2; replace p157 := eq_true p157; replace q157 := eq_true q157))
    (try (rw [drewN_self w19]; generalize hq_ : World.drewN w19 _ = w19; replace BK150 : Aside0 (w19.heap[gb150]? = some (.cells #[.int .i64 a0_0, .slice A0_1 l0_1.length c0_1] 32 (0, 0))) := ⟨by rw [← hq_]; exact (Z.bk BK150.out)⟩; replace HB : Aside0 (Below w.heap.size w w19) := ⟨by rw [← hq_]; exact (Z.bs HB.out GE150.out)⟩; clear hq_))
    replace BK150 := Aside0.mk (blk_drew BK150.out)
    replace HB := Aside0.mk (below_drew1 HB.out)
    have q21 : (t156 : Int) ≤ ((l1.length : Int) : Int) := Z.od
    obtain ⟨i021, hi021, _, hsz21, _⟩ := info_parts info134
    have hroom21 : l1.length ≤ c1 := HC1.out
    have hC21 : Kd.C k134 _ (some ad151) l1.length l1 := HR1.out
    have hcut21 := cut_to (P := Try.prog) 84 134 .i64 Try.underlying84 hi021 (some ad151) l1.length c1 t156 (Z.od) q21 hroom21
    have hr21 := Kd.C_take (m := (t156 : Int).toNat) hC21 (by omega)
    have hy21 : y158.length = (t156 : Int).toNat := (by rw [Ny158.out, List.length_take]; omega)
    rw [← Ny158.out] at hr21
    rw [← hy21] at hcut21
    have HR161 := Aside0.mk hr21
    have HC161 := Aside0.mk (show y158.length ≤ c1 from by omega)
    clear hr21 hC21 hroom21 hi021 hsz21
    have KY21 := Aside0.mk hy21
    clear hy21
    replace q21 := eq_true q21
    refine start_ (n := 16) (S := fun w' => w'.cell? ⟨gb150, 0, none⟩ = some (.int .i64 a0_0) ∧ w'.cell? ⟨gb150, 1, none⟩ = some (.slice A0_1 l0_1.length c0_1)) (ds := []) #[false, false, false, false, false, false, false, false, false, false, false, false, false, false, false, false] (by kernel_rfl) rfl rfl ⟨(blk_cell BK150.out 0).trans rfl, (blk_cell BK150.out 1).trans rfl⟩ (fun hHeld => ?_); refine with_tabW spec_l4Says.tab6 spec_l4Says.bits6 (fun HT_ HW_ => ?_)
    generalize w19.drew = w20 at BK150 HB HR161 hHeld ⊢
    refine Z.pv 1 47 16 2 HT_.out ?_
    refine Z.pv 2 48 16 6 HT_.out ?_
    refine Z.pv 3 49 16 14 HT_.out ?_
    refine Z.pv 4 50 16 30 HT_.out ?_
    refine Z.t2 0 46 16 31 HT_.out HW_.out hHeld ?_
    refine one_ (i := 5) (N := some 51) (Z.mb 16 63) rfl rfl (one_of HT_.out (by kernel_rfl)) (by decide) (fun K hK => ?_)
    refine goes_ Try.func125 (by kernel_rfl) rfl #[.agg #[.int .i64 a0_0, .slice A0_1 l0_1.length c0_1], .slice (some ad151) y158.length c1, .int .i64 a2] (by rfl) rfl rfl Z.ar ?_
    with_reducible refine (ih k (by omega) a0_0 _ _ l0_1 _ _ y158 a2 true _ ?q1 ?q2 ?q3 ?q4 A17.out).mono ?_
    (case q1 => exact Z.cc HR0_1 HB)
    (case q2 => exact HC0_1.out)
    (case q3 => exact Z.cc HR161 HB)
    (case q4 => exact HC161.out)
    rintro e w22 ⟨rfl, hb⟩
    refine ⟨_, rfl, ?_⟩
    replace BK150 := Z.bb BK150 hb
    replace HB := Z.st (Z.bs HB.out GE150.out) hb
    (try clear hb)
    refine hK.out _ _ ⟨(blk_cell BK150.out 0).trans rfl, (blk_cell BK150.out 1).trans rfl⟩ (fun hHeld => ?_)
    clear hK K
    refine Z.nm ?_
    refine Z.pv 6 52 16 127 HT_.out ?_
    refine Z.pu 7 53 16 255 HT_.out ?_
    refine Z.pu 8 54 16 511 HT_.out ?_
    refine Z.pu 9 55 16 1023 HT_.out ?_
    refine Z.pu 10 56 16 2047 HT_.out ?_
    refine Z.pu 11 57 16 4095 HT_.out ?_
    refine Z.pu 12 58 16 8191 HT_.out ?_
    refine Z.pu 13 59 16 16383 HT_.out ?_
    refine Z.pv 14 60 16 32767 HT_.out ?_
    refine Z.pv 15 6 16 65535 HT_.out ?_
    refine done_ (done_of HT_.out (by kernel_rfl)) ?_
    try go_wp2
    go_ret
    exact ⟨by rfl, Z.bs HB.out GE150.out⟩
   ·replace c18 := Bool.eq_false_iff.mpr c18
    subst c18
    rw [if_neg (show ¬ (false = true) by decide)] at H
    have c23b0 := eq_true (Z.od : 0 ≤ t156)
    obtain ⟨c24, H⟩ := Z.ifp H
    have c24b0 := eq_true c24
    have c24b1 : decide (t156 ≤ (ji4)) = true := decide_eq_true c24
    clear c24
    obtain ⟨c25, H⟩ := Z.ifp H
    have c25b0 := eq_true c25
    have c25b1 : decide ((ji4) ≤ (l1.length : Int)) = true := decide_eq_true c25
    clear c25
    obtain ⟨y163, hy163⟩ : ∃ y_ : List (S134), y_ = ((l1.take ((ji4) : Int).toNat).drop (t156 : Int).toNat) := ⟨_, rfl⟩
    replace H : ((spec_l4Says.f k a0_0 l0_1 y163 a2).bind fun t167 => (some t167)) = some r := by (rw [hy163]; with_reducible exact H)
    have Ny163 := Aside0.mk hy163
    clear hy163
    replace H := Option.bind_eq_some_iff.mp H
    obtain ⟨t167, A260, H⟩ := H
    have A26 := Aside0.mk A260
    clear A260
    obtain rfl := Option.some.inj H
    go_enter Try.func125, Try.ntmps125
    try go_wp2_with (first | ((with_reducible refine gate_dst (N := 3) rfl ?_); refine Z.bx #[.int .i64 a0_0, .slice A0_1 l0_1.length c0_1] 32 HB ?_; clear HB; intro gb150 w27 BK150 GE150 HB hg hb; have GW150 := GE150; clear hb hg; have p151 : 0 ≤ ((ji4) : Int) := Z.od; have q151 : (ji4) < (l1.length : Int) := Z.od; obtain ⟨ad151, e151, hx151_0, hx151_1, hx151_2⟩ := at_T134 HR1.out (ji4) p151 q151; cases e151; replace hx151_0 := Z.up HB.out hx151_0; replace hx151_1 := Z.up HB.out hx151_1; replace hx151_2 := Z.up HB.out hx151_2; replace p151 := eq_true p151; replace q151 := eq_true q151) | ((with_reducible refine gate_callee (f := 150) rfl ?_); refine goesL_ (some 39) rfl rfl Try.func150 (by kernel_rfl) rfl #[.slice (some ad151) l1.length c1, .int .i64 (wrap64 ((ji4) - 1))] rfl (by (try simp only [List.map_toArray, List.map_cons, List.map_nil]); rfl) ?_; (with_reducible refine (spec_l3Starts.calls k _ _ l1 (wrap64 ((ji4) - 1)) t156 _ ?q1 ?q2 A13.out).mono ?_); (case q1 => exact Z.cc HR1 HB); (case q2 => exact HC1.out); rintro e w' ⟨rfl, ⟨nd, rfl⟩⟩; refine ⟨_, rfl, ?_⟩; have p157 : 0 ≤ ((ji4) : Int) := Z.od; have q157 : (ji4) < (l1.length : Int) := Z.od; obtain ⟨ad157, e157, hx157_0, hx157_1, hx157_2⟩ := at_T134 HR1.out (ji4) p157 q157; obtain rfl : ad151 = ad157 := (by injection e157); replace hx157_0 := Z.up HB.out hx157_0; replace hx157_1 := Z.up HB.out hx157_1; replace hx157_2 := Z.up HB.out hx157_2; replace p157 := eq_true p157; replace q157 := eq_true q157))
    (try (rw [drewN_self w27]; generalize hq_ : World.drewN w27 _ = w27; replace BK150 : Aside0 (w27.heap[gb150]? = some (.cells #[.int .i64 a0_0, .slice A0_1 l0_1.length c0_1] 32 (0, 0))) := ⟨by rw [← hq_]; exact (Z.bk BK150.out)⟩; replace HB : Aside0 (Below w.heap.size w w27) := ⟨by rw [← hq_]; exact (Z.bs HB.out GE150.out)⟩; clear hq_))
    replace BK150 := Aside0.mk (blk_drew BK150.out)
    replace HB := Aside0.mk (below_drew1 HB.out)
    have q29 : (t156 : Int) ≤ ((l1.length : Int) : Int) := Z.od
    obtain ⟨i029, hi029, _, hsz29, _⟩ := info_parts info134
    have hroom29 : l1.length ≤ c1 := HC1.out
    have hC29 : Kd.C k134 _ (some ad151) l1.length l1 := HR1.out
    have hcut29 := cut_to (P := Try.prog) 84 134 .i64 Try.underlying84 hi029 (some ad151) l1.length c1 t156 (Z.od) q29 hroom29
    have hr29 := Kd.C_take (m := (t156 : Int).toNat) hC29 (by omega)
    have hy29 : y158.length = (t156 : Int).toNat := (by rw [Ny158.out, List.length_take]; omega)
    rw [← Ny158.out] at hr29
    rw [← hy29] at hcut29
    have HR161 := Aside0.mk hr29
    have HC161 := Aside0.mk (show y158.length ≤ c1 from by omega)
    clear hr29 hC29 hroom29 hi029 hsz29
    have KY29 := Aside0.mk hy29
    clear hy29
    replace q29 := eq_true q29
    refine start_ (n := 16) (S := fun w' => w'.cell? ⟨gb150, 0, none⟩ = some (.int .i64 a0_0) ∧ w'.cell? ⟨gb150, 1, none⟩ = some (.slice A0_1 l0_1.length c0_1)) (ds := []) #[false, false, false, false, false, false, false, false, false, false, false, false, false, false, false, false] (by kernel_rfl) rfl rfl ⟨(blk_cell BK150.out 0).trans rfl, (blk_cell BK150.out 1).trans rfl⟩ (fun hHeld => ?_); refine with_tabW spec_l4Says.tab6 spec_l4Says.bits6 (fun HT_ HW_ => ?_)
    generalize w27.drew = w28 at BK150 HB HR161 hHeld ⊢
    refine Z.pv 1 47 16 2 HT_.out ?_
    refine Z.pv 2 48 16 6 HT_.out ?_
    refine Z.pv 3 49 16 14 HT_.out ?_
    refine Z.pv 4 50 16 30 HT_.out ?_
    refine Z.t2 0 46 16 31 HT_.out HW_.out hHeld ?_
    refine one_ (i := 5) (N := some 51) (Z.mb 16 63) rfl rfl (one_of HT_.out (by kernel_rfl)) (by decide) (fun K hK => ?_)
    refine goes_ Try.func125 (by kernel_rfl) rfl #[.agg #[.int .i64 a0_0, .slice A0_1 l0_1.length c0_1], .slice (some ad151) y158.length c1, .int .i64 a2] (by rfl) rfl rfl Z.ar ?_
    with_reducible refine (ih k (by omega) a0_0 _ _ l0_1 _ _ y158 a2 false _ ?q1 ?q2 ?q3 ?q4 A17.out).mono ?_
    (case q1 => exact Z.cc HR0_1 HB)
    (case q2 => exact HC0_1.out)
    (case q3 => exact Z.cc HR161 HB)
    (case q4 => exact HC161.out)
    rintro e w30 ⟨rfl, hb⟩
    refine ⟨_, rfl, ?_⟩
    replace BK150 := Z.bb BK150 hb
    replace HB := Z.st (Z.bs HB.out GE150.out) hb
    (try clear hb)
    have q31 : ((ji4) : Int) ≤ ((l1.length : Int) : Int) := Z.od
    obtain ⟨i031, hi031, _, hsz31, _⟩ := info_parts info134
    have hroom31 : l1.length ≤ c1 := HC1.out
    have hC31 : Kd.C k134 _ (some ad151) l1.length l1 := HR1.out
    have ql31 : (t156 : Int) ≤ ((ji4) : Int) := Z.od
    have q031 : (0 : Int) ≤ (t156 : Int) := Z.od
    have hcut31 := cut_mid (P := Try.prog) 84 134 .i64 .i64 Try.underlying84 hi031 3 hsz31 (some ad151) l1.length c1 t156 (ji4) q031 ql31 q31 hroom31
    have hr31 := Kd.C_mid (lo := (t156 : Int).toNat) (hi := ((ji4) : Int).toNat) (c := c1) hC31 (by omega) (by omega) hroom31
    obtain ⟨A31, hA31⟩ : ∃ A1, A1 = (if c1 = (t156 : Int).toNat then (some ad151) else ((some ad151) : Option Addr).map (·.add ((t156 : Int).toNat * 3))) := ⟨_, rfl⟩
    obtain ⟨c31, hc31⟩ : ∃ c_, c_ = c1 - (t156 : Int).toNat := ⟨_, rfl⟩
    have hy31 : y163.length = ((ji4) : Int).toNat - (t156 : Int).toNat := (by rw [Ny163.out, List.length_drop, List.length_take] <;> omega)
    rw [show ((l1).take ((ji4) : Int).toNat).drop (t156 : Int).toNat = y163 from Ny163.out.symm] at hr31
    replace hr31 : Kd.C k134 _ A31 y163.length y163 := (by rw [hA31]; exact hr31)
    rw [← hy31, ← hA31, ← hc31] at hcut31
    have HR166 := Aside0.mk hr31
    have HC166 := Aside0.mk (show y163.length ≤ c31 from by rw [hy31, hc31]; exact Nat.sub_le_sub_right (Nat.le_trans (by omega) hroom31) _)
    clear hr31 hC31 hroom31 hi031 hsz31 hc31
    have KY31 := Aside0.mk hy31
    have KA31 := Aside0.mk hA31
    clear hy31 hA31
    replace q31 := eq_true q31
    refine hK.out _ _ ⟨(blk_cell BK150.out 0).trans rfl, (blk_cell BK150.out 1).trans rfl⟩ (fun hHeld => ?_)
    clear hK K
    refine Z.nm ?_
    refine Z.pv 6 52 16 127 HT_.out ?_
    refine Z.pv 8 54 16 383 HT_.out ?_
    refine Z.pv 9 55 16 895 HT_.out ?_
    refine Z.pv 10 56 16 1919 HT_.out ?_
    refine Z.pv 11 57 16 3967 HT_.out ?_
    refine Z.pv 12 58 16 8063 HT_.out ?_
    refine Z.t2 7 53 16 8191 HT_.out HW_.out hHeld ?_
    refine one_ (i := 13) (N := some 59) (Z.mb 16 16383) rfl rfl (one_of HT_.out (by kernel_rfl)) (by decide) (fun K hK => ?_)
    refine goes_ Try.func125 (by kernel_rfl) rfl #[.agg #[.int .i64 a0_0, .slice A0_1 l0_1.length c0_1], .slice A31 y163.length c31, .int .i64 a2] (by rfl) rfl rfl Z.ar ?_
    with_reducible refine (ih k (by omega) a0_0 _ _ l0_1 _ _ y163 a2 t167 _ ?q1 ?q2 ?q3 ?q4 A26.out).mono ?_
    (case q1 => exact Z.cc HR0_1 HB)
    (case q2 => exact HC0_1.out)
    (case q3 => exact Z.cc HR166 HB)
    (case q4 => exact HC166.out)
    rintro e w32 ⟨rfl, hb⟩
    refine ⟨_, rfl, ?_⟩
    replace BK150 := Z.bb BK150 hb
    replace HB := Z.st (Z.bs HB.out GE150.out) hb
    (try clear hb)
    refine hK.out _ _ ⟨(blk_cell BK150.out 0).trans rfl, (blk_cell BK150.out 1).trans rfl⟩ (fun hHeld => ?_)
    clear hK K
    refine Z.nm ?_
    refine Z.pv 14 60 16 32767 HT_.out ?_
    refine Z.pv 15 6 16 65535 HT_.out ?_
    refine done_ (done_of HT_.out (by kernel_rfl)) ?_
    try go_wp2
    go_ret
    exact ⟨by rfl, Z.bs HB.out GE150.out⟩
  ·rw [if_neg c14] at H
   have c14b0 : (((rd_T134 l1 (ji4)).f0) == 2) = false := beq_eq_false_iff_ne.mpr c14
   have c14b1 : (((rd_T134 l1 (ji4)).f0) != 2) = true := bne_iff_ne.mpr c14
   obtain ⟨c33, H⟩ := Z.ifp H
   have c33b0 := eq_true c33
   have c33b1 : decide (0 ≤ t156) = true := decide_eq_true c33
   clear c33
   obtain ⟨c34, H⟩ := Z.ifp H
   have c34b0 := eq_true c34
   have c34b1 : decide (t156 ≤ (l1.length : Int)) = true := decide_eq_true c34
   clear c34
   obtain ⟨y168, hy168⟩ : ∃ y_ : List (S134), y_ = (l1.take (t156 : Int).toNat) := ⟨_, rfl⟩
   replace H : ((spec_l4Says.f k a0_0 l0_1 y168 a2).bind fun t172 => (if t172 = true then (if t156 ≤ (ji4) then (if (ji4) ≤ (l1.length : Int) then ((spec_l4Says.f k a0_0 l0_1 ((l1.take ((ji4) : Int).toNat).drop (t156 : Int).toNat) a2).bind fun t177 => (some t177)) else (none)) else (none)) else (some false))) = some r := by (rw [hy168]; with_reducible exact H)
   have Ny168 := Aside0.mk hy168
   clear hy168
   replace H := Option.bind_eq_some_iff.mp H
   obtain ⟨t172, A350, H⟩ := H
   have A35 := Aside0.mk A350
   clear A350
   by_cases c36 : t172 = true
   ·subst c36
    rw [if_pos rfl] at H
    have c37b0 := eq_true (Z.od : 0 ≤ t156)
    obtain ⟨c38, H⟩ := Z.ifp H
    have c38b0 := eq_true c38
    have c38b1 : decide (t156 ≤ (ji4)) = true := decide_eq_true c38
    clear c38
    obtain ⟨c39, H⟩ := Z.ifp H
    have c39b0 := eq_true c39
    have c39b1 : decide ((ji4) ≤ (l1.length : Int)) = true := decide_eq_true c39
    clear c39
    obtain ⟨y173, hy173⟩ : ∃ y_ : List (S134), y_ = ((l1.take ((ji4) : Int).toNat).drop (t156 : Int).toNat) := ⟨_, rfl⟩
    replace H : ((spec_l4Says.f k a0_0 l0_1 y173 a2).bind fun t177 => (some t177)) = some r := by (rw [hy173]; with_reducible exact H)
    have Ny173 := Aside0.mk hy173
    clear hy173
    replace H := Option.bind_eq_some_iff.mp H
    obtain ⟨t177, A400, H⟩ := H
    have A40 := Aside0.mk A400
    clear A400
    obtain rfl := Option.some.inj H
    go_enter Try.func125, Try.ntmps125
    try go_wp2_with (first | ((with_reducible refine gate_dst (N := 3) rfl ?_); refine Z.bx #[.int .i64 a0_0, .slice A0_1 l0_1.length c0_1] 32 HB ?_; clear HB; intro gb150 w41 BK150 GE150 HB hg hb; have GW150 := GE150; clear hb hg; have p151 : 0 ≤ ((ji4) : Int) := Z.od; have q151 : (ji4) < (l1.length : Int) := Z.od; obtain ⟨ad151, e151, hx151_0, hx151_1, hx151_2⟩ := at_T134 HR1.out (ji4) p151 q151; cases e151; replace hx151_0 := Z.up HB.out hx151_0; replace hx151_1 := Z.up HB.out hx151_1; replace hx151_2 := Z.up HB.out hx151_2; replace p151 := eq_true p151; replace q151 := eq_true q151) | ((with_reducible refine gate_callee (f := 150) rfl ?_); refine goesL_ (some 39) rfl rfl Try.func150 (by kernel_rfl) rfl #[.slice (some ad151) l1.length c1, .int .i64 (wrap64 ((ji4) - 1))] rfl (by (try simp only [List.map_toArray, List.map_cons, List.map_nil]); rfl) ?_; (with_reducible refine (spec_l3Starts.calls k _ _ l1 (wrap64 ((ji4) - 1)) t156 _ ?q1 ?q2 A13.out).mono ?_); (case q1 => exact Z.cc HR1 HB); (case q2 => exact HC1.out); rintro e w' ⟨rfl, ⟨nd, rfl⟩⟩; refine ⟨_, rfl, ?_⟩; have p157 : 0 ≤ ((ji4) : Int) := Z.od; have q157 : (ji4) < (l1.length : Int) := Z.od; obtain ⟨ad157, e157, hx157_0, hx157_1, hx157_2⟩ := at_T134 HR1.out (ji4) p157 q157; obtain rfl : ad151 = ad157 := (by injection e157); replace hx157_0 := Z.up HB.out hx157_0; replace hx157_1 := Z.up HB.out hx157_1; replace hx157_2 := Z.up HB.out hx157_2; replace p157 := eq_true p157; replace q157 := eq_true q157))
    (try (rw [drewN_self w41]; generalize hq_ : World.drewN w41 _ = w41; replace BK150 : Aside0 (w41.heap[gb150]? = some (.cells #[.int .i64 a0_0, .slice A0_1 l0_1.length c0_1] 32 (0, 0))) := ⟨by rw [← hq_]; exact (Z.bk BK150.out)⟩; replace HB : Aside0 (Below w.heap.size w w41) := ⟨by rw [← hq_]; exact (Z.bs HB.out GE150.out)⟩; clear hq_))
    replace BK150 := Aside0.mk (blk_drew BK150.out)
    replace HB := Aside0.mk (below_drew1 HB.out)
    have q43 : (t156 : Int) ≤ ((l1.length : Int) : Int) := Z.od
    obtain ⟨i043, hi043, _, hsz43, _⟩ := info_parts info134
    have hroom43 : l1.length ≤ c1 := HC1.out
    have hC43 : Kd.C k134 _ (some ad151) l1.length l1 := HR1.out
    have hcut43 := cut_to (P := Try.prog) 84 134 .i64 Try.underlying84 hi043 (some ad151) l1.length c1 t156 (Z.od) q43 hroom43
    have hr43 := Kd.C_take (m := (t156 : Int).toNat) hC43 (by omega)
    have hy43 : y168.length = (t156 : Int).toNat := (by rw [Ny168.out, List.length_take]; omega)
    rw [← Ny168.out] at hr43
    rw [← hy43] at hcut43
    have HR171 := Aside0.mk hr43
    have HC171 := Aside0.mk (show y168.length ≤ c1 from by omega)
    clear hr43 hC43 hroom43 hi043 hsz43
    have KY43 := Aside0.mk hy43
    clear hy43
    replace q43 := eq_true q43
    refine start_ (n := 16) (S := fun w' => w'.cell? ⟨gb150, 0, none⟩ = some (.int .i64 a0_0) ∧ w'.cell? ⟨gb150, 1, none⟩ = some (.slice A0_1 l0_1.length c0_1)) (ds := []) #[false, false, false, false, false, false, false, false, false, false, false, false, false, false, false, false] (by kernel_rfl) rfl rfl ⟨(blk_cell BK150.out 0).trans rfl, (blk_cell BK150.out 1).trans rfl⟩ (fun hHeld => ?_); refine with_tabW spec_l4Says.tab7 spec_l4Says.bits7 (fun HT_ HW_ => ?_)
    generalize w41.drew = w42 at BK150 HB HR171 hHeld ⊢
    refine Z.pv 1 62 16 2 HT_.out ?_
    refine Z.pv 2 63 16 6 HT_.out ?_
    refine Z.pv 3 64 16 14 HT_.out ?_
    refine Z.pv 4 65 16 30 HT_.out ?_
    refine Z.t2 0 61 16 31 HT_.out HW_.out hHeld ?_
    refine one_ (i := 5) (N := some 66) (Z.mb 16 63) rfl rfl (one_of HT_.out (by kernel_rfl)) (by decide) (fun K hK => ?_)
    refine goes_ Try.func125 (by kernel_rfl) rfl #[.agg #[.int .i64 a0_0, .slice A0_1 l0_1.length c0_1], .slice (some ad151) y168.length c1, .int .i64 a2] (by rfl) rfl rfl Z.ar ?_
    with_reducible refine (ih k (by omega) a0_0 _ _ l0_1 _ _ y168 a2 true _ ?q1 ?q2 ?q3 ?q4 A35.out).mono ?_
    (case q1 => exact Z.cc HR0_1 HB)
    (case q2 => exact HC0_1.out)
    (case q3 => exact Z.cc HR171 HB)
    (case q4 => exact HC171.out)
    rintro e w44 ⟨rfl, hb⟩
    refine ⟨_, rfl, ?_⟩
    replace BK150 := Z.bb BK150 hb
    replace HB := Z.st (Z.bs HB.out GE150.out) hb
    (try clear hb)
    have q45 : ((ji4) : Int) ≤ ((l1.length : Int) : Int) := Z.od
    obtain ⟨i045, hi045, _, hsz45, _⟩ := info_parts info134
    have hroom45 : l1.length ≤ c1 := HC1.out
    have hC45 : Kd.C k134 _ (some ad151) l1.length l1 := HR1.out
    have ql45 : (t156 : Int) ≤ ((ji4) : Int) := Z.od
    have q045 : (0 : Int) ≤ (t156 : Int) := Z.od
    have hcut45 := cut_mid (P := Try.prog) 84 134 .i64 .i64 Try.underlying84 hi045 3 hsz45 (some ad151) l1.length c1 t156 (ji4) q045 ql45 q45 hroom45
    have hr45 := Kd.C_mid (lo := (t156 : Int).toNat) (hi := ((ji4) : Int).toNat) (c := c1) hC45 (by omega) (by omega) hroom45
    obtain ⟨A45, hA45⟩ : ∃ A1, A1 = (if c1 = (t156 : Int).toNat then (some ad151) else ((some ad151) : Option Addr).map (·.add ((t156 : Int).toNat * 3))) := ⟨_, rfl⟩
    obtain ⟨c45, hc45⟩ : ∃ c_, c_ = c1 - (t156 : Int).toNat := ⟨_, rfl⟩
    have hy45 : y173.length = ((ji4) : Int).toNat - (t156 : Int).toNat := (by rw [Ny173.out, List.length_drop, List.length_take] <;> omega)
    rw [show ((l1).take ((ji4) : Int).toNat).drop (t156 : Int).toNat = y173 from Ny173.out.symm] at hr45
    replace hr45 : Kd.C k134 _ A45 y173.length y173 := (by rw [hA45]; exact hr45)
    rw [← hy45, ← hA45, ← hc45] at hcut45
    have HR176 := Aside0.mk hr45
    have HC176 := Aside0.mk (show y173.length ≤ c45 from by rw [hy45, hc45]; exact Nat.sub_le_sub_right (Nat.le_trans (by omega) hroom45) _)
    clear hr45 hC45 hroom45 hi045 hsz45 hc45
    have KY45 := Aside0.mk hy45
    have KA45 := Aside0.mk hA45
    clear hy45 hA45
    replace q45 := eq_true q45
    refine hK.out _ _ ⟨(blk_cell BK150.out 0).trans rfl, (blk_cell BK150.out 1).trans rfl⟩ (fun hHeld => ?_)
    clear hK K
    refine Z.nm ?_
    refine Z.pv 6 67 16 127 HT_.out ?_
    refine Z.pv 8 69 16 383 HT_.out ?_
    refine Z.pv 9 70 16 895 HT_.out ?_
    refine Z.pv 10 71 16 1919 HT_.out ?_
    refine Z.pv 11 72 16 3967 HT_.out ?_
    refine Z.pv 12 73 16 8063 HT_.out ?_
    refine Z.t2 7 68 16 8191 HT_.out HW_.out hHeld ?_
    refine one_ (i := 13) (N := some 74) (Z.mb 16 16383) rfl rfl (one_of HT_.out (by kernel_rfl)) (by decide) (fun K hK => ?_)
    refine goes_ Try.func125 (by kernel_rfl) rfl #[.agg #[.int .i64 a0_0, .slice A0_1 l0_1.length c0_1], .slice A45 y173.length c45, .int .i64 a2] (by rfl) rfl rfl Z.ar ?_
    with_reducible refine (ih k (by omega) a0_0 _ _ l0_1 _ _ y173 a2 t177 _ ?q1 ?q2 ?q3 ?q4 A40.out).mono ?_
    (case q1 => exact Z.cc HR0_1 HB)
    (case q2 => exact HC0_1.out)
    (case q3 => exact Z.cc HR176 HB)
    (case q4 => exact HC176.out)
    rintro e w46 ⟨rfl, hb⟩
    refine ⟨_, rfl, ?_⟩
    replace BK150 := Z.bb BK150 hb
    replace HB := Z.st (Z.bs HB.out GE150.out) hb
    (try clear hb)
    refine hK.out _ _ ⟨(blk_cell BK150.out 0).trans rfl, (blk_cell BK150.out 1).trans rfl⟩ (fun hHeld => ?_)
    clear hK K
    refine Z.nm ?_
    refine Z.pv 14 75 16 32767 HT_.out ?_
    refine Z.pv 15 6 16 65535 HT_.out ?_
    refine done_ (done_of HT_.out (by kernel_rfl)) ?_
    try go_wp2
    go_ret
    exact ⟨by rfl, Z.bs HB.out GE150.out⟩
   ·replace c36 := Bool.eq_false_iff.mpr c36
    subst c36
    rw [if_neg (show ¬ (false = true) by decide)] at H
    obtain rfl := Option.some.inj H
    go_enter Try.func125, Try.ntmps125
    try go_wp2_with (first | ((with_reducible refine gate_dst (N := 3) rfl ?_); refine Z.bx #[.int .i64 a0_0, .slice A0_1 l0_1.length c0_1] 32 HB ?_; clear HB; intro gb150 w47 BK150 GE150 HB hg hb; have GW150 := GE150; clear hb hg; have p151 : 0 ≤ ((ji4) : Int) := Z.od; have q151 : (ji4) < (l1.length : Int) := Z.od; obtain ⟨ad151, e151, hx151_0, hx151_1, hx151_2⟩ := at_T134 HR1.out (ji4) p151 q151; cases e151; replace hx151_0 := Z.up HB.out hx151_0; replace hx151_1 := Z.up HB.out hx151_1; replace hx151_2 := Z.up HB.out hx151_2; replace p151 := eq_true p151; replace q151 := eq_true q151) | ((with_reducible refine gate_callee (f := 150) rfl ?_); refine goesL_ (some 39) rfl rfl Try.func150 (by kernel_rfl) rfl #[.slice (some ad151) l1.length c1, .int .i64 (wrap64 ((ji4) - 1))] rfl (by (try simp only [List.map_toArray, List.map_cons, List.map_nil]); rfl) ?_; (with_reducible refine (spec_l3Starts.calls k _ _ l1 (wrap64 ((ji4) - 1)) t156 _ ?q1 ?q2 A13.out).mono ?_); (case q1 => exact Z.cc HR1 HB); (case q2 => exact HC1.out); rintro e w' ⟨rfl, ⟨nd, rfl⟩⟩; refine ⟨_, rfl, ?_⟩; have p157 : 0 ≤ ((ji4) : Int) := Z.od; have q157 : (ji4) < (l1.length : Int) := Z.od; obtain ⟨ad157, e157, hx157_0, hx157_1, hx157_2⟩ := at_T134 HR1.out (ji4) p157 q157; obtain rfl : ad151 = ad157 := (by injection e157); replace hx157_0 := Z.up HB.out hx157_0; replace hx157_1 := Z.up HB.out hx157_1; replace hx157_2 := Z.up HB.out hx157_2; replace p157 := eq_true p157; replace q157 := eq_true q157))
    (try (rw [drewN_self w47]; generalize hq_ : World.drewN w47 _ = w47; replace BK150 : Aside0 (w47.heap[gb150]? = some (.cells #[.int .i64 a0_0, .slice A0_1 l0_1.length c0_1] 32 (0, 0))) := ⟨by rw [← hq_]; exact (Z.bk BK150.out)⟩; replace HB : Aside0 (Below w.heap.size w w47) := ⟨by rw [← hq_]; exact (Z.bs HB.out GE150.out)⟩; clear hq_))
    replace BK150 := Aside0.mk (blk_drew BK150.out)
    replace HB := Aside0.mk (below_drew1 HB.out)
    have q49 : (t156 : Int) ≤ ((l1.length : Int) : Int) := Z.od
    obtain ⟨i049, hi049, _, hsz49, _⟩ := info_parts info134
    have hroom49 : l1.length ≤ c1 := HC1.out
    have hC49 : Kd.C k134 _ (some ad151) l1.length l1 := HR1.out
    have hcut49 := cut_to (P := Try.prog) 84 134 .i64 Try.underlying84 hi049 (some ad151) l1.length c1 t156 (Z.od) q49 hroom49
    have hr49 := Kd.C_take (m := (t156 : Int).toNat) hC49 (by omega)
    have hy49 : y168.length = (t156 : Int).toNat := (by rw [Ny168.out, List.length_take]; omega)
    rw [← Ny168.out] at hr49
    rw [← hy49] at hcut49
    have HR171 := Aside0.mk hr49
    have HC171 := Aside0.mk (show y168.length ≤ c1 from by omega)
    clear hr49 hC49 hroom49 hi049 hsz49
    have KY49 := Aside0.mk hy49
    clear hy49
    replace q49 := eq_true q49
    refine start_ (n := 16) (S := fun w' => w'.cell? ⟨gb150, 0, none⟩ = some (.int .i64 a0_0) ∧ w'.cell? ⟨gb150, 1, none⟩ = some (.slice A0_1 l0_1.length c0_1)) (ds := []) #[false, false, false, false, false, false, false, false, false, false, false, false, false, false, false, false] (by kernel_rfl) rfl rfl ⟨(blk_cell BK150.out 0).trans rfl, (blk_cell BK150.out 1).trans rfl⟩ (fun hHeld => ?_); refine with_tabW spec_l4Says.tab7 spec_l4Says.bits7 (fun HT_ HW_ => ?_)
    generalize w47.drew = w48 at BK150 HB HR171 hHeld ⊢
    refine Z.pv 1 62 16 2 HT_.out ?_
    refine Z.pv 2 63 16 6 HT_.out ?_
    refine Z.pv 3 64 16 14 HT_.out ?_
    refine Z.pv 4 65 16 30 HT_.out ?_
    refine Z.t2 0 61 16 31 HT_.out HW_.out hHeld ?_
    refine one_ (i := 5) (N := some 66) (Z.mb 16 63) rfl rfl (one_of HT_.out (by kernel_rfl)) (by decide) (fun K hK => ?_)
    refine goes_ Try.func125 (by kernel_rfl) rfl #[.agg #[.int .i64 a0_0, .slice A0_1 l0_1.length c0_1], .slice (some ad151) y168.length c1, .int .i64 a2] (by rfl) rfl rfl Z.ar ?_
    with_reducible refine (ih k (by omega) a0_0 _ _ l0_1 _ _ y168 a2 false _ ?q1 ?q2 ?q3 ?q4 A35.out).mono ?_
    (case q1 => exact Z.cc HR0_1 HB)
    (case q2 => exact HC0_1.out)
    (case q3 => exact Z.cc HR171 HB)
    (case q4 => exact HC171.out)
    rintro e w50 ⟨rfl, hb⟩
    refine ⟨_, rfl, ?_⟩
    replace BK150 := Z.bb BK150 hb
    replace HB := Z.st (Z.bs HB.out GE150.out) hb
    (try clear hb)
    refine hK.out _ _ ⟨(blk_cell BK150.out 0).trans rfl, (blk_cell BK150.out 1).trans rfl⟩ (fun hHeld => ?_)
    clear hK K
    refine Z.nm ?_
    refine Z.pv 6 67 16 127 HT_.out ?_
    refine Z.pu 7 68 16 255 HT_.out ?_
    refine Z.pu 8 69 16 511 HT_.out ?_
    refine Z.pu 9 70 16 1023 HT_.out ?_
    refine Z.pu 10 71 16 2047 HT_.out ?_
    refine Z.pu 11 72 16 4095 HT_.out ?_
    refine Z.pu 12 73 16 8191 HT_.out ?_
    refine Z.pu 13 74 16 16383 HT_.out ?_
    refine Z.pv 14 75 16 32767 HT_.out ?_
    refine Z.pv 15 6 16 65535 HT_.out ?_
    refine done_ (done_of HT_.out (by kernel_rfl)) ?_
    try go_wp2
    go_ret
    exact ⟨by rfl, Z.bs HB.out GE150.out⟩
end Go.Proofs.Ytcafckapdgaogaa.PAll

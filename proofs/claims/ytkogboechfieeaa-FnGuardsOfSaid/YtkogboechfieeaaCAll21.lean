/- Walks of functions that laws of this seat reach, in the form of the print. -/
import Derived.Test.YtkogboechfieeaaCAll20
-- PRINTED
namespace Go.Proofs.Ytkogboechfieeaa.PAll
open Go.RowKit Go.Proofs.YtkogboechfieeaaW.PrintWords Go.Proofs.YtkogboechfieeaaW.PrintLast Go.Proofs.YtkogboechfieeaaW.PrintMore
attribute [local go_sem] max2_int min2_int max_two min_two max_three min_three max_four min_four
set_option linter.unusedVariables false
set_option linter.unusedSimpArgs false

/-! ### spec_l8May: function 75 -/
def spec_l8May.f (k : Nat) (a0_0 : Int) (l0_1 : List Int) (l0_2 : List (List (S37))) (l1 : List Int) (a2 : Int) (a3 : Int) (a4 : Int) : Option (Bool) := if 0 ≤ a2 then (if a2 < (l0_2.length : Int) then (if a2 < (l1.length : Int) then (if 0 ≤ (rd l1 a2) then (if (rd l1 a2) < ((rd_L5 l0_2 a2).length : Int) then (if a3 = (rd l1 a2) then (some false) else ((spec_l4Says.f k a0_0 l0_1 ((rd_T37 (rd_L5 l0_2 a2) (rd l1 a2)).f0) a4).bind fun t59 => (if t59 = true then (if ((rd_T37 (rd_L5 l0_2 a2) (rd l1 a2)).f1) = (-1) then (some true) else (if 0 ≤ ((rd_T37 (rd_L5 l0_2 a2) (rd l1 a2)).f1) then (if ((rd_T37 (rd_L5 l0_2 a2) (rd l1 a2)).f1) < (l1.length : Int) then (some ((rd l1 ((rd_T37 (rd_L5 l0_2 a2) (rd l1 a2)).f1)) == ((rd_T37 (rd_L5 l0_2 a2) (rd l1 a2)).f2))) else (none)) else (none))) else (some false)))) else (none)) else (none)) else (none)) else (none)) else (none)
theorem spec_l8May.mono : ∀ a0 a1 a2 a3 a4 a5 a6 k, LeO (spec_l8May.f k a0 a1 a2 a3 a4 a5 a6) (spec_l8May.f (k + 1) a0 a1 a2 a3 a4 a5 a6) := by
 intro a0 a1 a2 a3 a4 a5 a6 k
 unfold spec_l8May.f
 repeat' first
   | (with_reducible exact LeO.refl _)
   | exact spec_l4Says.mono _ _ _ _ _
   | exact LeO.none _
   | refine LeO.ite ?_ ?_
   | refine LeO.bind ?_ (fun _ => ?_)
def spec_l8May.T1 : Bool × List (List Nat × List Nat) := (true, [([], []), ([0], [0]), ([], []), ([1, 2], [1, 2]), ([3], [3]), ([], []), ([], []), ([5, 6], [5, 6]), ([7], [7]), ([4, 8], [4, 8]), ([9], [9]), ([], []), ([11, 10, 0, 1, 2, 3, 4, 5, 6, 7, 8, 9, 10, 11], [10, 11])])
def spec_l8May.B1 : List Nat := [0, 1, 0, 7, 15, 0, 0, 96, 224, 511, 1023, 0, 4095]
theorem spec_l8May.tab1 : rtab .any (opsOf Try.f75 1) = spec_l8May.T1 := by kernel_rfl
theorem spec_l8May.bits1 : waitsOk spec_l8May.T1.2 spec_l8May.B1 = true := by kernel_rfl
def spec_l8May.T2 : Bool × List (List Nat × List Nat) := (true, [([], []), ([], []), ([], []), ([1, 2], [1, 2]), ([3], [3]), ([0, 4], [0, 4]), ([5], [5]), ([6], [6]), ([7, 6], [6, 7]), ([6], [6]), ([9, 6], [6, 9]), ([6], [6]), ([8, 10, 11, 6, 6], [6, 8, 10, 11]), ([6, 12], [6, 12]), ([13, 12], [13]), ([14], [14]), ([15, 14], [14, 15]), ([16, 14], [14, 16]), ([17, 14, 14], [14, 17]), ([18], [18]), ([18], [18]), ([20, 18], [18, 20]), ([19, 21, 18], [18, 19, 21]), ([22, 18], [18, 22]), ([18], [18]), ([24, 18], [18, 24]), ([23, 25, 18], [18, 23, 25]), ([18, 26, 14], [14, 18, 26]), ([14, 27], [14, 27]), ([28, 18, 0, 1, 2, 3, 4, 5, 6, 7, 8, 9, 10, 11, 12, 13, 14, 15, 16, 17, 18, 19, 20, 21, 22, 23, 24, 25, 26, 27, 28], [28])])
def spec_l8May.B2 : List Nat := [0, 0, 0, 6, 14, 31, 63, 127, 255, 127, 639, 127, 4095, 8191, 16383, 32767, 65535, 131071, 262143, 524287, 524287, 1572863, 4194303, 8388607, 524287, 17301503, 67108863, 134217727, 268435455, 536870911]
theorem spec_l8May.tab2 : rtab .any (opsOf Try.f75 2) = spec_l8May.T2 := by kernel_rfl
theorem spec_l8May.bits2 : waitsOk spec_l8May.T2.2 spec_l8May.B2 = true := by kernel_rfl
set_option maxHeartbeats 8000000 in
set_option maxRecDepth 100000 in
theorem spec_l8May.calls (k : Nat) (a0_0 : Int) (A0_1 : Option Addr) (c0_1 : Nat) (l0_1 : List Int) (A0_2 : Option Addr) (c0_2 : Nat) (l0_2 : List (List (S37))) (A1 : Option Addr) (c1 : Nat) (l1 : List Int) (a2 : Int) (a3 : Int) (a4 : Int) (r : Bool) (w : World) (hr0_1 : Kd.C (Kd.int .i64) w A0_1 l0_1.length l0_1) (hc0_1 : l0_1.length ≤ c0_1) (hr0_2 : Kd.C (Kd.slice 37 k37) w A0_2 l0_2.length l0_2) (hc0_2 : l0_2.length ≤ c0_2) (hr1 : Kd.C (Kd.int .i64) w A1 l1.length l1) (hc1 : l1.length ≤ c1) (h : spec_l8May.f k a0_0 l0_1 l0_2 l1 a2 a3 a4 = some r) :
  Calls Try.prog 75 #[.agg #[.int .i64 a0_0, .slice A0_1 l0_1.length c0_1, .slice A0_2 l0_2.length c0_2], .slice A1 l1.length c1, .int .i64 a2, .int .i64 a3, .int .i64 a4] w fun e w' => e = .returned (.bool r) ∧ Below w.heap.size w w' := by
 have hu46 := Try.underlying28
 have hu91 := Try.underlying37
 have hu25 := Try.underlying25
 have HR0_1 := Z.k hr0_1
 have HC0_1 := Z.k hc0_1
 clear hr0_1 hc0_1
 have HR0_2 := Z.k hr0_2
 have HC0_2 := Z.k hc0_2
 clear hr0_2 hc0_2
 have HR1 := Z.k hr1
 have HC1 := Z.k hc1
 clear hr1 hc1
 have HB := Z.k (Below.refl w.heap.size w)
 have H := h
 clear h
 unfold spec_l8May.f at H
 obtain ⟨c6b0, H⟩ := Z.fd H
 obtain ⟨c7b0, H⟩ := Z.fd H
 obtain ⟨c8b0, H⟩ := Z.fd H
 obtain ⟨c9b0, H⟩ := Z.fd H
 obtain ⟨c10b0, H⟩ := Z.fd H
 by_cases c11 : a3 = (rd l1 a2)
 ·rw [if_pos c11] at H
  have c11b0 : (a3 == (rd l1 a2)) = true := beq_iff_eq.mpr c11
  have c11b1 : (a3 != (rd l1 a2)) = false := bne_eq_false_iff_eq.mpr c11
  clear c11
  obtain rfl := Option.some.inj H
  go_enter Try.func75, Try.ntmps75
  try go_wp2_with (((with_reducible refine gate_dst (N := 5) rfl ?_); refine Z.bx #[.int .i64 a0_0, .slice A0_1 l0_1.length c0_1, .slice A0_2 l0_2.length c0_2] 28 HB ?_; clear HB; intro gb54 w12 BK54 GE54 HB hg hb; have GW54 := GE54; clear hb hg))
  replace BK54 := Z.k (blk_drew BK54.out)
  replace HB := Z.k (below_drew1 HB.out)
  have p55 : (0 ≤ (a2 : Int)) = True := Z.oe
  have q55 : (a2 < (l0_2.length : Int)) = True := Z.oe
  obtain ⟨ad55, A55_0, c55_0, rfl, hx55_0, hl55_0, hi55_0⟩ := at_L5 HR0_2.out a2 Z.od Z.od
  have hw55_0 := hx55_0
  replace hx55_0 := Z.up HB.out hx55_0
  have HR55_0 := Z.k hi55_0
  have HC55_0 := Z.k hl55_0
  clear hi55_0 hl55_0
  have p56 : (0 ≤ (a2 : Int)) = True := Z.oe
  have q56 : (a2 < (l1.length : Int)) = True := Z.oe
  obtain ⟨ad56, rfl, hx56_0⟩ := Kd.at_int HR1.out a2 Z.od Z.od
  have hw56_0 := hx56_0
  replace hx56_0 := Z.up HB.out hx56_0
  have p52 : (0 ≤ ((rd l1 a2) : Int)) = True := Z.oe
  have q52 : ((rd l1 a2) < ((rd_L5 l0_2 a2).length : Int)) = True := Z.oe
  obtain ⟨ad52, A52_0, c52_0, rfl, hx52_0, hx52_1, hx52_2, hl52_0, hi52_0⟩ := at_T37 HR55_0.out (rd l1 a2) Z.od Z.od
  have hw52_2 := hx52_2
  have hw52_1 := hx52_1
  have hw52_0 := hx52_0
  replace hx52_0 := Z.up HB.out hx52_0
  replace hx52_1 := Z.up HB.out hx52_1
  replace hx52_2 := Z.up HB.out hx52_2
  have HR52_0 := Z.k hi52_0
  have HC52_0 := Z.k hl52_0
  clear hi52_0 hl52_0
  refine start_ (n := 13) (S := fun w' => w'.cell? ⟨gb54, 0, none⟩ = some (.int .i64 a0_0) ∧ w'.cell? ⟨gb54, 1, none⟩ = some (.slice A0_1 l0_1.length c0_1) ∧ w'.cell? ⟨gb54, 2, none⟩ = some (.slice (some ad55) l0_2.length c0_2) ∧ w'.cell? (ad55.add (a2).toNat) = some (.slice (some ad52) (rd_L5 l0_2 a2).length c55_0) ∧ w'.cell? (ad56.add (a2).toNat) = some (.int .i64 (rd l1 a2)) ∧ w'.cell? (ad52.add (((rd l1 a2)).toNat * 3)) = some (.slice A52_0 ((rd_T37 (rd_L5 l0_2 a2) (rd l1 a2)).f0).length c52_0) ∧ w'.cell? ⟨(ad52.add (((rd l1 a2)).toNat * 3)).block, (ad52.add (((rd l1 a2)).toNat * 3)).off + 1, none⟩ = some (.int .i64 ((rd_T37 (rd_L5 l0_2 a2) (rd l1 a2)).f1)) ∧ w'.cell? ⟨(ad52.add (((rd l1 a2)).toNat * 3)).block, (ad52.add (((rd l1 a2)).toNat * 3)).off + 2, none⟩ = some (.int .i64 ((rd_T37 (rd_L5 l0_2 a2) (rd l1 a2)).f2))) (ds := []) (Z.mb 13 0) (by kernel_rfl) rfl rfl ⟨Z.b BK54 0, Z.b BK54 1, Z.b BK54 2, (Z.up HB.out hw55_0 :), (Z.up HB.out hw56_0 :), (Z.up HB.out hw52_0 :), (Z.up HB.out hw52_1 :), (Z.up HB.out hw52_2 :)⟩ (fun hHeld => ?_); refine with_tabW spec_l8May.tab1 spec_l8May.bits1 (fun HT_ HW_ => ?_)
  generalize w12.drew = w13 at BK54 HB HR55_0 HR52_0 hx55_0 hx56_0 hx52_0 hx52_1 hx52_2 hHeld ⊢
  refine Z.pv 0 12 13 1 HT_.out ?_
  refine Z.pv 2 14 13 5 HT_.out ?_
  refine Z.pv 5 17 13 37 HT_.out ?_
  refine Z.pv 6 18 13 101 HT_.out ?_
  refine Z.pv 7 19 13 229 HT_.out ?_
  refine Z.t8 1 13 13 231 HT_.out HW_.out hHeld ?_
  refine Z.pv 3 15 13 239 HT_.out ?_
  refine Z.t8 4 16 13 255 HT_.out HW_.out hHeld ?_
  refine Z.t8 8 20 13 511 HT_.out HW_.out hHeld ?_
  refine Z.pv 9 21 13 1023 HT_.out ?_
  refine Z.t8 10 22 13 2047 HT_.out HW_.out hHeld ?_
  refine one_ (i := 11) (N := some 11) (Z.mb 13 4095) rfl rfl (one_of HT_.out (by kernel_rfl)) (by decide) (fun K hK => ?_)
  refine box_step ?hg (N := 11) ?hd (cs := #[.slice none 0 0, .int .i64 0, .int .i64 0]) (t := 37) ?hr ?_; (case hd | hg => rfl); (case hr => (go_simp; done))
  intro gb53 hg w14 hbox hb
  have BK53 := Z.k hbox
  have GW53 := Z.gh hg (Z.bs HB.out GE54.out)
  have GE53 := Z.gh hg (Z.bs HB.out GE54.out)
  replace HB := Z.st (Z.bs HB.out GE54.out) hb
  have NB54_53 := Z.nl hg BK54
  have NB53_54 := Z.ng hg BK54
  replace BK54 := Z.bb BK54 hb
  clear hb hbox hg
  refine hK.out _ _ ⟨Z.b BK54 0, Z.b BK54 1, Z.b BK54 2, (Z.up HB.out hw55_0 :), (Z.up HB.out hw56_0 :), (Z.up HB.out hw52_0 :), (Z.up HB.out hw52_1 :), (Z.up HB.out hw52_2 :)⟩ (fun hHeld => ?_)
  clear hK K
  refine Z.nm ?_
  refine one_ (i := 12) (N := none) #[true, true, true, true, true, true, true, true, true, true, true, true, true] rfl rfl (one_of HT_.out (by kernel_rfl)) (by decide) (fun K hK => ?_)
  have hs15 : w14.cell? ⟨gb53, 0, none⟩ = some (.slice none 0 0) := Z.b BK53 0
  have hfs15 := blk_frozen BK53.out 0
  have hns15_0 := NB54_53.out
  have hms15_0 := NB53_54.out
  have hs16 : w14.cell? ⟨gb53, 1, none⟩ = some (.int .i64 0) := Z.b BK53 1
  have hfs16 := blk_frozen BK53.out 1
  have hns16_0 := NB54_53.out
  have hms16_0 := NB53_54.out
  have hs17 : w14.cell? ⟨gb53, 2, none⟩ = some (.int .i64 0) := Z.b BK53 2
  have hfs17 := blk_frozen BK53.out 2
  have hns17_0 := NB54_53.out
  have hms17_0 := NB53_54.out
  refine skip_ (w1 := ?_) (by rfl) rfl ?_ ?_
  rotate_left
  ·go_simp
   rfl
  refine hK.out _ _ ⟨(Z.f3 NB54_53.out (hHeld.1)), (Z.f3 NB54_53.out (hHeld.2.1)), (Z.f3 NB54_53.out (hHeld.2.2.1)), (Z.f3 (Z.fn hw55_0 GW53.out) (hHeld.2.2.2.1)), (Z.f3 (Z.fn hw56_0 GW53.out) (hHeld.2.2.2.2.1)), (Z.f3 (Z.fn hw52_0 GW53.out) (hHeld.2.2.2.2.2.1)), (Z.f3 (Z.fn hw52_1 GW53.out) (hHeld.2.2.2.2.2.2.1)), (Z.f3 (Z.fn hw52_2 GW53.out) (hHeld.2.2.2.2.2.2.2))⟩ (fun hHeld => ?_)
  clear hK K
  refine done_ (done_of HT_.out (by kernel_rfl)) ?_
  try go_wp2
  have n0_ : Aside0 ((((w14.setCell ⟨gb53, 0, none⟩ (.slice A52_0 ((rd_T37 (rd_L5 l0_2 a2) (rd l1 a2)).f0).length c52_0)).setCell ⟨gb53, 1, none⟩ (.int .i64 ((rd_T37 (rd_L5 l0_2 a2) (rd l1 a2)).f1))).setCell ⟨gb53, 2, none⟩ (.int .i64 ((rd_T37 (rd_L5 l0_2 a2) (rd l1 a2)).f2))).heap[gb54]? = some (.cells #[.int .i64 a0_0, .slice A0_1 l0_1.length c0_1, .slice (some ad55) l0_2.length c0_2] 28 (0, 0))) := ⟨by refine blk_far ?_ NB54_53.out _; refine blk_far ?_ NB54_53.out _; refine blk_far ?_ NB54_53.out _; exact BK54.out⟩
  have n1_ : Aside0 ((((w14.setCell ⟨gb53, 0, none⟩ (.slice A52_0 ((rd_T37 (rd_L5 l0_2 a2) (rd l1 a2)).f0).length c52_0)).setCell ⟨gb53, 1, none⟩ (.int .i64 ((rd_T37 (rd_L5 l0_2 a2) (rd l1 a2)).f1))).setCell ⟨gb53, 2, none⟩ (.int .i64 ((rd_T37 (rd_L5 l0_2 a2) (rd l1 a2)).f2))).heap[gb53]? = some (.cells #[.slice A52_0 ((rd_T37 (rd_L5 l0_2 a2) (rd l1 a2)).f0).length c52_0, .int .i64 ((rd_T37 (rd_L5 l0_2 a2) (rd l1 a2)).f1), .int .i64 ((rd_T37 (rd_L5 l0_2 a2) (rd l1 a2)).f2)] 37 (0, 0))) := ⟨by refine blk_put (cs := #[.slice A52_0 ((rd_T37 (rd_L5 l0_2 a2) (rd l1 a2)).f0).length c52_0, .int .i64 ((rd_T37 (rd_L5 l0_2 a2) (rd l1 a2)).f1), .int .i64 0]) ?_ 2 _ rfl; refine blk_put (cs := #[.slice A52_0 ((rd_T37 (rd_L5 l0_2 a2) (rd l1 a2)).f0).length c52_0, .int .i64 0, .int .i64 0]) ?_ 1 _ rfl; refine blk_put (cs := #[.slice none 0 0, .int .i64 0, .int .i64 0]) ?_ 0 _ rfl; exact BK53.out⟩
  have n2_ : Aside0 (Below w.heap.size w (((w14.setCell ⟨gb53, 0, none⟩ (.slice A52_0 ((rd_T37 (rd_L5 l0_2 a2) (rd l1 a2)).f0).length c52_0)).setCell ⟨gb53, 1, none⟩ (.int .i64 ((rd_T37 (rd_L5 l0_2 a2) (rd l1 a2)).f1))).setCell ⟨gb53, 2, none⟩ (.int .i64 ((rd_T37 (rd_L5 l0_2 a2) (rd l1 a2)).f2)))) := ⟨by repeat ((with_reducible first | exact HB.out | refine below_set ?_ GE53.out))⟩
  (try clear BK54)
  (try clear BK53)
  (try clear HB)
  generalize (((w14.setCell ⟨gb53, 0, none⟩ (.slice A52_0 ((rd_T37 (rd_L5 l0_2 a2) (rd l1 a2)).f0).length c52_0)).setCell ⟨gb53, 1, none⟩ (.int .i64 ((rd_T37 (rd_L5 l0_2 a2) (rd l1 a2)).f1))).setCell ⟨gb53, 2, none⟩ (.int .i64 ((rd_T37 (rd_L5 l0_2 a2) (rd l1 a2)).f2))) = w18 at n0_ n1_ n2_ ⊢
  have BK54 := n0_
  have BK53 := n1_
  have HB := n2_
  clear n0_ n1_ n2_
  replace BK54 := Z.k (blk_drew BK54.out)
  replace BK53 := Z.k (blk_drew BK53.out)
  replace HB := Z.k (below_drew1 HB.out)
  have p57 : (0 ≤ (a2 : Int)) = True := Z.oe
  have q57 : (a2 < (l1.length : Int)) = True := Z.oe
  obtain ⟨ad57, e57, hx57_0⟩ := Kd.at_int HR1.out a2 Z.od Z.od
  have hw57_0 := hx57_0
  obtain rfl : ad56 = ad57 := (by injection e57)
  replace hx57_0 := Z.up HB.out hx57_0
  refine start_ (n := 30) (S := fun w' => w'.cell? (ad56.add (a2).toNat) = some (.int .i64 (rd l1 a2))) (ds := []) (Z.mb 30 0) (by kernel_rfl) rfl rfl ((Z.up HB.out hw57_0 :)) (fun hHeld => ?_); refine with_tabW spec_l8May.tab2 spec_l8May.bits2 (fun HT_ HW_ => ?_)
  generalize w18.drew = w19 at BK54 BK53 HB hx57_0 hHeld ⊢
  refine Z.pv 0 23 30 1 HT_.out ?_
  refine Z.pv 1 24 30 3 HT_.out ?_
  refine Z.pv 2 25 30 7 HT_.out ?_
  refine Z.pv 3 26 30 15 HT_.out ?_
  refine take_ (i := 4) (N := some 27) (v := ?_) (a' := ?_) #[true, true, true, true, true, false, false, false, false, false, false, false, false, false, false, false, false, false, false, false, false, false, false, false, false, false, false, false, false, false] rfl rfl (take_ofW HT_.out HW_.out (by kernel_rfl)) (fun _ _ _ h => h) (Or.inl ⟨by rfl, ?_⟩) hHeld ?_ ?_
  rotate_left
  ·intro w' s0
   go_simp
   with_reducible rfl
  rotate_left
  ·simp only [Act.put, List.setIfInBounds_toArray, List.set_cons_zero, List.set_cons_succ, i64_w, i32_w]
   rfl
  refine Z.pv 5 28 30 63 HT_.out ?_
  refine Z.pv 6 29 30 127 HT_.out ?_
  refine Z.pu 7 30 30 255 HT_.out ?_
  refine Z.pu 8 31 30 511 HT_.out ?_
  refine Z.pu 9 32 30 1023 HT_.out ?_
  refine Z.pu 10 33 30 2047 HT_.out ?_
  refine Z.pu 11 34 30 4095 HT_.out ?_
  refine Z.pu 12 35 30 8191 HT_.out ?_
  refine Z.pv 13 36 30 16383 HT_.out ?_
  refine Z.pv 14 37 30 32767 HT_.out ?_
  refine Z.pu 15 38 30 65535 HT_.out ?_
  refine Z.pu 16 39 30 131071 HT_.out ?_
  refine Z.pu 17 40 30 262143 HT_.out ?_
  refine Z.pu 18 41 30 524287 HT_.out ?_
  refine Z.pu 19 42 30 1048575 HT_.out ?_
  refine Z.pu 20 43 30 2097151 HT_.out ?_
  refine Z.pu 21 44 30 4194303 HT_.out ?_
  refine Z.pu 22 45 30 8388607 HT_.out ?_
  refine Z.pu 23 46 30 16777215 HT_.out ?_
  refine Z.pu 24 47 30 33554431 HT_.out ?_
  refine Z.pu 25 48 30 67108863 HT_.out ?_
  refine Z.pu 26 49 30 134217727 HT_.out ?_
  refine Z.pu 27 50 30 268435455 HT_.out ?_
  refine Z.pv 28 51 30 536870911 HT_.out ?_
  refine Z.pv 29 10 30 1073741823 HT_.out ?_
  refine done_ (done_of HT_.out (by kernel_rfl)) ?_
  try go_wp2
  go_ret
  exact ⟨by rfl, HB.out⟩
 rw [if_neg c11] at H
 have c11b0 : (a3 == (rd l1 a2)) = false := beq_eq_false_iff_ne.mpr c11
 have c11b1 : (a3 != (rd l1 a2)) = true := bne_iff_ne.mpr c11
 revert H; refine Z.bd ?_; rintro t59 A20 H
 by_cases c21 : t59 = true
 rotate_left
 ·replace c21 := Bool.eq_false_iff.mpr c21
  subst c21
  rw [if_neg (show ¬ (false = true) by decide)] at H
  obtain rfl := Option.some.inj H
  go_enter Try.func75, Try.ntmps75
  try go_wp2_with (((with_reducible refine gate_dst (N := 5) rfl ?_); refine Z.bx #[.int .i64 a0_0, .slice A0_1 l0_1.length c0_1, .slice A0_2 l0_2.length c0_2] 28 HB ?_; clear HB; intro gb54 w43 BK54 GE54 HB hg hb; have GW54 := GE54; clear hb hg))
  replace BK54 := Z.k (blk_drew BK54.out)
  replace HB := Z.k (below_drew1 HB.out)
  have p55 : (0 ≤ (a2 : Int)) = True := Z.oe
  have q55 : (a2 < (l0_2.length : Int)) = True := Z.oe
  obtain ⟨ad55, A55_0, c55_0, rfl, hx55_0, hl55_0, hi55_0⟩ := at_L5 HR0_2.out a2 Z.od Z.od
  have hw55_0 := hx55_0
  replace hx55_0 := Z.up HB.out hx55_0
  have HR55_0 := Z.k hi55_0
  have HC55_0 := Z.k hl55_0
  clear hi55_0 hl55_0
  have p56 : (0 ≤ (a2 : Int)) = True := Z.oe
  have q56 : (a2 < (l1.length : Int)) = True := Z.oe
  obtain ⟨ad56, rfl, hx56_0⟩ := Kd.at_int HR1.out a2 Z.od Z.od
  have hw56_0 := hx56_0
  replace hx56_0 := Z.up HB.out hx56_0
  have p52 : (0 ≤ ((rd l1 a2) : Int)) = True := Z.oe
  have q52 : ((rd l1 a2) < ((rd_L5 l0_2 a2).length : Int)) = True := Z.oe
  obtain ⟨ad52, A52_0, c52_0, rfl, hx52_0, hx52_1, hx52_2, hl52_0, hi52_0⟩ := at_T37 HR55_0.out (rd l1 a2) Z.od Z.od
  have hw52_2 := hx52_2
  have hw52_1 := hx52_1
  have hw52_0 := hx52_0
  replace hx52_0 := Z.up HB.out hx52_0
  replace hx52_1 := Z.up HB.out hx52_1
  replace hx52_2 := Z.up HB.out hx52_2
  have HR52_0 := Z.k hi52_0
  have HC52_0 := Z.k hl52_0
  clear hi52_0 hl52_0
  refine start_ (n := 13) (S := fun w' => w'.cell? ⟨gb54, 0, none⟩ = some (.int .i64 a0_0) ∧ w'.cell? ⟨gb54, 1, none⟩ = some (.slice A0_1 l0_1.length c0_1) ∧ w'.cell? ⟨gb54, 2, none⟩ = some (.slice (some ad55) l0_2.length c0_2) ∧ w'.cell? (ad55.add (a2).toNat) = some (.slice (some ad52) (rd_L5 l0_2 a2).length c55_0) ∧ w'.cell? (ad56.add (a2).toNat) = some (.int .i64 (rd l1 a2)) ∧ w'.cell? (ad52.add (((rd l1 a2)).toNat * 3)) = some (.slice A52_0 ((rd_T37 (rd_L5 l0_2 a2) (rd l1 a2)).f0).length c52_0) ∧ w'.cell? ⟨(ad52.add (((rd l1 a2)).toNat * 3)).block, (ad52.add (((rd l1 a2)).toNat * 3)).off + 1, none⟩ = some (.int .i64 ((rd_T37 (rd_L5 l0_2 a2) (rd l1 a2)).f1)) ∧ w'.cell? ⟨(ad52.add (((rd l1 a2)).toNat * 3)).block, (ad52.add (((rd l1 a2)).toNat * 3)).off + 2, none⟩ = some (.int .i64 ((rd_T37 (rd_L5 l0_2 a2) (rd l1 a2)).f2))) (ds := []) (Z.mb 13 0) (by kernel_rfl) rfl rfl ⟨Z.b BK54 0, Z.b BK54 1, Z.b BK54 2, (Z.up HB.out hw55_0 :), (Z.up HB.out hw56_0 :), (Z.up HB.out hw52_0 :), (Z.up HB.out hw52_1 :), (Z.up HB.out hw52_2 :)⟩ (fun hHeld => ?_); refine with_tabW spec_l8May.tab1 spec_l8May.bits1 (fun HT_ HW_ => ?_)
  generalize w43.drew = w44 at BK54 HB HR55_0 HR52_0 hx55_0 hx56_0 hx52_0 hx52_1 hx52_2 hHeld ⊢
  refine Z.pv 0 12 13 1 HT_.out ?_
  refine Z.pv 2 14 13 5 HT_.out ?_
  refine Z.pv 5 17 13 37 HT_.out ?_
  refine Z.pv 6 18 13 101 HT_.out ?_
  refine Z.pv 7 19 13 229 HT_.out ?_
  refine Z.t8 1 13 13 231 HT_.out HW_.out hHeld ?_
  refine Z.pv 3 15 13 239 HT_.out ?_
  refine Z.t8 4 16 13 255 HT_.out HW_.out hHeld ?_
  refine Z.t8 8 20 13 511 HT_.out HW_.out hHeld ?_
  refine Z.pv 9 21 13 1023 HT_.out ?_
  refine Z.t8 10 22 13 2047 HT_.out HW_.out hHeld ?_
  refine one_ (i := 11) (N := some 11) (Z.mb 13 4095) rfl rfl (one_of HT_.out (by kernel_rfl)) (by decide) (fun K hK => ?_)
  refine box_step ?hg (N := 11) ?hd (cs := #[.slice none 0 0, .int .i64 0, .int .i64 0]) (t := 37) ?hr ?_; (case hd | hg => rfl); (case hr => (go_simp; done))
  intro gb53 hg w45 hbox hb
  have BK53 := Z.k hbox
  have GW53 := Z.gh hg (Z.bs HB.out GE54.out)
  have GE53 := Z.gh hg (Z.bs HB.out GE54.out)
  replace HB := Z.st (Z.bs HB.out GE54.out) hb
  have NB54_53 := Z.nl hg BK54
  have NB53_54 := Z.ng hg BK54
  replace BK54 := Z.bb BK54 hb
  clear hb hbox hg
  refine hK.out _ _ ⟨Z.b BK54 0, Z.b BK54 1, Z.b BK54 2, (Z.up HB.out hw55_0 :), (Z.up HB.out hw56_0 :), (Z.up HB.out hw52_0 :), (Z.up HB.out hw52_1 :), (Z.up HB.out hw52_2 :)⟩ (fun hHeld => ?_)
  clear hK K
  refine Z.nm ?_
  refine one_ (i := 12) (N := none) #[true, true, true, true, true, true, true, true, true, true, true, true, true] rfl rfl (one_of HT_.out (by kernel_rfl)) (by decide) (fun K hK => ?_)
  have hs46 : w45.cell? ⟨gb53, 0, none⟩ = some (.slice none 0 0) := Z.b BK53 0
  have hfs46 := blk_frozen BK53.out 0
  have hns46_0 := NB54_53.out
  have hms46_0 := NB53_54.out
  have hs47 : w45.cell? ⟨gb53, 1, none⟩ = some (.int .i64 0) := Z.b BK53 1
  have hfs47 := blk_frozen BK53.out 1
  have hns47_0 := NB54_53.out
  have hms47_0 := NB53_54.out
  have hs48 : w45.cell? ⟨gb53, 2, none⟩ = some (.int .i64 0) := Z.b BK53 2
  have hfs48 := blk_frozen BK53.out 2
  have hns48_0 := NB54_53.out
  have hms48_0 := NB53_54.out
  refine skip_ (w1 := ?_) (by rfl) rfl ?_ ?_
  rotate_left
  ·go_simp
   rfl
  refine hK.out _ _ ⟨(Z.f3 NB54_53.out (hHeld.1)), (Z.f3 NB54_53.out (hHeld.2.1)), (Z.f3 NB54_53.out (hHeld.2.2.1)), (Z.f3 (Z.fn hw55_0 GW53.out) (hHeld.2.2.2.1)), (Z.f3 (Z.fn hw56_0 GW53.out) (hHeld.2.2.2.2.1)), (Z.f3 (Z.fn hw52_0 GW53.out) (hHeld.2.2.2.2.2.1)), (Z.f3 (Z.fn hw52_1 GW53.out) (hHeld.2.2.2.2.2.2.1)), (Z.f3 (Z.fn hw52_2 GW53.out) (hHeld.2.2.2.2.2.2.2))⟩ (fun hHeld => ?_)
  clear hK K
  refine done_ (done_of HT_.out (by kernel_rfl)) ?_
  try go_wp2
  have n0_ : Aside0 ((((w45.setCell ⟨gb53, 0, none⟩ (.slice A52_0 ((rd_T37 (rd_L5 l0_2 a2) (rd l1 a2)).f0).length c52_0)).setCell ⟨gb53, 1, none⟩ (.int .i64 ((rd_T37 (rd_L5 l0_2 a2) (rd l1 a2)).f1))).setCell ⟨gb53, 2, none⟩ (.int .i64 ((rd_T37 (rd_L5 l0_2 a2) (rd l1 a2)).f2))).heap[gb54]? = some (.cells #[.int .i64 a0_0, .slice A0_1 l0_1.length c0_1, .slice (some ad55) l0_2.length c0_2] 28 (0, 0))) := ⟨by refine blk_far ?_ NB54_53.out _; refine blk_far ?_ NB54_53.out _; refine blk_far ?_ NB54_53.out _; exact BK54.out⟩
  have n1_ : Aside0 ((((w45.setCell ⟨gb53, 0, none⟩ (.slice A52_0 ((rd_T37 (rd_L5 l0_2 a2) (rd l1 a2)).f0).length c52_0)).setCell ⟨gb53, 1, none⟩ (.int .i64 ((rd_T37 (rd_L5 l0_2 a2) (rd l1 a2)).f1))).setCell ⟨gb53, 2, none⟩ (.int .i64 ((rd_T37 (rd_L5 l0_2 a2) (rd l1 a2)).f2))).heap[gb53]? = some (.cells #[.slice A52_0 ((rd_T37 (rd_L5 l0_2 a2) (rd l1 a2)).f0).length c52_0, .int .i64 ((rd_T37 (rd_L5 l0_2 a2) (rd l1 a2)).f1), .int .i64 ((rd_T37 (rd_L5 l0_2 a2) (rd l1 a2)).f2)] 37 (0, 0))) := ⟨by refine blk_put (cs := #[.slice A52_0 ((rd_T37 (rd_L5 l0_2 a2) (rd l1 a2)).f0).length c52_0, .int .i64 ((rd_T37 (rd_L5 l0_2 a2) (rd l1 a2)).f1), .int .i64 0]) ?_ 2 _ rfl; refine blk_put (cs := #[.slice A52_0 ((rd_T37 (rd_L5 l0_2 a2) (rd l1 a2)).f0).length c52_0, .int .i64 0, .int .i64 0]) ?_ 1 _ rfl; refine blk_put (cs := #[.slice none 0 0, .int .i64 0, .int .i64 0]) ?_ 0 _ rfl; exact BK53.out⟩
  have n2_ : Aside0 (Below w.heap.size w (((w45.setCell ⟨gb53, 0, none⟩ (.slice A52_0 ((rd_T37 (rd_L5 l0_2 a2) (rd l1 a2)).f0).length c52_0)).setCell ⟨gb53, 1, none⟩ (.int .i64 ((rd_T37 (rd_L5 l0_2 a2) (rd l1 a2)).f1))).setCell ⟨gb53, 2, none⟩ (.int .i64 ((rd_T37 (rd_L5 l0_2 a2) (rd l1 a2)).f2)))) := ⟨by repeat ((with_reducible first | exact HB.out | refine below_set ?_ GE53.out))⟩
  (try clear BK54)
  (try clear BK53)
  (try clear HB)
  generalize (((w45.setCell ⟨gb53, 0, none⟩ (.slice A52_0 ((rd_T37 (rd_L5 l0_2 a2) (rd l1 a2)).f0).length c52_0)).setCell ⟨gb53, 1, none⟩ (.int .i64 ((rd_T37 (rd_L5 l0_2 a2) (rd l1 a2)).f1))).setCell ⟨gb53, 2, none⟩ (.int .i64 ((rd_T37 (rd_L5 l0_2 a2) (rd l1 a2)).f2))) = w49 at n0_ n1_ n2_ ⊢
  have BK54 := n0_
  have BK53 := n1_
  have HB := n2_
  clear n0_ n1_ n2_
  replace BK54 := Z.k (blk_drew BK54.out)
  replace BK53 := Z.k (blk_drew BK53.out)
  replace HB := Z.k (below_drew1 HB.out)
  have p57 : (0 ≤ (a2 : Int)) = True := Z.oe
  have q57 : (a2 < (l1.length : Int)) = True := Z.oe
  obtain ⟨ad57, e57, hx57_0⟩ := Kd.at_int HR1.out a2 Z.od Z.od
  have hw57_0 := hx57_0
  obtain rfl : ad56 = ad57 := (by injection e57)
  replace hx57_0 := Z.up HB.out hx57_0
  refine start_ (n := 30) (S := fun w' => w'.cell? ⟨gb54, 0, none⟩ = some (.int .i64 a0_0) ∧ w'.cell? ⟨gb54, 1, none⟩ = some (.slice A0_1 l0_1.length c0_1) ∧ w'.cell? ⟨gb54, 2, none⟩ = some (.slice (some ad55) l0_2.length c0_2) ∧ w'.cell? ⟨gb53, 0, none⟩ = some (.slice A52_0 ((rd_T37 (rd_L5 l0_2 a2) (rd l1 a2)).f0).length c52_0) ∧ w'.cell? ⟨gb53, 1, none⟩ = some (.int .i64 ((rd_T37 (rd_L5 l0_2 a2) (rd l1 a2)).f1)) ∧ w'.cell? ⟨gb53, 2, none⟩ = some (.int .i64 ((rd_T37 (rd_L5 l0_2 a2) (rd l1 a2)).f2)) ∧ w'.cell? (ad56.add (a2).toNat) = some (.int .i64 (rd l1 a2))) (ds := []) (Z.mb 30 0) (by kernel_rfl) rfl rfl ⟨Z.b BK54 0, Z.b BK54 1, Z.b BK54 2, Z.b BK53 0, Z.b BK53 1, Z.b BK53 2, (Z.up HB.out hw57_0 :)⟩ (fun hHeld => ?_); refine with_tabW spec_l8May.tab2 spec_l8May.bits2 (fun HT_ HW_ => ?_)
  generalize w49.drew = w50 at BK54 BK53 HB hx57_0 hHeld ⊢
  refine Z.pv 0 23 30 1 HT_.out ?_
  refine Z.pv 1 24 30 3 HT_.out ?_
  refine Z.pv 2 25 30 7 HT_.out ?_
  refine Z.pv 3 26 30 15 HT_.out ?_
  refine Z.t7 4 27 30 31 HT_.out HW_.out hHeld ?_
  refine Z.pv 5 28 30 63 HT_.out ?_
  refine Z.pv 6 29 30 127 HT_.out ?_
  refine Z.pv 7 30 30 255 HT_.out ?_
  refine Z.pv 9 32 30 767 HT_.out ?_
  refine Z.pv 11 34 30 2815 HT_.out ?_
  refine Z.t7 8 31 30 3071 HT_.out HW_.out hHeld ?_
  refine Z.t7 10 33 30 4095 HT_.out HW_.out hHeld ?_
  refine one_ (i := 12) (N := some 35) (Z.mb 30 8191) rfl rfl (one_of HT_.out (by kernel_rfl)) (by decide) (fun K hK => ?_)
  refine goes_ Try.func102 (by kernel_rfl) rfl #[.agg #[.int .i64 a0_0, .slice A0_1 l0_1.length c0_1], .slice A52_0 ((rd_T37 (rd_L5 l0_2 a2) (rd l1 a2)).f0).length c52_0, .int .i64 a4] (by rfl) rfl rfl Z.ar ?_
  with_reducible refine (spec_l4Says.calls k a0_0 _ _ l0_1 _ _ ((rd_T37 (rd_L5 l0_2 a2) (rd l1 a2)).f0) a4 false _ ?q1 ?q2 ?q3 ?q4 A20.out).mono ?_
  (case q1 => exact Z.cc HR0_1 HB)
  (case q2 => exact HC0_1.out)
  (case q3 => exact Z.cc HR52_0 HB)
  (case q4 => exact HC52_0.out)
  rintro e w51 ⟨rfl, hb⟩
  refine ⟨_, rfl, ?_⟩
  replace BK54 := Z.bb BK54 hb
  replace BK53 := Z.bb BK53 hb
  replace HB := Z.k (below_step HB.out hb)
  (try clear hb)
  refine hK.out _ _ ⟨Z.b BK54 0, Z.b BK54 1, Z.b BK54 2, Z.b BK53 0, Z.b BK53 1, Z.b BK53 2, (Z.up HB.out hw57_0 :)⟩ (fun hHeld => ?_)
  clear hK K
  refine Z.nm ?_
  refine Z.pv 13 36 30 16383 HT_.out ?_
  refine Z.pv 14 37 30 32767 HT_.out ?_
  refine Z.pu 15 38 30 65535 HT_.out ?_
  refine Z.pu 16 39 30 131071 HT_.out ?_
  refine Z.pu 17 40 30 262143 HT_.out ?_
  refine Z.pu 18 41 30 524287 HT_.out ?_
  refine Z.pu 19 42 30 1048575 HT_.out ?_
  refine Z.pu 20 43 30 2097151 HT_.out ?_
  refine Z.pu 21 44 30 4194303 HT_.out ?_
  refine Z.pu 22 45 30 8388607 HT_.out ?_
  refine Z.pu 23 46 30 16777215 HT_.out ?_
  refine Z.pu 24 47 30 33554431 HT_.out ?_
  refine Z.pu 25 48 30 67108863 HT_.out ?_
  refine Z.pu 26 49 30 134217727 HT_.out ?_
  refine Z.pu 27 50 30 268435455 HT_.out ?_
  refine Z.pv 28 51 30 536870911 HT_.out ?_
  refine Z.pv 29 10 30 1073741823 HT_.out ?_
  refine done_ (done_of HT_.out (by kernel_rfl)) ?_
  try go_wp2
  go_ret
  exact ⟨by rfl, HB.out⟩

 subst c21
 rw [if_pos rfl] at H
 by_cases c22 : ((rd_T37 (rd_L5 l0_2 a2) (rd l1 a2)).f1) = (-1)
 ·rw [if_pos c22] at H
  have c22b0 : (((rd_T37 (rd_L5 l0_2 a2) (rd l1 a2)).f1) == (-1)) = true := beq_iff_eq.mpr c22
  have c22b1 : (((rd_T37 (rd_L5 l0_2 a2) (rd l1 a2)).f1) != (-1)) = false := bne_eq_false_iff_eq.mpr c22
  clear c22
  obtain rfl := Option.some.inj H
  go_enter Try.func75, Try.ntmps75
  try go_wp2_with (((with_reducible refine gate_dst (N := 5) rfl ?_); refine Z.bx #[.int .i64 a0_0, .slice A0_1 l0_1.length c0_1, .slice A0_2 l0_2.length c0_2] 28 HB ?_; clear HB; intro gb54 w23 BK54 GE54 HB hg hb; have GW54 := GE54; clear hb hg))
  replace BK54 := Z.k (blk_drew BK54.out)
  replace HB := Z.k (below_drew1 HB.out)
  have p55 : (0 ≤ (a2 : Int)) = True := Z.oe
  have q55 : (a2 < (l0_2.length : Int)) = True := Z.oe
  obtain ⟨ad55, A55_0, c55_0, rfl, hx55_0, hl55_0, hi55_0⟩ := at_L5 HR0_2.out a2 Z.od Z.od
  have hw55_0 := hx55_0
  replace hx55_0 := Z.up HB.out hx55_0
  have HR55_0 := Z.k hi55_0
  have HC55_0 := Z.k hl55_0
  clear hi55_0 hl55_0
  have p56 : (0 ≤ (a2 : Int)) = True := Z.oe
  have q56 : (a2 < (l1.length : Int)) = True := Z.oe
  obtain ⟨ad56, rfl, hx56_0⟩ := Kd.at_int HR1.out a2 Z.od Z.od
  have hw56_0 := hx56_0
  replace hx56_0 := Z.up HB.out hx56_0
  have p52 : (0 ≤ ((rd l1 a2) : Int)) = True := Z.oe
  have q52 : ((rd l1 a2) < ((rd_L5 l0_2 a2).length : Int)) = True := Z.oe
  obtain ⟨ad52, A52_0, c52_0, rfl, hx52_0, hx52_1, hx52_2, hl52_0, hi52_0⟩ := at_T37 HR55_0.out (rd l1 a2) Z.od Z.od
  have hw52_2 := hx52_2
  have hw52_1 := hx52_1
  have hw52_0 := hx52_0
  replace hx52_0 := Z.up HB.out hx52_0
  replace hx52_1 := Z.up HB.out hx52_1
  replace hx52_2 := Z.up HB.out hx52_2
  have HR52_0 := Z.k hi52_0
  have HC52_0 := Z.k hl52_0
  clear hi52_0 hl52_0
  refine start_ (n := 13) (S := fun w' => w'.cell? ⟨gb54, 0, none⟩ = some (.int .i64 a0_0) ∧ w'.cell? ⟨gb54, 1, none⟩ = some (.slice A0_1 l0_1.length c0_1) ∧ w'.cell? ⟨gb54, 2, none⟩ = some (.slice (some ad55) l0_2.length c0_2) ∧ w'.cell? (ad55.add (a2).toNat) = some (.slice (some ad52) (rd_L5 l0_2 a2).length c55_0) ∧ w'.cell? (ad56.add (a2).toNat) = some (.int .i64 (rd l1 a2)) ∧ w'.cell? (ad52.add (((rd l1 a2)).toNat * 3)) = some (.slice A52_0 ((rd_T37 (rd_L5 l0_2 a2) (rd l1 a2)).f0).length c52_0) ∧ w'.cell? ⟨(ad52.add (((rd l1 a2)).toNat * 3)).block, (ad52.add (((rd l1 a2)).toNat * 3)).off + 1, none⟩ = some (.int .i64 ((rd_T37 (rd_L5 l0_2 a2) (rd l1 a2)).f1)) ∧ w'.cell? ⟨(ad52.add (((rd l1 a2)).toNat * 3)).block, (ad52.add (((rd l1 a2)).toNat * 3)).off + 2, none⟩ = some (.int .i64 ((rd_T37 (rd_L5 l0_2 a2) (rd l1 a2)).f2))) (ds := []) (Z.mb 13 0) (by kernel_rfl) rfl rfl ⟨Z.b BK54 0, Z.b BK54 1, Z.b BK54 2, (Z.up HB.out hw55_0 :), (Z.up HB.out hw56_0 :), (Z.up HB.out hw52_0 :), (Z.up HB.out hw52_1 :), (Z.up HB.out hw52_2 :)⟩ (fun hHeld => ?_); refine with_tabW spec_l8May.tab1 spec_l8May.bits1 (fun HT_ HW_ => ?_)
  generalize w23.drew = w24 at BK54 HB HR55_0 HR52_0 hx55_0 hx56_0 hx52_0 hx52_1 hx52_2 hHeld ⊢
  refine Z.pv 0 12 13 1 HT_.out ?_
  refine Z.pv 2 14 13 5 HT_.out ?_
  refine Z.pv 5 17 13 37 HT_.out ?_
  refine Z.pv 6 18 13 101 HT_.out ?_
  refine Z.pv 7 19 13 229 HT_.out ?_
  refine Z.t8 1 13 13 231 HT_.out HW_.out hHeld ?_
  refine Z.pv 3 15 13 239 HT_.out ?_
  refine Z.t8 4 16 13 255 HT_.out HW_.out hHeld ?_
  refine Z.t8 8 20 13 511 HT_.out HW_.out hHeld ?_
  refine Z.pv 9 21 13 1023 HT_.out ?_
  refine Z.t8 10 22 13 2047 HT_.out HW_.out hHeld ?_
  refine one_ (i := 11) (N := some 11) (Z.mb 13 4095) rfl rfl (one_of HT_.out (by kernel_rfl)) (by decide) (fun K hK => ?_)
  refine box_step ?hg (N := 11) ?hd (cs := #[.slice none 0 0, .int .i64 0, .int .i64 0]) (t := 37) ?hr ?_; (case hd | hg => rfl); (case hr => (go_simp; done))
  intro gb53 hg w25 hbox hb
  have BK53 := Z.k hbox
  have GW53 := Z.gh hg (Z.bs HB.out GE54.out)
  have GE53 := Z.gh hg (Z.bs HB.out GE54.out)
  replace HB := Z.st (Z.bs HB.out GE54.out) hb
  have NB54_53 := Z.nl hg BK54
  have NB53_54 := Z.ng hg BK54
  replace BK54 := Z.bb BK54 hb
  clear hb hbox hg
  refine hK.out _ _ ⟨Z.b BK54 0, Z.b BK54 1, Z.b BK54 2, (Z.up HB.out hw55_0 :), (Z.up HB.out hw56_0 :), (Z.up HB.out hw52_0 :), (Z.up HB.out hw52_1 :), (Z.up HB.out hw52_2 :)⟩ (fun hHeld => ?_)
  clear hK K
  refine Z.nm ?_
  refine one_ (i := 12) (N := none) #[true, true, true, true, true, true, true, true, true, true, true, true, true] rfl rfl (one_of HT_.out (by kernel_rfl)) (by decide) (fun K hK => ?_)
  have hs26 : w25.cell? ⟨gb53, 0, none⟩ = some (.slice none 0 0) := Z.b BK53 0
  have hfs26 := blk_frozen BK53.out 0
  have hns26_0 := NB54_53.out
  have hms26_0 := NB53_54.out
  have hs27 : w25.cell? ⟨gb53, 1, none⟩ = some (.int .i64 0) := Z.b BK53 1
  have hfs27 := blk_frozen BK53.out 1
  have hns27_0 := NB54_53.out
  have hms27_0 := NB53_54.out
  have hs28 : w25.cell? ⟨gb53, 2, none⟩ = some (.int .i64 0) := Z.b BK53 2
  have hfs28 := blk_frozen BK53.out 2
  have hns28_0 := NB54_53.out
  have hms28_0 := NB53_54.out
  refine skip_ (w1 := ?_) (by rfl) rfl ?_ ?_
  rotate_left
  ·go_simp
   rfl
  refine hK.out _ _ ⟨(Z.f3 NB54_53.out (hHeld.1)), (Z.f3 NB54_53.out (hHeld.2.1)), (Z.f3 NB54_53.out (hHeld.2.2.1)), (Z.f3 (Z.fn hw55_0 GW53.out) (hHeld.2.2.2.1)), (Z.f3 (Z.fn hw56_0 GW53.out) (hHeld.2.2.2.2.1)), (Z.f3 (Z.fn hw52_0 GW53.out) (hHeld.2.2.2.2.2.1)), (Z.f3 (Z.fn hw52_1 GW53.out) (hHeld.2.2.2.2.2.2.1)), (Z.f3 (Z.fn hw52_2 GW53.out) (hHeld.2.2.2.2.2.2.2))⟩ (fun hHeld => ?_)
  clear hK K
  refine done_ (done_of HT_.out (by kernel_rfl)) ?_
  try go_wp2
  have n0_ : Aside0 ((((w25.setCell ⟨gb53, 0, none⟩ (.slice A52_0 ((rd_T37 (rd_L5 l0_2 a2) (rd l1 a2)).f0).length c52_0)).setCell ⟨gb53, 1, none⟩ (.int .i64 ((rd_T37 (rd_L5 l0_2 a2) (rd l1 a2)).f1))).setCell ⟨gb53, 2, none⟩ (.int .i64 ((rd_T37 (rd_L5 l0_2 a2) (rd l1 a2)).f2))).heap[gb54]? = some (.cells #[.int .i64 a0_0, .slice A0_1 l0_1.length c0_1, .slice (some ad55) l0_2.length c0_2] 28 (0, 0))) := ⟨by refine blk_far ?_ NB54_53.out _; refine blk_far ?_ NB54_53.out _; refine blk_far ?_ NB54_53.out _; exact BK54.out⟩
  have n1_ : Aside0 ((((w25.setCell ⟨gb53, 0, none⟩ (.slice A52_0 ((rd_T37 (rd_L5 l0_2 a2) (rd l1 a2)).f0).length c52_0)).setCell ⟨gb53, 1, none⟩ (.int .i64 ((rd_T37 (rd_L5 l0_2 a2) (rd l1 a2)).f1))).setCell ⟨gb53, 2, none⟩ (.int .i64 ((rd_T37 (rd_L5 l0_2 a2) (rd l1 a2)).f2))).heap[gb53]? = some (.cells #[.slice A52_0 ((rd_T37 (rd_L5 l0_2 a2) (rd l1 a2)).f0).length c52_0, .int .i64 ((rd_T37 (rd_L5 l0_2 a2) (rd l1 a2)).f1), .int .i64 ((rd_T37 (rd_L5 l0_2 a2) (rd l1 a2)).f2)] 37 (0, 0))) := ⟨by refine blk_put (cs := #[.slice A52_0 ((rd_T37 (rd_L5 l0_2 a2) (rd l1 a2)).f0).length c52_0, .int .i64 ((rd_T37 (rd_L5 l0_2 a2) (rd l1 a2)).f1), .int .i64 0]) ?_ 2 _ rfl; refine blk_put (cs := #[.slice A52_0 ((rd_T37 (rd_L5 l0_2 a2) (rd l1 a2)).f0).length c52_0, .int .i64 0, .int .i64 0]) ?_ 1 _ rfl; refine blk_put (cs := #[.slice none 0 0, .int .i64 0, .int .i64 0]) ?_ 0 _ rfl; exact BK53.out⟩
  have n2_ : Aside0 (Below w.heap.size w (((w25.setCell ⟨gb53, 0, none⟩ (.slice A52_0 ((rd_T37 (rd_L5 l0_2 a2) (rd l1 a2)).f0).length c52_0)).setCell ⟨gb53, 1, none⟩ (.int .i64 ((rd_T37 (rd_L5 l0_2 a2) (rd l1 a2)).f1))).setCell ⟨gb53, 2, none⟩ (.int .i64 ((rd_T37 (rd_L5 l0_2 a2) (rd l1 a2)).f2)))) := ⟨by repeat ((with_reducible first | exact HB.out | refine below_set ?_ GE53.out))⟩
  (try clear BK54)
  (try clear BK53)
  (try clear HB)
  generalize (((w25.setCell ⟨gb53, 0, none⟩ (.slice A52_0 ((rd_T37 (rd_L5 l0_2 a2) (rd l1 a2)).f0).length c52_0)).setCell ⟨gb53, 1, none⟩ (.int .i64 ((rd_T37 (rd_L5 l0_2 a2) (rd l1 a2)).f1))).setCell ⟨gb53, 2, none⟩ (.int .i64 ((rd_T37 (rd_L5 l0_2 a2) (rd l1 a2)).f2))) = w29 at n0_ n1_ n2_ ⊢
  have BK54 := n0_
  have BK53 := n1_
  have HB := n2_
  clear n0_ n1_ n2_
  replace BK54 := Z.k (blk_drew BK54.out)
  replace BK53 := Z.k (blk_drew BK53.out)
  replace HB := Z.k (below_drew1 HB.out)
  have p57 : (0 ≤ (a2 : Int)) = True := Z.oe
  have q57 : (a2 < (l1.length : Int)) = True := Z.oe
  obtain ⟨ad57, e57, hx57_0⟩ := Kd.at_int HR1.out a2 Z.od Z.od
  have hw57_0 := hx57_0
  obtain rfl : ad56 = ad57 := (by injection e57)
  replace hx57_0 := Z.up HB.out hx57_0
  refine start_ (n := 30) (S := fun w' => w'.cell? ⟨gb54, 0, none⟩ = some (.int .i64 a0_0) ∧ w'.cell? ⟨gb54, 1, none⟩ = some (.slice A0_1 l0_1.length c0_1) ∧ w'.cell? ⟨gb54, 2, none⟩ = some (.slice (some ad55) l0_2.length c0_2) ∧ w'.cell? ⟨gb53, 0, none⟩ = some (.slice A52_0 ((rd_T37 (rd_L5 l0_2 a2) (rd l1 a2)).f0).length c52_0) ∧ w'.cell? ⟨gb53, 1, none⟩ = some (.int .i64 ((rd_T37 (rd_L5 l0_2 a2) (rd l1 a2)).f1)) ∧ w'.cell? ⟨gb53, 2, none⟩ = some (.int .i64 ((rd_T37 (rd_L5 l0_2 a2) (rd l1 a2)).f2)) ∧ w'.cell? (ad56.add (a2).toNat) = some (.int .i64 (rd l1 a2))) (ds := []) (Z.mb 30 0) (by kernel_rfl) rfl rfl ⟨Z.b BK54 0, Z.b BK54 1, Z.b BK54 2, Z.b BK53 0, Z.b BK53 1, Z.b BK53 2, (Z.up HB.out hw57_0 :)⟩ (fun hHeld => ?_); refine with_tabW spec_l8May.tab2 spec_l8May.bits2 (fun HT_ HW_ => ?_)
  generalize w29.drew = w30 at BK54 BK53 HB hx57_0 hHeld ⊢
  refine Z.pv 0 23 30 1 HT_.out ?_
  refine Z.pv 1 24 30 3 HT_.out ?_
  refine Z.pv 2 25 30 7 HT_.out ?_
  refine Z.pv 3 26 30 15 HT_.out ?_
  refine Z.t7 4 27 30 31 HT_.out HW_.out hHeld ?_
  refine Z.pv 5 28 30 63 HT_.out ?_
  refine Z.pv 6 29 30 127 HT_.out ?_
  refine Z.pv 7 30 30 255 HT_.out ?_
  refine Z.pv 9 32 30 767 HT_.out ?_
  refine Z.pv 11 34 30 2815 HT_.out ?_
  refine Z.t7 8 31 30 3071 HT_.out HW_.out hHeld ?_
  refine Z.t7 10 33 30 4095 HT_.out HW_.out hHeld ?_
  refine one_ (i := 12) (N := some 35) (Z.mb 30 8191) rfl rfl (one_of HT_.out (by kernel_rfl)) (by decide) (fun K hK => ?_)
  refine goes_ Try.func102 (by kernel_rfl) rfl #[.agg #[.int .i64 a0_0, .slice A0_1 l0_1.length c0_1], .slice A52_0 ((rd_T37 (rd_L5 l0_2 a2) (rd l1 a2)).f0).length c52_0, .int .i64 a4] (by rfl) rfl rfl Z.ar ?_
  with_reducible refine (spec_l4Says.calls k a0_0 _ _ l0_1 _ _ ((rd_T37 (rd_L5 l0_2 a2) (rd l1 a2)).f0) a4 true _ ?q1 ?q2 ?q3 ?q4 A20.out).mono ?_
  (case q1 => exact Z.cc HR0_1 HB)
  (case q2 => exact HC0_1.out)
  (case q3 => exact Z.cc HR52_0 HB)
  (case q4 => exact HC52_0.out)
  rintro e w31 ⟨rfl, hb⟩
  refine ⟨_, rfl, ?_⟩
  replace BK54 := Z.bb BK54 hb
  replace BK53 := Z.bb BK53 hb
  replace HB := Z.k (below_step HB.out hb)
  (try clear hb)
  refine hK.out _ _ ⟨Z.b BK54 0, Z.b BK54 1, Z.b BK54 2, Z.b BK53 0, Z.b BK53 1, Z.b BK53 2, (Z.up HB.out hw57_0 :)⟩ (fun hHeld => ?_)
  clear hK K
  refine Z.nm ?_
  refine Z.pv 13 36 30 16383 HT_.out ?_
  refine Z.pv 14 37 30 32767 HT_.out ?_
  refine Z.pv 15 38 30 65535 HT_.out ?_
  refine Z.t7 16 39 30 131071 HT_.out HW_.out hHeld ?_
  refine Z.pv 17 40 30 262143 HT_.out ?_
  refine Z.pv 18 41 30 524287 HT_.out ?_
  refine Z.pu 19 42 30 1048575 HT_.out ?_
  refine Z.pu 20 43 30 2097151 HT_.out ?_
  refine Z.pu 21 44 30 4194303 HT_.out ?_
  refine Z.pu 22 45 30 8388607 HT_.out ?_
  refine Z.pu 23 46 30 16777215 HT_.out ?_
  refine Z.pu 24 47 30 33554431 HT_.out ?_
  refine Z.pu 25 48 30 67108863 HT_.out ?_
  refine Z.pu 26 49 30 134217727 HT_.out ?_
  refine Z.pv 27 50 30 268435455 HT_.out ?_
  refine Z.pv 28 51 30 536870911 HT_.out ?_
  refine Z.pv 29 10 30 1073741823 HT_.out ?_
  refine done_ (done_of HT_.out (by kernel_rfl)) ?_
  try go_wp2
  go_ret
  exact ⟨by rfl, HB.out⟩
 rw [if_neg c22] at H
 have c22b0 : (((rd_T37 (rd_L5 l0_2 a2) (rd l1 a2)).f1) == (-1)) = false := beq_eq_false_iff_ne.mpr c22
 have c22b1 : (((rd_T37 (rd_L5 l0_2 a2) (rd l1 a2)).f1) != (-1)) = true := bne_iff_ne.mpr c22
 obtain ⟨c32, H⟩ := Z.ifp H
 have c32b0 : decide (0 ≤ ((rd_T37 (rd_L5 l0_2 a2) (rd l1 a2)).f1)) = true := decide_eq_true c32
 clear c32
 obtain ⟨c33, H⟩ := Z.ifp H
 have c33b0 : decide (((rd_T37 (rd_L5 l0_2 a2) (rd l1 a2)).f1) < (l1.length : Int)) = true := decide_eq_true c33
 clear c33
 obtain rfl := Option.some.inj H
 go_enter Try.func75, Try.ntmps75
 try go_wp2_with (((with_reducible refine gate_dst (N := 5) rfl ?_); refine Z.bx #[.int .i64 a0_0, .slice A0_1 l0_1.length c0_1, .slice A0_2 l0_2.length c0_2] 28 HB ?_; clear HB; intro gb54 w34 BK54 GE54 HB hg hb; have GW54 := GE54; clear hb hg))
 replace BK54 := Z.k (blk_drew BK54.out)
 replace HB := Z.k (below_drew1 HB.out)
 have p55 : (0 ≤ (a2 : Int)) = True := Z.oe
 have q55 : (a2 < (l0_2.length : Int)) = True := Z.oe
 obtain ⟨ad55, A55_0, c55_0, rfl, hx55_0, hl55_0, hi55_0⟩ := at_L5 HR0_2.out a2 Z.od Z.od
 have hw55_0 := hx55_0
 replace hx55_0 := Z.up HB.out hx55_0
 have HR55_0 := Z.k hi55_0
 have HC55_0 := Z.k hl55_0
 clear hi55_0 hl55_0
 have p56 : (0 ≤ (a2 : Int)) = True := Z.oe
 have q56 : (a2 < (l1.length : Int)) = True := Z.oe
 obtain ⟨ad56, rfl, hx56_0⟩ := Kd.at_int HR1.out a2 Z.od Z.od
 have hw56_0 := hx56_0
 replace hx56_0 := Z.up HB.out hx56_0
 have p52 : (0 ≤ ((rd l1 a2) : Int)) = True := Z.oe
 have q52 : ((rd l1 a2) < ((rd_L5 l0_2 a2).length : Int)) = True := Z.oe
 obtain ⟨ad52, A52_0, c52_0, rfl, hx52_0, hx52_1, hx52_2, hl52_0, hi52_0⟩ := at_T37 HR55_0.out (rd l1 a2) Z.od Z.od
 have hw52_2 := hx52_2
 have hw52_1 := hx52_1
 have hw52_0 := hx52_0
 replace hx52_0 := Z.up HB.out hx52_0
 replace hx52_1 := Z.up HB.out hx52_1
 replace hx52_2 := Z.up HB.out hx52_2
 have HR52_0 := Z.k hi52_0
 have HC52_0 := Z.k hl52_0
 clear hi52_0 hl52_0
 refine start_ (n := 13) (S := fun w' => w'.cell? ⟨gb54, 0, none⟩ = some (.int .i64 a0_0) ∧ w'.cell? ⟨gb54, 1, none⟩ = some (.slice A0_1 l0_1.length c0_1) ∧ w'.cell? ⟨gb54, 2, none⟩ = some (.slice (some ad55) l0_2.length c0_2) ∧ w'.cell? (ad55.add (a2).toNat) = some (.slice (some ad52) (rd_L5 l0_2 a2).length c55_0) ∧ w'.cell? (ad56.add (a2).toNat) = some (.int .i64 (rd l1 a2)) ∧ w'.cell? (ad52.add (((rd l1 a2)).toNat * 3)) = some (.slice A52_0 ((rd_T37 (rd_L5 l0_2 a2) (rd l1 a2)).f0).length c52_0) ∧ w'.cell? ⟨(ad52.add (((rd l1 a2)).toNat * 3)).block, (ad52.add (((rd l1 a2)).toNat * 3)).off + 1, none⟩ = some (.int .i64 ((rd_T37 (rd_L5 l0_2 a2) (rd l1 a2)).f1)) ∧ w'.cell? ⟨(ad52.add (((rd l1 a2)).toNat * 3)).block, (ad52.add (((rd l1 a2)).toNat * 3)).off + 2, none⟩ = some (.int .i64 ((rd_T37 (rd_L5 l0_2 a2) (rd l1 a2)).f2))) (ds := []) (Z.mb 13 0) (by kernel_rfl) rfl rfl ⟨Z.b BK54 0, Z.b BK54 1, Z.b BK54 2, (Z.up HB.out hw55_0 :), (Z.up HB.out hw56_0 :), (Z.up HB.out hw52_0 :), (Z.up HB.out hw52_1 :), (Z.up HB.out hw52_2 :)⟩ (fun hHeld => ?_); refine with_tabW spec_l8May.tab1 spec_l8May.bits1 (fun HT_ HW_ => ?_)
 generalize w34.drew = w35 at BK54 HB HR55_0 HR52_0 hx55_0 hx56_0 hx52_0 hx52_1 hx52_2 hHeld ⊢
 refine Z.pv 0 12 13 1 HT_.out ?_
 refine Z.pv 2 14 13 5 HT_.out ?_
 refine Z.pv 5 17 13 37 HT_.out ?_
 refine Z.pv 6 18 13 101 HT_.out ?_
 refine Z.pv 7 19 13 229 HT_.out ?_
 refine Z.t8 1 13 13 231 HT_.out HW_.out hHeld ?_
 refine Z.pv 3 15 13 239 HT_.out ?_
 refine Z.t8 4 16 13 255 HT_.out HW_.out hHeld ?_
 refine Z.t8 8 20 13 511 HT_.out HW_.out hHeld ?_
 refine Z.pv 9 21 13 1023 HT_.out ?_
 refine Z.t8 10 22 13 2047 HT_.out HW_.out hHeld ?_
 refine one_ (i := 11) (N := some 11) (Z.mb 13 4095) rfl rfl (one_of HT_.out (by kernel_rfl)) (by decide) (fun K hK => ?_)
 refine box_step ?hg (N := 11) ?hd (cs := #[.slice none 0 0, .int .i64 0, .int .i64 0]) (t := 37) ?hr ?_; (case hd | hg => rfl); (case hr => (go_simp; done))
 intro gb53 hg w36 hbox hb
 have BK53 := Z.k hbox
 have GW53 := Z.gh hg (Z.bs HB.out GE54.out)
 have GE53 := Z.gh hg (Z.bs HB.out GE54.out)
 replace HB := Z.st (Z.bs HB.out GE54.out) hb
 have NB54_53 := Z.nl hg BK54
 have NB53_54 := Z.ng hg BK54
 replace BK54 := Z.bb BK54 hb
 clear hb hbox hg
 refine hK.out _ _ ⟨Z.b BK54 0, Z.b BK54 1, Z.b BK54 2, (Z.up HB.out hw55_0 :), (Z.up HB.out hw56_0 :), (Z.up HB.out hw52_0 :), (Z.up HB.out hw52_1 :), (Z.up HB.out hw52_2 :)⟩ (fun hHeld => ?_)
 clear hK K
 refine Z.nm ?_
 refine one_ (i := 12) (N := none) #[true, true, true, true, true, true, true, true, true, true, true, true, true] rfl rfl (one_of HT_.out (by kernel_rfl)) (by decide) (fun K hK => ?_)
 have hs37 : w36.cell? ⟨gb53, 0, none⟩ = some (.slice none 0 0) := Z.b BK53 0
 have hfs37 := blk_frozen BK53.out 0
 have hns37_0 := NB54_53.out
 have hms37_0 := NB53_54.out
 have hs38 : w36.cell? ⟨gb53, 1, none⟩ = some (.int .i64 0) := Z.b BK53 1
 have hfs38 := blk_frozen BK53.out 1
 have hns38_0 := NB54_53.out
 have hms38_0 := NB53_54.out
 have hs39 : w36.cell? ⟨gb53, 2, none⟩ = some (.int .i64 0) := Z.b BK53 2
 have hfs39 := blk_frozen BK53.out 2
 have hns39_0 := NB54_53.out
 have hms39_0 := NB53_54.out
 refine skip_ (w1 := ?_) (by rfl) rfl ?_ ?_
 rotate_left
 ·go_simp
  rfl
 refine hK.out _ _ ⟨(Z.f3 NB54_53.out (hHeld.1)), (Z.f3 NB54_53.out (hHeld.2.1)), (Z.f3 NB54_53.out (hHeld.2.2.1)), (Z.f3 (Z.fn hw55_0 GW53.out) (hHeld.2.2.2.1)), (Z.f3 (Z.fn hw56_0 GW53.out) (hHeld.2.2.2.2.1)), (Z.f3 (Z.fn hw52_0 GW53.out) (hHeld.2.2.2.2.2.1)), (Z.f3 (Z.fn hw52_1 GW53.out) (hHeld.2.2.2.2.2.2.1)), (Z.f3 (Z.fn hw52_2 GW53.out) (hHeld.2.2.2.2.2.2.2))⟩ (fun hHeld => ?_)
 clear hK K
 refine done_ (done_of HT_.out (by kernel_rfl)) ?_
 try go_wp2
 have n0_ : Aside0 ((((w36.setCell ⟨gb53, 0, none⟩ (.slice A52_0 ((rd_T37 (rd_L5 l0_2 a2) (rd l1 a2)).f0).length c52_0)).setCell ⟨gb53, 1, none⟩ (.int .i64 ((rd_T37 (rd_L5 l0_2 a2) (rd l1 a2)).f1))).setCell ⟨gb53, 2, none⟩ (.int .i64 ((rd_T37 (rd_L5 l0_2 a2) (rd l1 a2)).f2))).heap[gb54]? = some (.cells #[.int .i64 a0_0, .slice A0_1 l0_1.length c0_1, .slice (some ad55) l0_2.length c0_2] 28 (0, 0))) := ⟨by refine blk_far ?_ NB54_53.out _; refine blk_far ?_ NB54_53.out _; refine blk_far ?_ NB54_53.out _; exact BK54.out⟩
 have n1_ : Aside0 ((((w36.setCell ⟨gb53, 0, none⟩ (.slice A52_0 ((rd_T37 (rd_L5 l0_2 a2) (rd l1 a2)).f0).length c52_0)).setCell ⟨gb53, 1, none⟩ (.int .i64 ((rd_T37 (rd_L5 l0_2 a2) (rd l1 a2)).f1))).setCell ⟨gb53, 2, none⟩ (.int .i64 ((rd_T37 (rd_L5 l0_2 a2) (rd l1 a2)).f2))).heap[gb53]? = some (.cells #[.slice A52_0 ((rd_T37 (rd_L5 l0_2 a2) (rd l1 a2)).f0).length c52_0, .int .i64 ((rd_T37 (rd_L5 l0_2 a2) (rd l1 a2)).f1), .int .i64 ((rd_T37 (rd_L5 l0_2 a2) (rd l1 a2)).f2)] 37 (0, 0))) := ⟨by refine blk_put (cs := #[.slice A52_0 ((rd_T37 (rd_L5 l0_2 a2) (rd l1 a2)).f0).length c52_0, .int .i64 ((rd_T37 (rd_L5 l0_2 a2) (rd l1 a2)).f1), .int .i64 0]) ?_ 2 _ rfl; refine blk_put (cs := #[.slice A52_0 ((rd_T37 (rd_L5 l0_2 a2) (rd l1 a2)).f0).length c52_0, .int .i64 0, .int .i64 0]) ?_ 1 _ rfl; refine blk_put (cs := #[.slice none 0 0, .int .i64 0, .int .i64 0]) ?_ 0 _ rfl; exact BK53.out⟩
 have n2_ : Aside0 (Below w.heap.size w (((w36.setCell ⟨gb53, 0, none⟩ (.slice A52_0 ((rd_T37 (rd_L5 l0_2 a2) (rd l1 a2)).f0).length c52_0)).setCell ⟨gb53, 1, none⟩ (.int .i64 ((rd_T37 (rd_L5 l0_2 a2) (rd l1 a2)).f1))).setCell ⟨gb53, 2, none⟩ (.int .i64 ((rd_T37 (rd_L5 l0_2 a2) (rd l1 a2)).f2)))) := ⟨by repeat ((with_reducible first | exact HB.out | refine below_set ?_ GE53.out))⟩
 (try clear BK54)
 (try clear BK53)
 (try clear HB)
 generalize (((w36.setCell ⟨gb53, 0, none⟩ (.slice A52_0 ((rd_T37 (rd_L5 l0_2 a2) (rd l1 a2)).f0).length c52_0)).setCell ⟨gb53, 1, none⟩ (.int .i64 ((rd_T37 (rd_L5 l0_2 a2) (rd l1 a2)).f1))).setCell ⟨gb53, 2, none⟩ (.int .i64 ((rd_T37 (rd_L5 l0_2 a2) (rd l1 a2)).f2))) = w40 at n0_ n1_ n2_ ⊢
 have BK54 := n0_
 have BK53 := n1_
 have HB := n2_
 clear n0_ n1_ n2_
 replace BK54 := Z.k (blk_drew BK54.out)
 replace BK53 := Z.k (blk_drew BK53.out)
 replace HB := Z.k (below_drew1 HB.out)
 have p57 : (0 ≤ (a2 : Int)) = True := Z.oe
 have q57 : (a2 < (l1.length : Int)) = True := Z.oe
 obtain ⟨ad57, e57, hx57_0⟩ := Kd.at_int HR1.out a2 Z.od Z.od
 have hw57_0 := hx57_0
 obtain rfl : ad56 = ad57 := (by injection e57)
 replace hx57_0 := Z.up HB.out hx57_0
 have p58 : (0 ≤ (((rd_T37 (rd_L5 l0_2 a2) (rd l1 a2)).f1) : Int)) = True := Z.oe
 have q58 : (((rd_T37 (rd_L5 l0_2 a2) (rd l1 a2)).f1) < (l1.length : Int)) = True := Z.oe
 obtain ⟨ad58, e58, hx58_0⟩ := Kd.at_int HR1.out ((rd_T37 (rd_L5 l0_2 a2) (rd l1 a2)).f1) Z.od Z.od
 have hw58_0 := hx58_0
 obtain rfl : ad56 = ad58 := (by injection e58)
 replace hx58_0 := Z.up HB.out hx58_0
 refine start_ (n := 30) (S := fun w' => w'.cell? ⟨gb54, 0, none⟩ = some (.int .i64 a0_0) ∧ w'.cell? ⟨gb54, 1, none⟩ = some (.slice A0_1 l0_1.length c0_1) ∧ w'.cell? ⟨gb54, 2, none⟩ = some (.slice (some ad55) l0_2.length c0_2) ∧ w'.cell? ⟨gb53, 0, none⟩ = some (.slice A52_0 ((rd_T37 (rd_L5 l0_2 a2) (rd l1 a2)).f0).length c52_0) ∧ w'.cell? ⟨gb53, 1, none⟩ = some (.int .i64 ((rd_T37 (rd_L5 l0_2 a2) (rd l1 a2)).f1)) ∧ w'.cell? ⟨gb53, 2, none⟩ = some (.int .i64 ((rd_T37 (rd_L5 l0_2 a2) (rd l1 a2)).f2)) ∧ w'.cell? (ad56.add (a2).toNat) = some (.int .i64 (rd l1 a2)) ∧ w'.cell? (ad56.add (((rd_T37 (rd_L5 l0_2 a2) (rd l1 a2)).f1)).toNat) = some (.int .i64 (rd l1 ((rd_T37 (rd_L5 l0_2 a2) (rd l1 a2)).f1)))) (ds := []) (Z.mb 30 0) (by kernel_rfl) rfl rfl ⟨Z.b BK54 0, Z.b BK54 1, Z.b BK54 2, Z.b BK53 0, Z.b BK53 1, Z.b BK53 2, (Z.up HB.out hw57_0 :), (Z.up HB.out hw58_0 :)⟩ (fun hHeld => ?_); refine with_tabW spec_l8May.tab2 spec_l8May.bits2 (fun HT_ HW_ => ?_)
 generalize w40.drew = w41 at BK54 BK53 HB hx57_0 hx58_0 hHeld ⊢
 refine Z.pv 0 23 30 1 HT_.out ?_
 refine Z.pv 1 24 30 3 HT_.out ?_
 refine Z.pv 2 25 30 7 HT_.out ?_
 refine Z.pv 3 26 30 15 HT_.out ?_
 refine Z.t8 4 27 30 31 HT_.out HW_.out hHeld ?_
 refine Z.pv 5 28 30 63 HT_.out ?_
 refine Z.pv 6 29 30 127 HT_.out ?_
 refine Z.pv 7 30 30 255 HT_.out ?_
 refine Z.pv 9 32 30 767 HT_.out ?_
 refine Z.pv 11 34 30 2815 HT_.out ?_
 refine Z.t8 8 31 30 3071 HT_.out HW_.out hHeld ?_
 refine Z.t8 10 33 30 4095 HT_.out HW_.out hHeld ?_
 refine one_ (i := 12) (N := some 35) (Z.mb 30 8191) rfl rfl (one_of HT_.out (by kernel_rfl)) (by decide) (fun K hK => ?_)
 refine goes_ Try.func102 (by kernel_rfl) rfl #[.agg #[.int .i64 a0_0, .slice A0_1 l0_1.length c0_1], .slice A52_0 ((rd_T37 (rd_L5 l0_2 a2) (rd l1 a2)).f0).length c52_0, .int .i64 a4] (by rfl) rfl rfl Z.ar ?_
 with_reducible refine (spec_l4Says.calls k a0_0 _ _ l0_1 _ _ ((rd_T37 (rd_L5 l0_2 a2) (rd l1 a2)).f0) a4 true _ ?q1 ?q2 ?q3 ?q4 A20.out).mono ?_
 (case q1 => exact Z.cc HR0_1 HB)
 (case q2 => exact HC0_1.out)
 (case q3 => exact Z.cc HR52_0 HB)
 (case q4 => exact HC52_0.out)
 rintro e w42 ⟨rfl, hb⟩
 refine ⟨_, rfl, ?_⟩
 replace BK54 := Z.bb BK54 hb
 replace BK53 := Z.bb BK53 hb
 replace HB := Z.k (below_step HB.out hb)
 (try clear hb)
 refine hK.out _ _ ⟨Z.b BK54 0, Z.b BK54 1, Z.b BK54 2, Z.b BK53 0, Z.b BK53 1, Z.b BK53 2, (Z.up HB.out hw57_0 :), (Z.up HB.out hw58_0 :)⟩ (fun hHeld => ?_)
 clear hK K
 refine Z.nm ?_
 refine Z.pv 13 36 30 16383 HT_.out ?_
 refine Z.pv 14 37 30 32767 HT_.out ?_
 refine Z.pv 15 38 30 65535 HT_.out ?_
 refine Z.t8 16 39 30 131071 HT_.out HW_.out hHeld ?_
 refine Z.pv 17 40 30 262143 HT_.out ?_
 refine Z.pv 18 41 30 524287 HT_.out ?_
 refine Z.pv 19 42 30 1048575 HT_.out ?_
 refine Z.pv 20 43 30 2097151 HT_.out ?_
 refine Z.pv 24 47 30 18874367 HT_.out ?_
 refine Z.t8 21 44 30 20971519 HT_.out HW_.out hHeld ?_
 refine Z.pv 22 45 30 25165823 HT_.out ?_
 refine Z.t8 23 46 30 33554431 HT_.out HW_.out hHeld ?_
 refine Z.t8 25 48 30 67108863 HT_.out HW_.out hHeld ?_
 refine Z.pv 26 49 30 134217727 HT_.out ?_
 refine Z.pv 27 50 30 268435455 HT_.out ?_
 refine Z.pv 28 51 30 536870911 HT_.out ?_
 refine Z.pv 29 10 30 1073741823 HT_.out ?_
 refine done_ (done_of HT_.out (by kernel_rfl)) ?_
 try go_wp2
 go_ret
 exact ⟨by rfl, HB.out⟩
end Go.Proofs.Ytkogboechfieeaa.PAll

/- Walks of functions that All reaches, in the form of the print. -/
-- PRINTED
import Derived.Test.YtcafckapdgaogaaCAll6
namespace Go.Proofs.Ytcafckapdgaogaa.PAll
open Go.RowKit Go.Proofs.YtcafckapdgaogaaW.PrintWords Go.Proofs.YtcafckapdgaogaaW.PrintLast Go.Proofs.YtcafckapdgaogaaW.PrintMore
attribute [local go_sem] max2_int min2_int max_two min_two max_three min_three max_four min_four
set_option linter.unusedVariables false
set_option linter.unusedSimpArgs false

/-! ### spec_l8May: function 103 -/
def spec_l8May.f (k : Nat) (a0_0 : Int) (l0_1 : List Int) (l0_2 : List (List (S86))) (l1 : List Int) (a2 : Int) (a3 : Int) (a4 : Int) : Option (Bool) := if 0 ≤ a2 then (if a2 < (l0_2.length : Int) then (if a2 < (l1.length : Int) then (if 0 ≤ (rd l1 a2) then (if (rd l1 a2) < ((rd_L9 l0_2 a2).length : Int) then (if a3 = (rd l1 a2) then (some false) else ((spec_l4Says.f k a0_0 l0_1 ((rd_T86 (rd_L9 l0_2 a2) (rd l1 a2)).f0) a4).bind fun t184 => (if t184 = true then (if ((rd_T86 (rd_L9 l0_2 a2) (rd l1 a2)).f1) = (-1) then (some true) else (if 0 ≤ ((rd_T86 (rd_L9 l0_2 a2) (rd l1 a2)).f1) then (if ((rd_T86 (rd_L9 l0_2 a2) (rd l1 a2)).f1) < (l1.length : Int) then (some ((rd l1 ((rd_T86 (rd_L9 l0_2 a2) (rd l1 a2)).f1)) == ((rd_T86 (rd_L9 l0_2 a2) (rd l1 a2)).f2))) else (none)) else (none))) else (some false)))) else (none)) else (none)) else (none)) else (none)) else (none)
theorem spec_l8May.mono : ∀ a0 a1 a2 a3 a4 a5 a6 k, LeO (spec_l8May.f k a0 a1 a2 a3 a4 a5 a6) (spec_l8May.f (k + 1) a0 a1 a2 a3 a4 a5 a6) := by
 intro a0 a1 a2 a3 a4 a5 a6 k
 unfold spec_l8May.f
 repeat' first
   | (with_reducible exact LeO.refl _)
   | exact spec_l4Says.mono _ _ _ _ _
   | exact LeO.none _
   | refine LeO.ite ?_ ?_
   | refine LeO.bind ?_ (fun _ => ?_)
def spec_l8May.T1 : Bool × List (List Nat × List Nat) := (true, [([], []), ([0], [0]), ([], []), ([1, 2], [1, 2]), ([3], [3]), ([], []), ([], []), ([5, 6], [5, 6]), ([7], [7]), ([4, 8], [4, 8]), ([9], [9]), ([], []), ([11, 10, 0, 1, 2, 3, 4, 5, 6, 7, 8, 9, 10, 11], [10, 11])])
def spec_l8May.B1 : List Nat := [0, 1, 0, 7, 15, 0, 0, 96, 224, 511, 1023, 0, 4095]
theorem spec_l8May.tab1 : rtab .any (opsOf Try.f103 1) = spec_l8May.T1 := by kernel_rfl
theorem spec_l8May.bits1 : waitsOk spec_l8May.T1.2 spec_l8May.B1 = true := by kernel_rfl
def spec_l8May.T2 : Bool × List (List Nat × List Nat) := (true, [([], []), ([], []), ([], []), ([1, 2], [1, 2]), ([3], [3]), ([0, 4], [0, 4]), ([5], [5]), ([6], [6]), ([7, 6], [6, 7]), ([6], [6]), ([9, 6], [6, 9]), ([6], [6]), ([8, 10, 11, 6, 6], [6, 8, 10, 11]), ([6, 12], [6, 12]), ([13, 12], [13]), ([14], [14]), ([15, 14], [14, 15]), ([16, 14], [14, 16]), ([17, 14, 14], [14, 17]), ([18], [18]), ([18], [18]), ([20, 18], [18, 20]), ([19, 21, 18], [18, 19, 21]), ([22, 18], [18, 22]), ([18], [18]), ([24, 18], [18, 24]), ([23, 25, 18], [18, 23, 25]), ([18, 26, 14], [14, 18, 26]), ([14, 27], [14, 27]), ([28, 18, 0, 1, 2, 3, 4, 5, 6, 7, 8, 9, 10, 11, 12, 13, 14, 15, 16, 17, 18, 19, 20, 21, 22, 23, 24, 25, 26, 27, 28], [28])])
def spec_l8May.B2 : List Nat := [0, 0, 0, 6, 14, 31, 63, 127, 255, 127, 639, 127, 4095, 8191, 16383, 32767, 65535, 131071, 262143, 524287, 524287, 1572863, 4194303, 8388607, 524287, 17301503, 67108863, 134217727, 268435455, 536870911]
theorem spec_l8May.tab2 : rtab .any (opsOf Try.f103 2) = spec_l8May.T2 := by kernel_rfl
theorem spec_l8May.bits2 : waitsOk spec_l8May.T2.2 spec_l8May.B2 = true := by kernel_rfl
set_option maxHeartbeats 8000000 in
set_option maxRecDepth 100000 in
theorem spec_l8May.calls (k : Nat) (a0_0 : Int) (A0_1 : Option Addr) (c0_1 : Nat) (l0_1 : List Int) (A0_2 : Option Addr) (c0_2 : Nat) (l0_2 : List (List (S86))) (A1 : Option Addr) (c1 : Nat) (l1 : List Int) (a2 : Int) (a3 : Int) (a4 : Int) (r : Bool) (w : World) (hr0_1 : Kd.C (Kd.int .i64) w A0_1 l0_1.length l0_1) (hc0_1 : l0_1.length ≤ c0_1) (hr0_2 : Kd.C (Kd.slice 86 k86) w A0_2 l0_2.length l0_2) (hc0_2 : l0_2.length ≤ c0_2) (hr1 : Kd.C (Kd.int .i64) w A1 l1.length l1) (hc1 : l1.length ≤ c1) (h : spec_l8May.f k a0_0 l0_1 l0_2 l1 a2 a3 a4 = some r) :
  Calls Try.prog 103 #[.agg #[.int .i64 a0_0, .slice A0_1 l0_1.length c0_1, .slice A0_2 l0_2.length c0_2], .slice A1 l1.length c1, .int .i64 a2, .int .i64 a3, .int .i64 a4] w fun e w' => e = .returned (.bool r) ∧ Below w.heap.size w w' := by
 have hu35 := Try.underlying35
 have hu86 := Try.underlying86
 have hu32 := Try.underlying32
 have HR0_1 := Aside0.mk hr0_1
 have HC0_1 := Aside0.mk hc0_1
 clear hr0_1 hc0_1
 have HR0_2 := Aside0.mk hr0_2
 have HC0_2 := Aside0.mk hc0_2
 clear hr0_2 hc0_2
 have HR1 := Aside0.mk hr1
 have HC1 := Aside0.mk hc1
 clear hr1 hc1
 have HB := Aside0.mk (Below.refl w.heap.size w)
 have H := h
 clear h
 unfold spec_l8May.f at H
 obtain ⟨c6, H⟩ := Z.ifp H
 have c6b0 : decide (0 ≤ a2) = true := decide_eq_true c6
 clear c6
 obtain ⟨c7, H⟩ := Z.ifp H
 have c7b0 : decide (a2 < (l0_2.length : Int)) = true := decide_eq_true c7
 clear c7
 obtain ⟨c8, H⟩ := Z.ifp H
 have c8b0 : decide (a2 < (l1.length : Int)) = true := decide_eq_true c8
 clear c8
 obtain ⟨c9, H⟩ := Z.ifp H
 have c9b0 : decide (0 ≤ (rd l1 a2)) = true := decide_eq_true c9
 clear c9
 obtain ⟨c10, H⟩ := Z.ifp H
 have c10b0 : decide ((rd l1 a2) < ((rd_L9 l0_2 a2).length : Int)) = true := decide_eq_true c10
 clear c10
 by_cases c11 : a3 = (rd l1 a2)
 ·rw [if_pos c11] at H
  have c11b0 : (a3 == (rd l1 a2)) = true := beq_iff_eq.mpr c11
  have c11b1 : (a3 != (rd l1 a2)) = false := bne_eq_false_iff_eq.mpr c11
  clear c11
  obtain rfl := Option.some.inj H
  go_enter Try.func103, Try.ntmps103
  try go_wp2_with (((with_reducible refine gate_dst (N := 5) rfl ?_); refine Z.bx #[.int .i64 a0_0, .slice A0_1 l0_1.length c0_1, .slice A0_2 l0_2.length c0_2] 35 HB ?_; clear HB; intro gb178 w12 BK178 GE178 HB hg hb; have GW178 := GE178; clear hb hg))
  replace BK178 := Aside0.mk (blk_drew BK178.out)
  replace HB := Aside0.mk (below_drew1 HB.out)
  have p179 : 0 ≤ (a2 : Int) := Z.od
  have q179 : a2 < (l0_2.length : Int) := Z.od
  obtain ⟨ad179, A179_0, c179_0, rfl, hx179_0, hl179_0, hi179_0⟩ := at_L9 HR0_2.out a2 p179 q179
  have hw179_0 := hx179_0
  replace hx179_0 := Z.up HB.out hx179_0
  have HR179_0 := Aside0.mk hi179_0
  have HC179_0 := Aside0.mk hl179_0
  clear hi179_0 hl179_0
  replace p179 := eq_true p179
  replace q179 := eq_true q179
  have p180 : 0 ≤ (a2 : Int) := Z.od
  have q180 : a2 < (l1.length : Int) := Z.od
  obtain ⟨ad180, rfl, hx180_0⟩ := Kd.at_int HR1.out a2 p180 q180
  have hw180_0 := hx180_0
  replace hx180_0 := Z.up HB.out hx180_0
  replace p180 := eq_true p180
  replace q180 := eq_true q180
  have p181 : 0 ≤ ((rd l1 a2) : Int) := Z.od
  have q181 : (rd l1 a2) < ((rd_L9 l0_2 a2).length : Int) := Z.od
  obtain ⟨ad181, A181_0, c181_0, rfl, hx181_0, hx181_1, hx181_2, hl181_0, hi181_0⟩ := at_T86 HR179_0.out (rd l1 a2) p181 q181
  have hw181_2 := hx181_2
  have hw181_1 := hx181_1
  have hw181_0 := hx181_0
  replace hx181_0 := Z.up HB.out hx181_0
  replace hx181_1 := Z.up HB.out hx181_1
  replace hx181_2 := Z.up HB.out hx181_2
  have HR181_0 := Aside0.mk hi181_0
  have HC181_0 := Aside0.mk hl181_0
  clear hi181_0 hl181_0
  replace p181 := eq_true p181
  replace q181 := eq_true q181
  refine start_ (n := 13) (S := fun w' => w'.cell? ⟨gb178, 0, none⟩ = some (.int .i64 a0_0) ∧ w'.cell? ⟨gb178, 1, none⟩ = some (.slice A0_1 l0_1.length c0_1) ∧ w'.cell? ⟨gb178, 2, none⟩ = some (.slice (some ad179) l0_2.length c0_2) ∧ w'.cell? (ad179.add (a2).toNat) = some (.slice (some ad181) (rd_L9 l0_2 a2).length c179_0) ∧ w'.cell? (ad180.add (a2).toNat) = some (.int .i64 (rd l1 a2)) ∧ w'.cell? (ad181.add (((rd l1 a2)).toNat * 3)) = some (.slice A181_0 ((rd_T86 (rd_L9 l0_2 a2) (rd l1 a2)).f0).length c181_0) ∧ w'.cell? ⟨(ad181.add (((rd l1 a2)).toNat * 3)).block, (ad181.add (((rd l1 a2)).toNat * 3)).off + 1, none⟩ = some (.int .i64 ((rd_T86 (rd_L9 l0_2 a2) (rd l1 a2)).f1)) ∧ w'.cell? ⟨(ad181.add (((rd l1 a2)).toNat * 3)).block, (ad181.add (((rd l1 a2)).toNat * 3)).off + 2, none⟩ = some (.int .i64 ((rd_T86 (rd_L9 l0_2 a2) (rd l1 a2)).f2))) (ds := []) #[false, false, false, false, false, false, false, false, false, false, false, false, false] (by kernel_rfl) rfl rfl ⟨(blk_cell BK178.out 0).trans rfl, (blk_cell BK178.out 1).trans rfl, (blk_cell BK178.out 2).trans rfl, (Z.up HB.out hw179_0 :), (Z.up HB.out hw180_0 :), (Z.up HB.out hw181_0 :), (Z.up HB.out hw181_1 :), (Z.up HB.out hw181_2 :)⟩ (fun hHeld => ?_); refine with_tabW spec_l8May.tab1 spec_l8May.bits1 (fun HT_ HW_ => ?_)
  generalize w12.drew = w13 at BK178 HB HR179_0 HR181_0 hx179_0 hx180_0 hx181_0 hx181_1 hx181_2 hHeld ⊢
  refine Z.pv 0 12 13 1 HT_.out ?_
  refine Z.pv 2 14 13 5 HT_.out ?_
  refine Z.pv 5 17 13 37 HT_.out ?_
  refine Z.pv 6 18 13 101 HT_.out ?_
  refine Z.pv 7 19 13 229 HT_.out ?_
  refine Z.t8 1 13 13 231 HT_.out HW_.out hHeld ?_
  refine Z.pv 3 15 13 239 HT_.out ?_
  refine Z.t8 4 16 13 255 HT_.out HW_.out hHeld ?_
  refine Z.t8 8 20 13 511 HT_.out HW_.out hHeld ?_
  refine Z.pv 9 21 13 1023 HT_.out ?_
  refine Z.t8 10 22 13 2047 HT_.out HW_.out hHeld ?_
  refine one_ (i := 11) (N := some 11) (Z.mb 13 4095) rfl rfl (one_of HT_.out (by kernel_rfl)) (by decide) (fun K hK => ?_)
  refine box_step ?hg (N := 11) ?hd (cs := #[.slice none 0 0, .int .i64 0, .int .i64 0]) (t := 86) ?hr ?_; (case hd | hg => rfl); (case hr => (go_simp; done))
  intro gb182 hg w14 hbox hb
  have BK182 := Aside0.mk (hbox)
  have GW182 := Z.gh hg (Z.bs HB.out GE178.out)
  have GE182 := Z.gh hg (Z.bs HB.out GE178.out)
  replace HB := Z.st (Z.bs HB.out GE178.out) hb
  have NB178_182 := Z.nl hg BK178
  have NB182_178 := Z.ng hg BK178
  replace BK178 := Z.bb BK178 hb
  clear hb hbox hg
  refine hK.out _ _ ⟨(blk_cell BK178.out 0).trans rfl, (blk_cell BK178.out 1).trans rfl, (blk_cell BK178.out 2).trans rfl, (Z.up HB.out hw179_0 :), (Z.up HB.out hw180_0 :), (Z.up HB.out hw181_0 :), (Z.up HB.out hw181_1 :), (Z.up HB.out hw181_2 :)⟩ (fun hHeld => ?_)
  clear hK K
  refine Z.nm ?_
  refine one_ (i := 12) (N := none) #[true, true, true, true, true, true, true, true, true, true, true, true, true] rfl rfl (one_of HT_.out (by kernel_rfl)) (by decide) (fun K hK => ?_)
  have hs15 : w14.cell? ⟨gb182, 0, none⟩ = some (.slice none 0 0) := (blk_cell BK182.out 0).trans rfl
  have hfs15 := blk_frozen BK182.out 0
  have hns15_0 := NB178_182.out
  have hms15_0 := NB182_178.out
  have hs16 : w14.cell? ⟨gb182, 1, none⟩ = some (.int .i64 0) := (blk_cell BK182.out 1).trans rfl
  have hfs16 := blk_frozen BK182.out 1
  have hns16_0 := NB178_182.out
  have hms16_0 := NB182_178.out
  have hs17 : w14.cell? ⟨gb182, 2, none⟩ = some (.int .i64 0) := (blk_cell BK182.out 2).trans rfl
  have hfs17 := blk_frozen BK182.out 2
  have hns17_0 := NB178_182.out
  have hms17_0 := NB182_178.out
  refine skip_ (w1 := ?_) (by rfl) rfl ?_ ?_
  rotate_left
  ·go_simp
   rfl
  refine hK.out _ _ ⟨(Z.f3 NB178_182.out (hHeld.1)), (Z.f3 NB178_182.out (hHeld.2.1)), (Z.f3 NB178_182.out (hHeld.2.2.1)), (Z.f3 (Z.fn hw179_0 GW182.out) (hHeld.2.2.2.1)), (Z.f3 (Z.fn hw180_0 GW182.out) (hHeld.2.2.2.2.1)), (Z.f3 (Z.fn hw181_0 GW182.out) (hHeld.2.2.2.2.2.1)), (Z.f3 (Z.fn hw181_1 GW182.out) (hHeld.2.2.2.2.2.2.1)), (Z.f3 (Z.fn hw181_2 GW182.out) (hHeld.2.2.2.2.2.2.2))⟩ (fun hHeld => ?_)
  clear hK K
  refine done_ (done_of HT_.out (by kernel_rfl)) ?_
  try go_wp2
  have n0_ : Aside0 ((((w14.setCell ⟨gb182, 0, none⟩ (.slice A181_0 ((rd_T86 (rd_L9 l0_2 a2) (rd l1 a2)).f0).length c181_0)).setCell ⟨gb182, 1, none⟩ (.int .i64 ((rd_T86 (rd_L9 l0_2 a2) (rd l1 a2)).f1))).setCell ⟨gb182, 2, none⟩ (.int .i64 ((rd_T86 (rd_L9 l0_2 a2) (rd l1 a2)).f2))).heap[gb178]? = some (.cells #[.int .i64 a0_0, .slice A0_1 l0_1.length c0_1, .slice (some ad179) l0_2.length c0_2] 35 (0, 0))) := ⟨by (with_reducible skip); refine blk_far ?_ NB178_182.out _; (with_reducible skip); refine blk_far ?_ NB178_182.out _; (with_reducible skip); refine blk_far ?_ NB178_182.out _; (with_reducible skip); exact BK178.out⟩
  have n1_ : Aside0 ((((w14.setCell ⟨gb182, 0, none⟩ (.slice A181_0 ((rd_T86 (rd_L9 l0_2 a2) (rd l1 a2)).f0).length c181_0)).setCell ⟨gb182, 1, none⟩ (.int .i64 ((rd_T86 (rd_L9 l0_2 a2) (rd l1 a2)).f1))).setCell ⟨gb182, 2, none⟩ (.int .i64 ((rd_T86 (rd_L9 l0_2 a2) (rd l1 a2)).f2))).heap[gb182]? = some (.cells #[.slice A181_0 ((rd_T86 (rd_L9 l0_2 a2) (rd l1 a2)).f0).length c181_0, .int .i64 ((rd_T86 (rd_L9 l0_2 a2) (rd l1 a2)).f1), .int .i64 ((rd_T86 (rd_L9 l0_2 a2) (rd l1 a2)).f2)] 86 (0, 0))) := ⟨by (with_reducible skip); refine blk_put (cs := #[.slice A181_0 ((rd_T86 (rd_L9 l0_2 a2) (rd l1 a2)).f0).length c181_0, .int .i64 ((rd_T86 (rd_L9 l0_2 a2) (rd l1 a2)).f1), .int .i64 0]) ?_ 2 _ rfl; (with_reducible skip); refine blk_put (cs := #[.slice A181_0 ((rd_T86 (rd_L9 l0_2 a2) (rd l1 a2)).f0).length c181_0, .int .i64 0, .int .i64 0]) ?_ 1 _ rfl; (with_reducible skip); refine blk_put (cs := #[.slice none 0 0, .int .i64 0, .int .i64 0]) ?_ 0 _ rfl; (with_reducible skip); exact BK182.out⟩
  have n2_ : Aside0 (Below w.heap.size w (((w14.setCell ⟨gb182, 0, none⟩ (.slice A181_0 ((rd_T86 (rd_L9 l0_2 a2) (rd l1 a2)).f0).length c181_0)).setCell ⟨gb182, 1, none⟩ (.int .i64 ((rd_T86 (rd_L9 l0_2 a2) (rd l1 a2)).f1))).setCell ⟨gb182, 2, none⟩ (.int .i64 ((rd_T86 (rd_L9 l0_2 a2) (rd l1 a2)).f2)))) := ⟨by repeat ((with_reducible first | exact HB.out | refine below_set ?_ GE182.out))⟩
  (try clear BK178)
  (try clear BK182)
  (try clear HB)
  generalize (((w14.setCell ⟨gb182, 0, none⟩ (.slice A181_0 ((rd_T86 (rd_L9 l0_2 a2) (rd l1 a2)).f0).length c181_0)).setCell ⟨gb182, 1, none⟩ (.int .i64 ((rd_T86 (rd_L9 l0_2 a2) (rd l1 a2)).f1))).setCell ⟨gb182, 2, none⟩ (.int .i64 ((rd_T86 (rd_L9 l0_2 a2) (rd l1 a2)).f2))) = w18 at n0_ n1_ n2_ ⊢
  have BK178 := n0_
  have BK182 := n1_
  have HB := n2_
  clear n0_ n1_ n2_
  replace BK178 := Aside0.mk (blk_drew BK178.out)
  replace BK182 := Aside0.mk (blk_drew BK182.out)
  replace HB := Aside0.mk (below_drew1 HB.out)
  have p183 : 0 ≤ (a2 : Int) := Z.od
  have q183 : a2 < (l1.length : Int) := Z.od
  obtain ⟨ad183, e183, hx183_0⟩ := Kd.at_int HR1.out a2 p183 q183
  have hw183_0 := hx183_0
  obtain rfl : ad180 = ad183 := (by injection e183)
  replace hx183_0 := Z.up HB.out hx183_0
  replace p183 := eq_true p183
  replace q183 := eq_true q183
  refine start_ (n := 30) (S := fun w' => w'.cell? (ad180.add (a2).toNat) = some (.int .i64 (rd l1 a2))) (ds := []) #[false, false, false, false, false, false, false, false, false, false, false, false, false, false, false, false, false, false, false, false, false, false, false, false, false, false, false, false, false, false] (by kernel_rfl) rfl rfl ((Z.up HB.out hw183_0 :)) (fun hHeld => ?_); refine with_tabW spec_l8May.tab2 spec_l8May.bits2 (fun HT_ HW_ => ?_)
  generalize w18.drew = w19 at BK178 BK182 HB hx183_0 hHeld ⊢
  refine Z.pv 0 23 30 1 HT_.out ?_
  refine Z.pv 1 24 30 3 HT_.out ?_
  refine Z.pv 2 25 30 7 HT_.out ?_
  refine Z.pv 3 26 30 15 HT_.out ?_
  refine take_ (i := 4) (N := some 27) (v := ?_) (a' := ?_) #[true, true, true, true, true, false, false, false, false, false, false, false, false, false, false, false, false, false, false, false, false, false, false, false, false, false, false, false, false, false] rfl rfl (take_ofW HT_.out HW_.out (by kernel_rfl)) (fun _ _ _ h => h) (Or.inl ⟨by rfl, ?_⟩) hHeld ?_ ?_
  rotate_left
  ·intro w' s0
   go_simp
   with_reducible rfl
  rotate_left
  ·simp only [Act.put, List.setIfInBounds_toArray, List.set_cons_zero, List.set_cons_succ, i64_w, i32_w]
   rfl
  refine Z.pv 5 28 30 63 HT_.out ?_
  refine Z.pv 6 29 30 127 HT_.out ?_
  refine Z.pu 7 30 30 255 HT_.out ?_
  refine Z.pu 8 31 30 511 HT_.out ?_
  refine Z.pu 9 32 30 1023 HT_.out ?_
  refine Z.pu 10 33 30 2047 HT_.out ?_
  refine Z.pu 11 34 30 4095 HT_.out ?_
  refine Z.pu 12 35 30 8191 HT_.out ?_
  refine Z.pv 13 36 30 16383 HT_.out ?_
  refine Z.pv 14 37 30 32767 HT_.out ?_
  refine Z.pu 15 38 30 65535 HT_.out ?_
  refine Z.pu 16 39 30 131071 HT_.out ?_
  refine Z.pu 17 40 30 262143 HT_.out ?_
  refine Z.pu 18 41 30 524287 HT_.out ?_
  refine Z.pu 19 42 30 1048575 HT_.out ?_
  refine Z.pu 20 43 30 2097151 HT_.out ?_
  refine Z.pu 21 44 30 4194303 HT_.out ?_
  refine Z.pu 22 45 30 8388607 HT_.out ?_
  refine Z.pu 23 46 30 16777215 HT_.out ?_
  refine Z.pu 24 47 30 33554431 HT_.out ?_
  refine Z.pu 25 48 30 67108863 HT_.out ?_
  refine Z.pu 26 49 30 134217727 HT_.out ?_
  refine Z.pu 27 50 30 268435455 HT_.out ?_
  refine Z.pv 28 51 30 536870911 HT_.out ?_
  refine Z.pv 29 10 30 1073741823 HT_.out ?_
  refine done_ (done_of HT_.out (by kernel_rfl)) ?_
  try go_wp2
  go_ret
  exact ⟨by rfl, by repeat ((with_reducible exact HB.out))⟩
 ·rw [if_neg c11] at H
  have c11b0 : (a3 == (rd l1 a2)) = false := beq_eq_false_iff_ne.mpr c11
  have c11b1 : (a3 != (rd l1 a2)) = true := bne_iff_ne.mpr c11
  replace H := Option.bind_eq_some_iff.mp H
  obtain ⟨t184, A200, H⟩ := H
  have A20 := Aside0.mk A200
  clear A200
  by_cases c21 : t184 = true
  ·subst c21
   rw [if_pos rfl] at H
   by_cases c22 : ((rd_T86 (rd_L9 l0_2 a2) (rd l1 a2)).f1) = (-1)
   ·rw [if_pos c22] at H
    have c22b0 : (((rd_T86 (rd_L9 l0_2 a2) (rd l1 a2)).f1) == (-1)) = true := beq_iff_eq.mpr c22
    have c22b1 : (((rd_T86 (rd_L9 l0_2 a2) (rd l1 a2)).f1) != (-1)) = false := bne_eq_false_iff_eq.mpr c22
    clear c22
    obtain rfl := Option.some.inj H
    go_enter Try.func103, Try.ntmps103
    try go_wp2_with (((with_reducible refine gate_dst (N := 5) rfl ?_); refine Z.bx #[.int .i64 a0_0, .slice A0_1 l0_1.length c0_1, .slice A0_2 l0_2.length c0_2] 35 HB ?_; clear HB; intro gb178 w23 BK178 GE178 HB hg hb; have GW178 := GE178; clear hb hg))
    replace BK178 := Aside0.mk (blk_drew BK178.out)
    replace HB := Aside0.mk (below_drew1 HB.out)
    have p179 : 0 ≤ (a2 : Int) := Z.od
    have q179 : a2 < (l0_2.length : Int) := Z.od
    obtain ⟨ad179, A179_0, c179_0, rfl, hx179_0, hl179_0, hi179_0⟩ := at_L9 HR0_2.out a2 p179 q179
    have hw179_0 := hx179_0
    replace hx179_0 := Z.up HB.out hx179_0
    have HR179_0 := Aside0.mk hi179_0
    have HC179_0 := Aside0.mk hl179_0
    clear hi179_0 hl179_0
    replace p179 := eq_true p179
    replace q179 := eq_true q179
    have p180 : 0 ≤ (a2 : Int) := Z.od
    have q180 : a2 < (l1.length : Int) := Z.od
    obtain ⟨ad180, rfl, hx180_0⟩ := Kd.at_int HR1.out a2 p180 q180
    have hw180_0 := hx180_0
    replace hx180_0 := Z.up HB.out hx180_0
    replace p180 := eq_true p180
    replace q180 := eq_true q180
    have p181 : 0 ≤ ((rd l1 a2) : Int) := Z.od
    have q181 : (rd l1 a2) < ((rd_L9 l0_2 a2).length : Int) := Z.od
    obtain ⟨ad181, A181_0, c181_0, rfl, hx181_0, hx181_1, hx181_2, hl181_0, hi181_0⟩ := at_T86 HR179_0.out (rd l1 a2) p181 q181
    have hw181_2 := hx181_2
    have hw181_1 := hx181_1
    have hw181_0 := hx181_0
    replace hx181_0 := Z.up HB.out hx181_0
    replace hx181_1 := Z.up HB.out hx181_1
    replace hx181_2 := Z.up HB.out hx181_2
    have HR181_0 := Aside0.mk hi181_0
    have HC181_0 := Aside0.mk hl181_0
    clear hi181_0 hl181_0
    replace p181 := eq_true p181
    replace q181 := eq_true q181
    refine start_ (n := 13) (S := fun w' => w'.cell? ⟨gb178, 0, none⟩ = some (.int .i64 a0_0) ∧ w'.cell? ⟨gb178, 1, none⟩ = some (.slice A0_1 l0_1.length c0_1) ∧ w'.cell? ⟨gb178, 2, none⟩ = some (.slice (some ad179) l0_2.length c0_2) ∧ w'.cell? (ad179.add (a2).toNat) = some (.slice (some ad181) (rd_L9 l0_2 a2).length c179_0) ∧ w'.cell? (ad180.add (a2).toNat) = some (.int .i64 (rd l1 a2)) ∧ w'.cell? (ad181.add (((rd l1 a2)).toNat * 3)) = some (.slice A181_0 ((rd_T86 (rd_L9 l0_2 a2) (rd l1 a2)).f0).length c181_0) ∧ w'.cell? ⟨(ad181.add (((rd l1 a2)).toNat * 3)).block, (ad181.add (((rd l1 a2)).toNat * 3)).off + 1, none⟩ = some (.int .i64 ((rd_T86 (rd_L9 l0_2 a2) (rd l1 a2)).f1)) ∧ w'.cell? ⟨(ad181.add (((rd l1 a2)).toNat * 3)).block, (ad181.add (((rd l1 a2)).toNat * 3)).off + 2, none⟩ = some (.int .i64 ((rd_T86 (rd_L9 l0_2 a2) (rd l1 a2)).f2))) (ds := []) #[false, false, false, false, false, false, false, false, false, false, false, false, false] (by kernel_rfl) rfl rfl ⟨(blk_cell BK178.out 0).trans rfl, (blk_cell BK178.out 1).trans rfl, (blk_cell BK178.out 2).trans rfl, (Z.up HB.out hw179_0 :), (Z.up HB.out hw180_0 :), (Z.up HB.out hw181_0 :), (Z.up HB.out hw181_1 :), (Z.up HB.out hw181_2 :)⟩ (fun hHeld => ?_); refine with_tabW spec_l8May.tab1 spec_l8May.bits1 (fun HT_ HW_ => ?_)
    generalize w23.drew = w24 at BK178 HB HR179_0 HR181_0 hx179_0 hx180_0 hx181_0 hx181_1 hx181_2 hHeld ⊢
    refine Z.pv 0 12 13 1 HT_.out ?_
    refine Z.pv 2 14 13 5 HT_.out ?_
    refine Z.pv 5 17 13 37 HT_.out ?_
    refine Z.pv 6 18 13 101 HT_.out ?_
    refine Z.pv 7 19 13 229 HT_.out ?_
    refine Z.t8 1 13 13 231 HT_.out HW_.out hHeld ?_
    refine Z.pv 3 15 13 239 HT_.out ?_
    refine Z.t8 4 16 13 255 HT_.out HW_.out hHeld ?_
    refine Z.t8 8 20 13 511 HT_.out HW_.out hHeld ?_
    refine Z.pv 9 21 13 1023 HT_.out ?_
    refine Z.t8 10 22 13 2047 HT_.out HW_.out hHeld ?_
    refine one_ (i := 11) (N := some 11) (Z.mb 13 4095) rfl rfl (one_of HT_.out (by kernel_rfl)) (by decide) (fun K hK => ?_)
    refine box_step ?hg (N := 11) ?hd (cs := #[.slice none 0 0, .int .i64 0, .int .i64 0]) (t := 86) ?hr ?_; (case hd | hg => rfl); (case hr => (go_simp; done))
    intro gb182 hg w25 hbox hb
    have BK182 := Aside0.mk (hbox)
    have GW182 := Z.gh hg (Z.bs HB.out GE178.out)
    have GE182 := Z.gh hg (Z.bs HB.out GE178.out)
    replace HB := Z.st (Z.bs HB.out GE178.out) hb
    have NB178_182 := Z.nl hg BK178
    have NB182_178 := Z.ng hg BK178
    replace BK178 := Z.bb BK178 hb
    clear hb hbox hg
    refine hK.out _ _ ⟨(blk_cell BK178.out 0).trans rfl, (blk_cell BK178.out 1).trans rfl, (blk_cell BK178.out 2).trans rfl, (Z.up HB.out hw179_0 :), (Z.up HB.out hw180_0 :), (Z.up HB.out hw181_0 :), (Z.up HB.out hw181_1 :), (Z.up HB.out hw181_2 :)⟩ (fun hHeld => ?_)
    clear hK K
    refine Z.nm ?_
    refine one_ (i := 12) (N := none) #[true, true, true, true, true, true, true, true, true, true, true, true, true] rfl rfl (one_of HT_.out (by kernel_rfl)) (by decide) (fun K hK => ?_)
    have hs26 : w25.cell? ⟨gb182, 0, none⟩ = some (.slice none 0 0) := (blk_cell BK182.out 0).trans rfl
    have hfs26 := blk_frozen BK182.out 0
    have hns26_0 := NB178_182.out
    have hms26_0 := NB182_178.out
    have hs27 : w25.cell? ⟨gb182, 1, none⟩ = some (.int .i64 0) := (blk_cell BK182.out 1).trans rfl
    have hfs27 := blk_frozen BK182.out 1
    have hns27_0 := NB178_182.out
    have hms27_0 := NB182_178.out
    have hs28 : w25.cell? ⟨gb182, 2, none⟩ = some (.int .i64 0) := (blk_cell BK182.out 2).trans rfl
    have hfs28 := blk_frozen BK182.out 2
    have hns28_0 := NB178_182.out
    have hms28_0 := NB182_178.out
    refine skip_ (w1 := ?_) (by rfl) rfl ?_ ?_
    rotate_left
    ·go_simp
     rfl
    refine hK.out _ _ ⟨(Z.f3 NB178_182.out (hHeld.1)), (Z.f3 NB178_182.out (hHeld.2.1)), (Z.f3 NB178_182.out (hHeld.2.2.1)), (Z.f3 (Z.fn hw179_0 GW182.out) (hHeld.2.2.2.1)), (Z.f3 (Z.fn hw180_0 GW182.out) (hHeld.2.2.2.2.1)), (Z.f3 (Z.fn hw181_0 GW182.out) (hHeld.2.2.2.2.2.1)), (Z.f3 (Z.fn hw181_1 GW182.out) (hHeld.2.2.2.2.2.2.1)), (Z.f3 (Z.fn hw181_2 GW182.out) (hHeld.2.2.2.2.2.2.2))⟩ (fun hHeld => ?_)
    clear hK K
    refine done_ (done_of HT_.out (by kernel_rfl)) ?_
    try go_wp2
    have n0_ : Aside0 ((((w25.setCell ⟨gb182, 0, none⟩ (.slice A181_0 ((rd_T86 (rd_L9 l0_2 a2) (rd l1 a2)).f0).length c181_0)).setCell ⟨gb182, 1, none⟩ (.int .i64 ((rd_T86 (rd_L9 l0_2 a2) (rd l1 a2)).f1))).setCell ⟨gb182, 2, none⟩ (.int .i64 ((rd_T86 (rd_L9 l0_2 a2) (rd l1 a2)).f2))).heap[gb178]? = some (.cells #[.int .i64 a0_0, .slice A0_1 l0_1.length c0_1, .slice (some ad179) l0_2.length c0_2] 35 (0, 0))) := ⟨by (with_reducible skip); refine blk_far ?_ NB178_182.out _; (with_reducible skip); refine blk_far ?_ NB178_182.out _; (with_reducible skip); refine blk_far ?_ NB178_182.out _; (with_reducible skip); exact BK178.out⟩
    have n1_ : Aside0 ((((w25.setCell ⟨gb182, 0, none⟩ (.slice A181_0 ((rd_T86 (rd_L9 l0_2 a2) (rd l1 a2)).f0).length c181_0)).setCell ⟨gb182, 1, none⟩ (.int .i64 ((rd_T86 (rd_L9 l0_2 a2) (rd l1 a2)).f1))).setCell ⟨gb182, 2, none⟩ (.int .i64 ((rd_T86 (rd_L9 l0_2 a2) (rd l1 a2)).f2))).heap[gb182]? = some (.cells #[.slice A181_0 ((rd_T86 (rd_L9 l0_2 a2) (rd l1 a2)).f0).length c181_0, .int .i64 ((rd_T86 (rd_L9 l0_2 a2) (rd l1 a2)).f1), .int .i64 ((rd_T86 (rd_L9 l0_2 a2) (rd l1 a2)).f2)] 86 (0, 0))) := ⟨by (with_reducible skip); refine blk_put (cs := #[.slice A181_0 ((rd_T86 (rd_L9 l0_2 a2) (rd l1 a2)).f0).length c181_0, .int .i64 ((rd_T86 (rd_L9 l0_2 a2) (rd l1 a2)).f1), .int .i64 0]) ?_ 2 _ rfl; (with_reducible skip); refine blk_put (cs := #[.slice A181_0 ((rd_T86 (rd_L9 l0_2 a2) (rd l1 a2)).f0).length c181_0, .int .i64 0, .int .i64 0]) ?_ 1 _ rfl; (with_reducible skip); refine blk_put (cs := #[.slice none 0 0, .int .i64 0, .int .i64 0]) ?_ 0 _ rfl; (with_reducible skip); exact BK182.out⟩
    have n2_ : Aside0 (Below w.heap.size w (((w25.setCell ⟨gb182, 0, none⟩ (.slice A181_0 ((rd_T86 (rd_L9 l0_2 a2) (rd l1 a2)).f0).length c181_0)).setCell ⟨gb182, 1, none⟩ (.int .i64 ((rd_T86 (rd_L9 l0_2 a2) (rd l1 a2)).f1))).setCell ⟨gb182, 2, none⟩ (.int .i64 ((rd_T86 (rd_L9 l0_2 a2) (rd l1 a2)).f2)))) := ⟨by repeat ((with_reducible first | exact HB.out | refine below_set ?_ GE182.out))⟩
    (try clear BK178)
    (try clear BK182)
    (try clear HB)
    generalize (((w25.setCell ⟨gb182, 0, none⟩ (.slice A181_0 ((rd_T86 (rd_L9 l0_2 a2) (rd l1 a2)).f0).length c181_0)).setCell ⟨gb182, 1, none⟩ (.int .i64 ((rd_T86 (rd_L9 l0_2 a2) (rd l1 a2)).f1))).setCell ⟨gb182, 2, none⟩ (.int .i64 ((rd_T86 (rd_L9 l0_2 a2) (rd l1 a2)).f2))) = w29 at n0_ n1_ n2_ ⊢
    have BK178 := n0_
    have BK182 := n1_
    have HB := n2_
    clear n0_ n1_ n2_
    replace BK178 := Aside0.mk (blk_drew BK178.out)
    replace BK182 := Aside0.mk (blk_drew BK182.out)
    replace HB := Aside0.mk (below_drew1 HB.out)
    have p183 : 0 ≤ (a2 : Int) := Z.od
    have q183 : a2 < (l1.length : Int) := Z.od
    obtain ⟨ad183, e183, hx183_0⟩ := Kd.at_int HR1.out a2 p183 q183
    have hw183_0 := hx183_0
    obtain rfl : ad180 = ad183 := (by injection e183)
    replace hx183_0 := Z.up HB.out hx183_0
    replace p183 := eq_true p183
    replace q183 := eq_true q183
    refine start_ (n := 30) (S := fun w' => w'.cell? ⟨gb178, 0, none⟩ = some (.int .i64 a0_0) ∧ w'.cell? ⟨gb178, 1, none⟩ = some (.slice A0_1 l0_1.length c0_1) ∧ w'.cell? ⟨gb178, 2, none⟩ = some (.slice (some ad179) l0_2.length c0_2) ∧ w'.cell? ⟨gb182, 0, none⟩ = some (.slice A181_0 ((rd_T86 (rd_L9 l0_2 a2) (rd l1 a2)).f0).length c181_0) ∧ w'.cell? ⟨gb182, 1, none⟩ = some (.int .i64 ((rd_T86 (rd_L9 l0_2 a2) (rd l1 a2)).f1)) ∧ w'.cell? ⟨gb182, 2, none⟩ = some (.int .i64 ((rd_T86 (rd_L9 l0_2 a2) (rd l1 a2)).f2)) ∧ w'.cell? (ad180.add (a2).toNat) = some (.int .i64 (rd l1 a2))) (ds := []) #[false, false, false, false, false, false, false, false, false, false, false, false, false, false, false, false, false, false, false, false, false, false, false, false, false, false, false, false, false, false] (by kernel_rfl) rfl rfl ⟨(blk_cell BK178.out 0).trans rfl, (blk_cell BK178.out 1).trans rfl, (blk_cell BK178.out 2).trans rfl, (blk_cell BK182.out 0).trans rfl, (blk_cell BK182.out 1).trans rfl, (blk_cell BK182.out 2).trans rfl, (Z.up HB.out hw183_0 :)⟩ (fun hHeld => ?_); refine with_tabW spec_l8May.tab2 spec_l8May.bits2 (fun HT_ HW_ => ?_)
    generalize w29.drew = w30 at BK178 BK182 HB hx183_0 hHeld ⊢
    refine Z.pv 0 23 30 1 HT_.out ?_
    refine Z.pv 1 24 30 3 HT_.out ?_
    refine Z.pv 2 25 30 7 HT_.out ?_
    refine Z.pv 3 26 30 15 HT_.out ?_
    refine Z.t7 4 27 30 31 HT_.out HW_.out hHeld ?_
    refine Z.pv 5 28 30 63 HT_.out ?_
    refine Z.pv 6 29 30 127 HT_.out ?_
    refine Z.pv 7 30 30 255 HT_.out ?_
    refine Z.pv 9 32 30 767 HT_.out ?_
    refine Z.pv 11 34 30 2815 HT_.out ?_
    refine Z.t7 8 31 30 3071 HT_.out HW_.out hHeld ?_
    refine Z.t7 10 33 30 4095 HT_.out HW_.out hHeld ?_
    refine one_ (i := 12) (N := some 35) (Z.mb 30 8191) rfl rfl (one_of HT_.out (by kernel_rfl)) (by decide) (fun K hK => ?_)
    refine goes_ Try.func125 (by kernel_rfl) rfl #[.agg #[.int .i64 a0_0, .slice A0_1 l0_1.length c0_1], .slice A181_0 ((rd_T86 (rd_L9 l0_2 a2) (rd l1 a2)).f0).length c181_0, .int .i64 a4] (by rfl) rfl rfl Z.ar ?_
    with_reducible refine (spec_l4Says.calls k a0_0 _ _ l0_1 _ _ ((rd_T86 (rd_L9 l0_2 a2) (rd l1 a2)).f0) a4 true _ ?q1 ?q2 ?q3 ?q4 A20.out).mono ?_
    (case q1 => exact Z.cc HR0_1 HB)
    (case q2 => exact HC0_1.out)
    (case q3 => exact Z.cc HR181_0 HB)
    (case q4 => exact HC181_0.out)
    rintro e w31 ⟨rfl, hb⟩
    refine ⟨_, rfl, ?_⟩
    replace BK178 := Z.bb BK178 hb
    replace BK182 := Z.bb BK182 hb
    replace HB := Aside0.mk (below_step (by repeat ((with_reducible exact HB.out))) hb)
    (try clear hb)
    refine hK.out _ _ ⟨(blk_cell BK178.out 0).trans rfl, (blk_cell BK178.out 1).trans rfl, (blk_cell BK178.out 2).trans rfl, (blk_cell BK182.out 0).trans rfl, (blk_cell BK182.out 1).trans rfl, (blk_cell BK182.out 2).trans rfl, (Z.up HB.out hw183_0 :)⟩ (fun hHeld => ?_)
    clear hK K
    refine Z.nm ?_
    refine Z.pv 13 36 30 16383 HT_.out ?_
    refine Z.pv 14 37 30 32767 HT_.out ?_
    refine Z.pv 15 38 30 65535 HT_.out ?_
    refine Z.t7 16 39 30 131071 HT_.out HW_.out hHeld ?_
    refine Z.pv 17 40 30 262143 HT_.out ?_
    refine Z.pv 18 41 30 524287 HT_.out ?_
    refine Z.pu 19 42 30 1048575 HT_.out ?_
    refine Z.pu 20 43 30 2097151 HT_.out ?_
    refine Z.pu 21 44 30 4194303 HT_.out ?_
    refine Z.pu 22 45 30 8388607 HT_.out ?_
    refine Z.pu 23 46 30 16777215 HT_.out ?_
    refine Z.pu 24 47 30 33554431 HT_.out ?_
    refine Z.pu 25 48 30 67108863 HT_.out ?_
    refine Z.pu 26 49 30 134217727 HT_.out ?_
    refine Z.pv 27 50 30 268435455 HT_.out ?_
    refine Z.pv 28 51 30 536870911 HT_.out ?_
    refine Z.pv 29 10 30 1073741823 HT_.out ?_
    refine done_ (done_of HT_.out (by kernel_rfl)) ?_
    try go_wp2
    go_ret
    exact ⟨by rfl, by repeat ((with_reducible exact HB.out))⟩
   ·rw [if_neg c22] at H
    have c22b0 : (((rd_T86 (rd_L9 l0_2 a2) (rd l1 a2)).f1) == (-1)) = false := beq_eq_false_iff_ne.mpr c22
    have c22b1 : (((rd_T86 (rd_L9 l0_2 a2) (rd l1 a2)).f1) != (-1)) = true := bne_iff_ne.mpr c22
    obtain ⟨c32, H⟩ := Z.ifp H
    have c32b0 : decide (0 ≤ ((rd_T86 (rd_L9 l0_2 a2) (rd l1 a2)).f1)) = true := decide_eq_true c32
    clear c32
    obtain ⟨c33, H⟩ := Z.ifp H
    have c33b0 : decide (((rd_T86 (rd_L9 l0_2 a2) (rd l1 a2)).f1) < (l1.length : Int)) = true := decide_eq_true c33
    clear c33
    obtain rfl := Option.some.inj H
    go_enter Try.func103, Try.ntmps103
    try go_wp2_with (((with_reducible refine gate_dst (N := 5) rfl ?_); refine Z.bx #[.int .i64 a0_0, .slice A0_1 l0_1.length c0_1, .slice A0_2 l0_2.length c0_2] 35 HB ?_; clear HB; intro gb178 w34 BK178 GE178 HB hg hb; have GW178 := GE178; clear hb hg))
    replace BK178 := Aside0.mk (blk_drew BK178.out)
    replace HB := Aside0.mk (below_drew1 HB.out)
    have p179 : 0 ≤ (a2 : Int) := Z.od
    have q179 : a2 < (l0_2.length : Int) := Z.od
    obtain ⟨ad179, A179_0, c179_0, rfl, hx179_0, hl179_0, hi179_0⟩ := at_L9 HR0_2.out a2 p179 q179
    have hw179_0 := hx179_0
    replace hx179_0 := Z.up HB.out hx179_0
    have HR179_0 := Aside0.mk hi179_0
    have HC179_0 := Aside0.mk hl179_0
    clear hi179_0 hl179_0
    replace p179 := eq_true p179
    replace q179 := eq_true q179
    have p180 : 0 ≤ (a2 : Int) := Z.od
    have q180 : a2 < (l1.length : Int) := Z.od
    obtain ⟨ad180, rfl, hx180_0⟩ := Kd.at_int HR1.out a2 p180 q180
    have hw180_0 := hx180_0
    replace hx180_0 := Z.up HB.out hx180_0
    replace p180 := eq_true p180
    replace q180 := eq_true q180
    have p181 : 0 ≤ ((rd l1 a2) : Int) := Z.od
    have q181 : (rd l1 a2) < ((rd_L9 l0_2 a2).length : Int) := Z.od
    obtain ⟨ad181, A181_0, c181_0, rfl, hx181_0, hx181_1, hx181_2, hl181_0, hi181_0⟩ := at_T86 HR179_0.out (rd l1 a2) p181 q181
    have hw181_2 := hx181_2
    have hw181_1 := hx181_1
    have hw181_0 := hx181_0
    replace hx181_0 := Z.up HB.out hx181_0
    replace hx181_1 := Z.up HB.out hx181_1
    replace hx181_2 := Z.up HB.out hx181_2
    have HR181_0 := Aside0.mk hi181_0
    have HC181_0 := Aside0.mk hl181_0
    clear hi181_0 hl181_0
    replace p181 := eq_true p181
    replace q181 := eq_true q181
    refine start_ (n := 13) (S := fun w' => w'.cell? ⟨gb178, 0, none⟩ = some (.int .i64 a0_0) ∧ w'.cell? ⟨gb178, 1, none⟩ = some (.slice A0_1 l0_1.length c0_1) ∧ w'.cell? ⟨gb178, 2, none⟩ = some (.slice (some ad179) l0_2.length c0_2) ∧ w'.cell? (ad179.add (a2).toNat) = some (.slice (some ad181) (rd_L9 l0_2 a2).length c179_0) ∧ w'.cell? (ad180.add (a2).toNat) = some (.int .i64 (rd l1 a2)) ∧ w'.cell? (ad181.add (((rd l1 a2)).toNat * 3)) = some (.slice A181_0 ((rd_T86 (rd_L9 l0_2 a2) (rd l1 a2)).f0).length c181_0) ∧ w'.cell? ⟨(ad181.add (((rd l1 a2)).toNat * 3)).block, (ad181.add (((rd l1 a2)).toNat * 3)).off + 1, none⟩ = some (.int .i64 ((rd_T86 (rd_L9 l0_2 a2) (rd l1 a2)).f1)) ∧ w'.cell? ⟨(ad181.add (((rd l1 a2)).toNat * 3)).block, (ad181.add (((rd l1 a2)).toNat * 3)).off + 2, none⟩ = some (.int .i64 ((rd_T86 (rd_L9 l0_2 a2) (rd l1 a2)).f2))) (ds := []) #[false, false, false, false, false, false, false, false, false, false, false, false, false] (by kernel_rfl) rfl rfl ⟨(blk_cell BK178.out 0).trans rfl, (blk_cell BK178.out 1).trans rfl, (blk_cell BK178.out 2).trans rfl, (Z.up HB.out hw179_0 :), (Z.up HB.out hw180_0 :), (Z.up HB.out hw181_0 :), (Z.up HB.out hw181_1 :), (Z.up HB.out hw181_2 :)⟩ (fun hHeld => ?_); refine with_tabW spec_l8May.tab1 spec_l8May.bits1 (fun HT_ HW_ => ?_)
    generalize w34.drew = w35 at BK178 HB HR179_0 HR181_0 hx179_0 hx180_0 hx181_0 hx181_1 hx181_2 hHeld ⊢
    refine Z.pv 0 12 13 1 HT_.out ?_
    refine Z.pv 2 14 13 5 HT_.out ?_
    refine Z.pv 5 17 13 37 HT_.out ?_
    refine Z.pv 6 18 13 101 HT_.out ?_
    refine Z.pv 7 19 13 229 HT_.out ?_
    refine Z.t8 1 13 13 231 HT_.out HW_.out hHeld ?_
    refine Z.pv 3 15 13 239 HT_.out ?_
    refine Z.t8 4 16 13 255 HT_.out HW_.out hHeld ?_
    refine Z.t8 8 20 13 511 HT_.out HW_.out hHeld ?_
    refine Z.pv 9 21 13 1023 HT_.out ?_
    refine Z.t8 10 22 13 2047 HT_.out HW_.out hHeld ?_
    refine one_ (i := 11) (N := some 11) (Z.mb 13 4095) rfl rfl (one_of HT_.out (by kernel_rfl)) (by decide) (fun K hK => ?_)
    refine box_step ?hg (N := 11) ?hd (cs := #[.slice none 0 0, .int .i64 0, .int .i64 0]) (t := 86) ?hr ?_; (case hd | hg => rfl); (case hr => (go_simp; done))
    intro gb182 hg w36 hbox hb
    have BK182 := Aside0.mk (hbox)
    have GW182 := Z.gh hg (Z.bs HB.out GE178.out)
    have GE182 := Z.gh hg (Z.bs HB.out GE178.out)
    replace HB := Z.st (Z.bs HB.out GE178.out) hb
    have NB178_182 := Z.nl hg BK178
    have NB182_178 := Z.ng hg BK178
    replace BK178 := Z.bb BK178 hb
    clear hb hbox hg
    refine hK.out _ _ ⟨(blk_cell BK178.out 0).trans rfl, (blk_cell BK178.out 1).trans rfl, (blk_cell BK178.out 2).trans rfl, (Z.up HB.out hw179_0 :), (Z.up HB.out hw180_0 :), (Z.up HB.out hw181_0 :), (Z.up HB.out hw181_1 :), (Z.up HB.out hw181_2 :)⟩ (fun hHeld => ?_)
    clear hK K
    refine Z.nm ?_
    refine one_ (i := 12) (N := none) #[true, true, true, true, true, true, true, true, true, true, true, true, true] rfl rfl (one_of HT_.out (by kernel_rfl)) (by decide) (fun K hK => ?_)
    have hs37 : w36.cell? ⟨gb182, 0, none⟩ = some (.slice none 0 0) := (blk_cell BK182.out 0).trans rfl
    have hfs37 := blk_frozen BK182.out 0
    have hns37_0 := NB178_182.out
    have hms37_0 := NB182_178.out
    have hs38 : w36.cell? ⟨gb182, 1, none⟩ = some (.int .i64 0) := (blk_cell BK182.out 1).trans rfl
    have hfs38 := blk_frozen BK182.out 1
    have hns38_0 := NB178_182.out
    have hms38_0 := NB182_178.out
    have hs39 : w36.cell? ⟨gb182, 2, none⟩ = some (.int .i64 0) := (blk_cell BK182.out 2).trans rfl
    have hfs39 := blk_frozen BK182.out 2
    have hns39_0 := NB178_182.out
    have hms39_0 := NB182_178.out
    refine skip_ (w1 := ?_) (by rfl) rfl ?_ ?_
    rotate_left
    ·go_simp
     rfl
    refine hK.out _ _ ⟨(Z.f3 NB178_182.out (hHeld.1)), (Z.f3 NB178_182.out (hHeld.2.1)), (Z.f3 NB178_182.out (hHeld.2.2.1)), (Z.f3 (Z.fn hw179_0 GW182.out) (hHeld.2.2.2.1)), (Z.f3 (Z.fn hw180_0 GW182.out) (hHeld.2.2.2.2.1)), (Z.f3 (Z.fn hw181_0 GW182.out) (hHeld.2.2.2.2.2.1)), (Z.f3 (Z.fn hw181_1 GW182.out) (hHeld.2.2.2.2.2.2.1)), (Z.f3 (Z.fn hw181_2 GW182.out) (hHeld.2.2.2.2.2.2.2))⟩ (fun hHeld => ?_)
    clear hK K
    refine done_ (done_of HT_.out (by kernel_rfl)) ?_
    try go_wp2
    have n0_ : Aside0 ((((w36.setCell ⟨gb182, 0, none⟩ (.slice A181_0 ((rd_T86 (rd_L9 l0_2 a2) (rd l1 a2)).f0).length c181_0)).setCell ⟨gb182, 1, none⟩ (.int .i64 ((rd_T86 (rd_L9 l0_2 a2) (rd l1 a2)).f1))).setCell ⟨gb182, 2, none⟩ (.int .i64 ((rd_T86 (rd_L9 l0_2 a2) (rd l1 a2)).f2))).heap[gb178]? = some (.cells #[.int .i64 a0_0, .slice A0_1 l0_1.length c0_1, .slice (some ad179) l0_2.length c0_2] 35 (0, 0))) := ⟨by (with_reducible skip); refine blk_far ?_ NB178_182.out _; (with_reducible skip); refine blk_far ?_ NB178_182.out _; (with_reducible skip); refine blk_far ?_ NB178_182.out _; (with_reducible skip); exact BK178.out⟩
    have n1_ : Aside0 ((((w36.setCell ⟨gb182, 0, none⟩ (.slice A181_0 ((rd_T86 (rd_L9 l0_2 a2) (rd l1 a2)).f0).length c181_0)).setCell ⟨gb182, 1, none⟩ (.int .i64 ((rd_T86 (rd_L9 l0_2 a2) (rd l1 a2)).f1))).setCell ⟨gb182, 2, none⟩ (.int .i64 ((rd_T86 (rd_L9 l0_2 a2) (rd l1 a2)).f2))).heap[gb182]? = some (.cells #[.slice A181_0 ((rd_T86 (rd_L9 l0_2 a2) (rd l1 a2)).f0).length c181_0, .int .i64 ((rd_T86 (rd_L9 l0_2 a2) (rd l1 a2)).f1), .int .i64 ((rd_T86 (rd_L9 l0_2 a2) (rd l1 a2)).f2)] 86 (0, 0))) := ⟨by (with_reducible skip); refine blk_put (cs := #[.slice A181_0 ((rd_T86 (rd_L9 l0_2 a2) (rd l1 a2)).f0).length c181_0, .int .i64 ((rd_T86 (rd_L9 l0_2 a2) (rd l1 a2)).f1), .int .i64 0]) ?_ 2 _ rfl; (with_reducible skip); refine blk_put (cs := #[.slice A181_0 ((rd_T86 (rd_L9 l0_2 a2) (rd l1 a2)).f0).length c181_0, .int .i64 0, .int .i64 0]) ?_ 1 _ rfl; (with_reducible skip); refine blk_put (cs := #[.slice none 0 0, .int .i64 0, .int .i64 0]) ?_ 0 _ rfl; (with_reducible skip); exact BK182.out⟩
    have n2_ : Aside0 (Below w.heap.size w (((w36.setCell ⟨gb182, 0, none⟩ (.slice A181_0 ((rd_T86 (rd_L9 l0_2 a2) (rd l1 a2)).f0).length c181_0)).setCell ⟨gb182, 1, none⟩ (.int .i64 ((rd_T86 (rd_L9 l0_2 a2) (rd l1 a2)).f1))).setCell ⟨gb182, 2, none⟩ (.int .i64 ((rd_T86 (rd_L9 l0_2 a2) (rd l1 a2)).f2)))) := ⟨by repeat ((with_reducible first | exact HB.out | refine below_set ?_ GE182.out))⟩
    (try clear BK178)
    (try clear BK182)
    (try clear HB)
    generalize (((w36.setCell ⟨gb182, 0, none⟩ (.slice A181_0 ((rd_T86 (rd_L9 l0_2 a2) (rd l1 a2)).f0).length c181_0)).setCell ⟨gb182, 1, none⟩ (.int .i64 ((rd_T86 (rd_L9 l0_2 a2) (rd l1 a2)).f1))).setCell ⟨gb182, 2, none⟩ (.int .i64 ((rd_T86 (rd_L9 l0_2 a2) (rd l1 a2)).f2))) = w40 at n0_ n1_ n2_ ⊢
    have BK178 := n0_
    have BK182 := n1_
    have HB := n2_
    clear n0_ n1_ n2_
    replace BK178 := Aside0.mk (blk_drew BK178.out)
    replace BK182 := Aside0.mk (blk_drew BK182.out)
    replace HB := Aside0.mk (below_drew1 HB.out)
    have p183 : 0 ≤ (a2 : Int) := Z.od
    have q183 : a2 < (l1.length : Int) := Z.od
    obtain ⟨ad183, e183, hx183_0⟩ := Kd.at_int HR1.out a2 p183 q183
    have hw183_0 := hx183_0
    obtain rfl : ad180 = ad183 := (by injection e183)
    replace hx183_0 := Z.up HB.out hx183_0
    replace p183 := eq_true p183
    replace q183 := eq_true q183
    have p185 : 0 ≤ (((rd_T86 (rd_L9 l0_2 a2) (rd l1 a2)).f1) : Int) := Z.od
    have q185 : ((rd_T86 (rd_L9 l0_2 a2) (rd l1 a2)).f1) < (l1.length : Int) := Z.od
    obtain ⟨ad185, e185, hx185_0⟩ := Kd.at_int HR1.out ((rd_T86 (rd_L9 l0_2 a2) (rd l1 a2)).f1) p185 q185
    have hw185_0 := hx185_0
    obtain rfl : ad180 = ad185 := (by injection e185)
    replace hx185_0 := Z.up HB.out hx185_0
    replace p185 := eq_true p185
    replace q185 := eq_true q185
    refine start_ (n := 30) (S := fun w' => w'.cell? ⟨gb178, 0, none⟩ = some (.int .i64 a0_0) ∧ w'.cell? ⟨gb178, 1, none⟩ = some (.slice A0_1 l0_1.length c0_1) ∧ w'.cell? ⟨gb178, 2, none⟩ = some (.slice (some ad179) l0_2.length c0_2) ∧ w'.cell? ⟨gb182, 0, none⟩ = some (.slice A181_0 ((rd_T86 (rd_L9 l0_2 a2) (rd l1 a2)).f0).length c181_0) ∧ w'.cell? ⟨gb182, 1, none⟩ = some (.int .i64 ((rd_T86 (rd_L9 l0_2 a2) (rd l1 a2)).f1)) ∧ w'.cell? ⟨gb182, 2, none⟩ = some (.int .i64 ((rd_T86 (rd_L9 l0_2 a2) (rd l1 a2)).f2)) ∧ w'.cell? (ad180.add (a2).toNat) = some (.int .i64 (rd l1 a2)) ∧ w'.cell? (ad180.add (((rd_T86 (rd_L9 l0_2 a2) (rd l1 a2)).f1)).toNat) = some (.int .i64 (rd l1 ((rd_T86 (rd_L9 l0_2 a2) (rd l1 a2)).f1)))) (ds := []) #[false, false, false, false, false, false, false, false, false, false, false, false, false, false, false, false, false, false, false, false, false, false, false, false, false, false, false, false, false, false] (by kernel_rfl) rfl rfl ⟨(blk_cell BK178.out 0).trans rfl, (blk_cell BK178.out 1).trans rfl, (blk_cell BK178.out 2).trans rfl, (blk_cell BK182.out 0).trans rfl, (blk_cell BK182.out 1).trans rfl, (blk_cell BK182.out 2).trans rfl, (Z.up HB.out hw183_0 :), (Z.up HB.out hw185_0 :)⟩ (fun hHeld => ?_); refine with_tabW spec_l8May.tab2 spec_l8May.bits2 (fun HT_ HW_ => ?_)
    generalize w40.drew = w41 at BK178 BK182 HB hx183_0 hx185_0 hHeld ⊢
    refine Z.pv 0 23 30 1 HT_.out ?_
    refine Z.pv 1 24 30 3 HT_.out ?_
    refine Z.pv 2 25 30 7 HT_.out ?_
    refine Z.pv 3 26 30 15 HT_.out ?_
    refine Z.t8 4 27 30 31 HT_.out HW_.out hHeld ?_
    refine Z.pv 5 28 30 63 HT_.out ?_
    refine Z.pv 6 29 30 127 HT_.out ?_
    refine Z.pv 7 30 30 255 HT_.out ?_
    refine Z.pv 9 32 30 767 HT_.out ?_
    refine Z.pv 11 34 30 2815 HT_.out ?_
    refine Z.t8 8 31 30 3071 HT_.out HW_.out hHeld ?_
    refine Z.t8 10 33 30 4095 HT_.out HW_.out hHeld ?_
    refine one_ (i := 12) (N := some 35) (Z.mb 30 8191) rfl rfl (one_of HT_.out (by kernel_rfl)) (by decide) (fun K hK => ?_)
    refine goes_ Try.func125 (by kernel_rfl) rfl #[.agg #[.int .i64 a0_0, .slice A0_1 l0_1.length c0_1], .slice A181_0 ((rd_T86 (rd_L9 l0_2 a2) (rd l1 a2)).f0).length c181_0, .int .i64 a4] (by rfl) rfl rfl Z.ar ?_
    with_reducible refine (spec_l4Says.calls k a0_0 _ _ l0_1 _ _ ((rd_T86 (rd_L9 l0_2 a2) (rd l1 a2)).f0) a4 true _ ?q1 ?q2 ?q3 ?q4 A20.out).mono ?_
    (case q1 => exact Z.cc HR0_1 HB)
    (case q2 => exact HC0_1.out)
    (case q3 => exact Z.cc HR181_0 HB)
    (case q4 => exact HC181_0.out)
    rintro e w42 ⟨rfl, hb⟩
    refine ⟨_, rfl, ?_⟩
    replace BK178 := Z.bb BK178 hb
    replace BK182 := Z.bb BK182 hb
    replace HB := Aside0.mk (below_step (by repeat ((with_reducible exact HB.out))) hb)
    (try clear hb)
    refine hK.out _ _ ⟨(blk_cell BK178.out 0).trans rfl, (blk_cell BK178.out 1).trans rfl, (blk_cell BK178.out 2).trans rfl, (blk_cell BK182.out 0).trans rfl, (blk_cell BK182.out 1).trans rfl, (blk_cell BK182.out 2).trans rfl, (Z.up HB.out hw183_0 :), (Z.up HB.out hw185_0 :)⟩ (fun hHeld => ?_)
    clear hK K
    refine Z.nm ?_
    refine Z.pv 13 36 30 16383 HT_.out ?_
    refine Z.pv 14 37 30 32767 HT_.out ?_
    refine Z.pv 15 38 30 65535 HT_.out ?_
    refine Z.t8 16 39 30 131071 HT_.out HW_.out hHeld ?_
    refine Z.pv 17 40 30 262143 HT_.out ?_
    refine Z.pv 18 41 30 524287 HT_.out ?_
    refine Z.pv 19 42 30 1048575 HT_.out ?_
    refine Z.pv 20 43 30 2097151 HT_.out ?_
    refine Z.pv 24 47 30 18874367 HT_.out ?_
    refine Z.t8 21 44 30 20971519 HT_.out HW_.out hHeld ?_
    refine Z.pv 22 45 30 25165823 HT_.out ?_
    refine Z.t8 23 46 30 33554431 HT_.out HW_.out hHeld ?_
    refine Z.t8 25 48 30 67108863 HT_.out HW_.out hHeld ?_
    refine Z.pv 26 49 30 134217727 HT_.out ?_
    refine Z.pv 27 50 30 268435455 HT_.out ?_
    refine Z.pv 28 51 30 536870911 HT_.out ?_
    refine Z.pv 29 10 30 1073741823 HT_.out ?_
    refine done_ (done_of HT_.out (by kernel_rfl)) ?_
    try go_wp2
    go_ret
    exact ⟨by rfl, by repeat ((with_reducible exact HB.out))⟩
  ·replace c21 := Bool.eq_false_iff.mpr c21
   subst c21
   rw [if_neg (show ¬ (false = true) by decide)] at H
   obtain rfl := Option.some.inj H
   go_enter Try.func103, Try.ntmps103
   try go_wp2_with (((with_reducible refine gate_dst (N := 5) rfl ?_); refine Z.bx #[.int .i64 a0_0, .slice A0_1 l0_1.length c0_1, .slice A0_2 l0_2.length c0_2] 35 HB ?_; clear HB; intro gb178 w43 BK178 GE178 HB hg hb; have GW178 := GE178; clear hb hg))
   replace BK178 := Aside0.mk (blk_drew BK178.out)
   replace HB := Aside0.mk (below_drew1 HB.out)
   have p179 : 0 ≤ (a2 : Int) := Z.od
   have q179 : a2 < (l0_2.length : Int) := Z.od
   obtain ⟨ad179, A179_0, c179_0, rfl, hx179_0, hl179_0, hi179_0⟩ := at_L9 HR0_2.out a2 p179 q179
   have hw179_0 := hx179_0
   replace hx179_0 := Z.up HB.out hx179_0
   have HR179_0 := Aside0.mk hi179_0
   have HC179_0 := Aside0.mk hl179_0
   clear hi179_0 hl179_0
   replace p179 := eq_true p179
   replace q179 := eq_true q179
   have p180 : 0 ≤ (a2 : Int) := Z.od
   have q180 : a2 < (l1.length : Int) := Z.od
   obtain ⟨ad180, rfl, hx180_0⟩ := Kd.at_int HR1.out a2 p180 q180
   have hw180_0 := hx180_0
   replace hx180_0 := Z.up HB.out hx180_0
   replace p180 := eq_true p180
   replace q180 := eq_true q180
   have p181 : 0 ≤ ((rd l1 a2) : Int) := Z.od
   have q181 : (rd l1 a2) < ((rd_L9 l0_2 a2).length : Int) := Z.od
   obtain ⟨ad181, A181_0, c181_0, rfl, hx181_0, hx181_1, hx181_2, hl181_0, hi181_0⟩ := at_T86 HR179_0.out (rd l1 a2) p181 q181
   have hw181_2 := hx181_2
   have hw181_1 := hx181_1
   have hw181_0 := hx181_0
   replace hx181_0 := Z.up HB.out hx181_0
   replace hx181_1 := Z.up HB.out hx181_1
   replace hx181_2 := Z.up HB.out hx181_2
   have HR181_0 := Aside0.mk hi181_0
   have HC181_0 := Aside0.mk hl181_0
   clear hi181_0 hl181_0
   replace p181 := eq_true p181
   replace q181 := eq_true q181
   refine start_ (n := 13) (S := fun w' => w'.cell? ⟨gb178, 0, none⟩ = some (.int .i64 a0_0) ∧ w'.cell? ⟨gb178, 1, none⟩ = some (.slice A0_1 l0_1.length c0_1) ∧ w'.cell? ⟨gb178, 2, none⟩ = some (.slice (some ad179) l0_2.length c0_2) ∧ w'.cell? (ad179.add (a2).toNat) = some (.slice (some ad181) (rd_L9 l0_2 a2).length c179_0) ∧ w'.cell? (ad180.add (a2).toNat) = some (.int .i64 (rd l1 a2)) ∧ w'.cell? (ad181.add (((rd l1 a2)).toNat * 3)) = some (.slice A181_0 ((rd_T86 (rd_L9 l0_2 a2) (rd l1 a2)).f0).length c181_0) ∧ w'.cell? ⟨(ad181.add (((rd l1 a2)).toNat * 3)).block, (ad181.add (((rd l1 a2)).toNat * 3)).off + 1, none⟩ = some (.int .i64 ((rd_T86 (rd_L9 l0_2 a2) (rd l1 a2)).f1)) ∧ w'.cell? ⟨(ad181.add (((rd l1 a2)).toNat * 3)).block, (ad181.add (((rd l1 a2)).toNat * 3)).off + 2, none⟩ = some (.int .i64 ((rd_T86 (rd_L9 l0_2 a2) (rd l1 a2)).f2))) (ds := []) #[false, false, false, false, false, false, false, false, false, false, false, false, false] (by kernel_rfl) rfl rfl ⟨(blk_cell BK178.out 0).trans rfl, (blk_cell BK178.out 1).trans rfl, (blk_cell BK178.out 2).trans rfl, (Z.up HB.out hw179_0 :), (Z.up HB.out hw180_0 :), (Z.up HB.out hw181_0 :), (Z.up HB.out hw181_1 :), (Z.up HB.out hw181_2 :)⟩ (fun hHeld => ?_); refine with_tabW spec_l8May.tab1 spec_l8May.bits1 (fun HT_ HW_ => ?_)
   generalize w43.drew = w44 at BK178 HB HR179_0 HR181_0 hx179_0 hx180_0 hx181_0 hx181_1 hx181_2 hHeld ⊢
   refine Z.pv 0 12 13 1 HT_.out ?_
   refine Z.pv 2 14 13 5 HT_.out ?_
   refine Z.pv 5 17 13 37 HT_.out ?_
   refine Z.pv 6 18 13 101 HT_.out ?_
   refine Z.pv 7 19 13 229 HT_.out ?_
   refine Z.t8 1 13 13 231 HT_.out HW_.out hHeld ?_
   refine Z.pv 3 15 13 239 HT_.out ?_
   refine Z.t8 4 16 13 255 HT_.out HW_.out hHeld ?_
   refine Z.t8 8 20 13 511 HT_.out HW_.out hHeld ?_
   refine Z.pv 9 21 13 1023 HT_.out ?_
   refine Z.t8 10 22 13 2047 HT_.out HW_.out hHeld ?_
   refine one_ (i := 11) (N := some 11) (Z.mb 13 4095) rfl rfl (one_of HT_.out (by kernel_rfl)) (by decide) (fun K hK => ?_)
   refine box_step ?hg (N := 11) ?hd (cs := #[.slice none 0 0, .int .i64 0, .int .i64 0]) (t := 86) ?hr ?_; (case hd | hg => rfl); (case hr => (go_simp; done))
   intro gb182 hg w45 hbox hb
   have BK182 := Aside0.mk (hbox)
   have GW182 := Z.gh hg (Z.bs HB.out GE178.out)
   have GE182 := Z.gh hg (Z.bs HB.out GE178.out)
   replace HB := Z.st (Z.bs HB.out GE178.out) hb
   have NB178_182 := Z.nl hg BK178
   have NB182_178 := Z.ng hg BK178
   replace BK178 := Z.bb BK178 hb
   clear hb hbox hg
   refine hK.out _ _ ⟨(blk_cell BK178.out 0).trans rfl, (blk_cell BK178.out 1).trans rfl, (blk_cell BK178.out 2).trans rfl, (Z.up HB.out hw179_0 :), (Z.up HB.out hw180_0 :), (Z.up HB.out hw181_0 :), (Z.up HB.out hw181_1 :), (Z.up HB.out hw181_2 :)⟩ (fun hHeld => ?_)
   clear hK K
   refine Z.nm ?_
   refine one_ (i := 12) (N := none) #[true, true, true, true, true, true, true, true, true, true, true, true, true] rfl rfl (one_of HT_.out (by kernel_rfl)) (by decide) (fun K hK => ?_)
   have hs46 : w45.cell? ⟨gb182, 0, none⟩ = some (.slice none 0 0) := (blk_cell BK182.out 0).trans rfl
   have hfs46 := blk_frozen BK182.out 0
   have hns46_0 := NB178_182.out
   have hms46_0 := NB182_178.out
   have hs47 : w45.cell? ⟨gb182, 1, none⟩ = some (.int .i64 0) := (blk_cell BK182.out 1).trans rfl
   have hfs47 := blk_frozen BK182.out 1
   have hns47_0 := NB178_182.out
   have hms47_0 := NB182_178.out
   have hs48 : w45.cell? ⟨gb182, 2, none⟩ = some (.int .i64 0) := (blk_cell BK182.out 2).trans rfl
   have hfs48 := blk_frozen BK182.out 2
   have hns48_0 := NB178_182.out
   have hms48_0 := NB182_178.out
   refine skip_ (w1 := ?_) (by rfl) rfl ?_ ?_
   rotate_left
   ·go_simp
    rfl
   refine hK.out _ _ ⟨(Z.f3 NB178_182.out (hHeld.1)), (Z.f3 NB178_182.out (hHeld.2.1)), (Z.f3 NB178_182.out (hHeld.2.2.1)), (Z.f3 (Z.fn hw179_0 GW182.out) (hHeld.2.2.2.1)), (Z.f3 (Z.fn hw180_0 GW182.out) (hHeld.2.2.2.2.1)), (Z.f3 (Z.fn hw181_0 GW182.out) (hHeld.2.2.2.2.2.1)), (Z.f3 (Z.fn hw181_1 GW182.out) (hHeld.2.2.2.2.2.2.1)), (Z.f3 (Z.fn hw181_2 GW182.out) (hHeld.2.2.2.2.2.2.2))⟩ (fun hHeld => ?_)
   clear hK K
   refine done_ (done_of HT_.out (by kernel_rfl)) ?_
   try go_wp2
   have n0_ : Aside0 ((((w45.setCell ⟨gb182, 0, none⟩ (.slice A181_0 ((rd_T86 (rd_L9 l0_2 a2) (rd l1 a2)).f0).length c181_0)).setCell ⟨gb182, 1, none⟩ (.int .i64 ((rd_T86 (rd_L9 l0_2 a2) (rd l1 a2)).f1))).setCell ⟨gb182, 2, none⟩ (.int .i64 ((rd_T86 (rd_L9 l0_2 a2) (rd l1 a2)).f2))).heap[gb178]? = some (.cells #[.int .i64 a0_0, .slice A0_1 l0_1.length c0_1, .slice (some ad179) l0_2.length c0_2] 35 (0, 0))) := ⟨by (with_reducible skip); refine blk_far ?_ NB178_182.out _; (with_reducible skip); refine blk_far ?_ NB178_182.out _; (with_reducible skip); refine blk_far ?_ NB178_182.out _; (with_reducible skip); exact BK178.out⟩
   have n1_ : Aside0 ((((w45.setCell ⟨gb182, 0, none⟩ (.slice A181_0 ((rd_T86 (rd_L9 l0_2 a2) (rd l1 a2)).f0).length c181_0)).setCell ⟨gb182, 1, none⟩ (.int .i64 ((rd_T86 (rd_L9 l0_2 a2) (rd l1 a2)).f1))).setCell ⟨gb182, 2, none⟩ (.int .i64 ((rd_T86 (rd_L9 l0_2 a2) (rd l1 a2)).f2))).heap[gb182]? = some (.cells #[.slice A181_0 ((rd_T86 (rd_L9 l0_2 a2) (rd l1 a2)).f0).length c181_0, .int .i64 ((rd_T86 (rd_L9 l0_2 a2) (rd l1 a2)).f1), .int .i64 ((rd_T86 (rd_L9 l0_2 a2) (rd l1 a2)).f2)] 86 (0, 0))) := ⟨by (with_reducible skip); refine blk_put (cs := #[.slice A181_0 ((rd_T86 (rd_L9 l0_2 a2) (rd l1 a2)).f0).length c181_0, .int .i64 ((rd_T86 (rd_L9 l0_2 a2) (rd l1 a2)).f1), .int .i64 0]) ?_ 2 _ rfl; (with_reducible skip); refine blk_put (cs := #[.slice A181_0 ((rd_T86 (rd_L9 l0_2 a2) (rd l1 a2)).f0).length c181_0, .int .i64 0, .int .i64 0]) ?_ 1 _ rfl; (with_reducible skip); refine blk_put (cs := #[.slice none 0 0, .int .i64 0, .int .i64 0]) ?_ 0 _ rfl; (with_reducible skip); exact BK182.out⟩
   have n2_ : Aside0 (Below w.heap.size w (((w45.setCell ⟨gb182, 0, none⟩ (.slice A181_0 ((rd_T86 (rd_L9 l0_2 a2) (rd l1 a2)).f0).length c181_0)).setCell ⟨gb182, 1, none⟩ (.int .i64 ((rd_T86 (rd_L9 l0_2 a2) (rd l1 a2)).f1))).setCell ⟨gb182, 2, none⟩ (.int .i64 ((rd_T86 (rd_L9 l0_2 a2) (rd l1 a2)).f2)))) := ⟨by repeat ((with_reducible first | exact HB.out | refine below_set ?_ GE182.out))⟩
   (try clear BK178)
   (try clear BK182)
   (try clear HB)
   generalize (((w45.setCell ⟨gb182, 0, none⟩ (.slice A181_0 ((rd_T86 (rd_L9 l0_2 a2) (rd l1 a2)).f0).length c181_0)).setCell ⟨gb182, 1, none⟩ (.int .i64 ((rd_T86 (rd_L9 l0_2 a2) (rd l1 a2)).f1))).setCell ⟨gb182, 2, none⟩ (.int .i64 ((rd_T86 (rd_L9 l0_2 a2) (rd l1 a2)).f2))) = w49 at n0_ n1_ n2_ ⊢
   have BK178 := n0_
   have BK182 := n1_
   have HB := n2_
   clear n0_ n1_ n2_
   replace BK178 := Aside0.mk (blk_drew BK178.out)
   replace BK182 := Aside0.mk (blk_drew BK182.out)
   replace HB := Aside0.mk (below_drew1 HB.out)
   have p183 : 0 ≤ (a2 : Int) := Z.od
   have q183 : a2 < (l1.length : Int) := Z.od
   obtain ⟨ad183, e183, hx183_0⟩ := Kd.at_int HR1.out a2 p183 q183
   have hw183_0 := hx183_0
   obtain rfl : ad180 = ad183 := (by injection e183)
   replace hx183_0 := Z.up HB.out hx183_0
   replace p183 := eq_true p183
   replace q183 := eq_true q183
   refine start_ (n := 30) (S := fun w' => w'.cell? ⟨gb178, 0, none⟩ = some (.int .i64 a0_0) ∧ w'.cell? ⟨gb178, 1, none⟩ = some (.slice A0_1 l0_1.length c0_1) ∧ w'.cell? ⟨gb178, 2, none⟩ = some (.slice (some ad179) l0_2.length c0_2) ∧ w'.cell? ⟨gb182, 0, none⟩ = some (.slice A181_0 ((rd_T86 (rd_L9 l0_2 a2) (rd l1 a2)).f0).length c181_0) ∧ w'.cell? ⟨gb182, 1, none⟩ = some (.int .i64 ((rd_T86 (rd_L9 l0_2 a2) (rd l1 a2)).f1)) ∧ w'.cell? ⟨gb182, 2, none⟩ = some (.int .i64 ((rd_T86 (rd_L9 l0_2 a2) (rd l1 a2)).f2)) ∧ w'.cell? (ad180.add (a2).toNat) = some (.int .i64 (rd l1 a2))) (ds := []) #[false, false, false, false, false, false, false, false, false, false, false, false, false, false, false, false, false, false, false, false, false, false, false, false, false, false, false, false, false, false] (by kernel_rfl) rfl rfl ⟨(blk_cell BK178.out 0).trans rfl, (blk_cell BK178.out 1).trans rfl, (blk_cell BK178.out 2).trans rfl, (blk_cell BK182.out 0).trans rfl, (blk_cell BK182.out 1).trans rfl, (blk_cell BK182.out 2).trans rfl, (Z.up HB.out hw183_0 :)⟩ (fun hHeld => ?_); refine with_tabW spec_l8May.tab2 spec_l8May.bits2 (fun HT_ HW_ => ?_)
   generalize w49.drew = w50 at BK178 BK182 HB hx183_0 hHeld ⊢
   refine Z.pv 0 23 30 1 HT_.out ?_
   refine Z.pv 1 24 30 3 HT_.out ?_
   refine Z.pv 2 25 30 7 HT_.out ?_
   refine Z.pv 3 26 30 15 HT_.out ?_
   refine Z.t7 4 27 30 31 HT_.out HW_.out hHeld ?_
   refine Z.pv 5 28 30 63 HT_.out ?_
   refine Z.pv 6 29 30 127 HT_.out ?_
   refine Z.pv 7 30 30 255 HT_.out ?_
   refine Z.pv 9 32 30 767 HT_.out ?_
   refine Z.pv 11 34 30 2815 HT_.out ?_
   refine Z.t7 8 31 30 3071 HT_.out HW_.out hHeld ?_
   refine Z.t7 10 33 30 4095 HT_.out HW_.out hHeld ?_
   refine one_ (i := 12) (N := some 35) (Z.mb 30 8191) rfl rfl (one_of HT_.out (by kernel_rfl)) (by decide) (fun K hK => ?_)
   refine goes_ Try.func125 (by kernel_rfl) rfl #[.agg #[.int .i64 a0_0, .slice A0_1 l0_1.length c0_1], .slice A181_0 ((rd_T86 (rd_L9 l0_2 a2) (rd l1 a2)).f0).length c181_0, .int .i64 a4] (by rfl) rfl rfl Z.ar ?_
   with_reducible refine (spec_l4Says.calls k a0_0 _ _ l0_1 _ _ ((rd_T86 (rd_L9 l0_2 a2) (rd l1 a2)).f0) a4 false _ ?q1 ?q2 ?q3 ?q4 A20.out).mono ?_
   (case q1 => exact Z.cc HR0_1 HB)
   (case q2 => exact HC0_1.out)
   (case q3 => exact Z.cc HR181_0 HB)
   (case q4 => exact HC181_0.out)
   rintro e w51 ⟨rfl, hb⟩
   refine ⟨_, rfl, ?_⟩
   replace BK178 := Z.bb BK178 hb
   replace BK182 := Z.bb BK182 hb
   replace HB := Aside0.mk (below_step (by repeat ((with_reducible exact HB.out))) hb)
   (try clear hb)
   refine hK.out _ _ ⟨(blk_cell BK178.out 0).trans rfl, (blk_cell BK178.out 1).trans rfl, (blk_cell BK178.out 2).trans rfl, (blk_cell BK182.out 0).trans rfl, (blk_cell BK182.out 1).trans rfl, (blk_cell BK182.out 2).trans rfl, (Z.up HB.out hw183_0 :)⟩ (fun hHeld => ?_)
   clear hK K
   refine Z.nm ?_
   refine Z.pv 13 36 30 16383 HT_.out ?_
   refine Z.pv 14 37 30 32767 HT_.out ?_
   refine Z.pu 15 38 30 65535 HT_.out ?_
   refine Z.pu 16 39 30 131071 HT_.out ?_
   refine Z.pu 17 40 30 262143 HT_.out ?_
   refine Z.pu 18 41 30 524287 HT_.out ?_
   refine Z.pu 19 42 30 1048575 HT_.out ?_
   refine Z.pu 20 43 30 2097151 HT_.out ?_
   refine Z.pu 21 44 30 4194303 HT_.out ?_
   refine Z.pu 22 45 30 8388607 HT_.out ?_
   refine Z.pu 23 46 30 16777215 HT_.out ?_
   refine Z.pu 24 47 30 33554431 HT_.out ?_
   refine Z.pu 25 48 30 67108863 HT_.out ?_
   refine Z.pu 26 49 30 134217727 HT_.out ?_
   refine Z.pu 27 50 30 268435455 HT_.out ?_
   refine Z.pv 28 51 30 536870911 HT_.out ?_
   refine Z.pv 29 10 30 1073741823 HT_.out ?_
   refine done_ (done_of HT_.out (by kernel_rfl)) ?_
   try go_wp2
   go_ret
   exact ⟨by rfl, by repeat ((with_reducible exact HB.out))⟩
end Go.Proofs.Ytcafckapdgaogaa.PAll

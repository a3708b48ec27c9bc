/- Walks of functions that All reaches, in the form of the print. -/
-- PRINTED
import Derived.Test.YtcafckapdgaogaaCAll11
namespace Go.Proofs.Ytcafckapdgaogaa.PAll
open Go.RowKit Go.Proofs.YtcafckapdgaogaaW.PrintWords Go.Proofs.YtcafckapdgaogaaW.PrintLast Go.Proofs.YtcafckapdgaogaaW.PrintMore
attribute [local go_sem] max2_int min2_int max_two min_two max_three min_three max_four min_four
set_option linter.unusedVariables false
set_option linter.unusedSimpArgs false

/-! ### impl_consents: function 127 -/
def impl_consents.l0 : Nat → Int → List Bool → List (S134) → Int → Int → Int → List Int → Option (Bool)
 | 0, _, _, _, _, _, _, _ => none
 | k + 1, x2, x7, x14, x15, x16, x300000, x300001 => if x16 < x15 then (if 0 ≤ x16 then (if x16 < (x14.length : Int) then (if ((rd_T134 x14 x16).f0) = 0 then (if 0 ≤ ((rd_T134 x14 x16).f1) then (if ((rd_T134 x14 x16).f1) < (x300001.length : Int) then ((impl_headsOf.f (Go.bits .and .i64 (rd x300001 ((rd_T134 x14 x16).f1)) x2)).bind fun t307 => (if x7.length < 140737488355328 then (impl_consents.l0 k x2 (x7 ++ [decide (t307 ≥ ((rd_T134 x14 x16).f2))]) x14 x15 (wrap64 (x16 + 1)) x300000 x300001) else (none))) else (none)) else (none)) else (if 0 ≤ (wrap64 ((x7.length : Int) - 2)) then (if (wrap64 ((x7.length : Int) - 2)) < (x7.length : Int) then (if 0 ≤ (wrap64 ((x7.length : Int) - 1)) then (if (wrap64 ((x7.length : Int) - 1)) < (x7.length : Int) then (if rdOf false x7 (wrap64 ((x7.length : Int) - 2)) = true then (if ((rd_T134 x14 x16).f0) = 2 then (if (wrap64 ((x7.length : Int) - 2)) ≤ (x7.length : Int) then ((some (x7.take ((wrap64 ((x7.length : Int) - 2)) : Int).toNat : List Bool)).bind fun y313 => (if y313.length < 140737488355328 then (impl_consents.l0 k x2 (y313 ++ [true]) x14 x15 (wrap64 (x16 + 1)) x300000 x300001) else (none))) else (none)) else (if (wrap64 ((x7.length : Int) - 2)) ≤ (x7.length : Int) then ((some (x7.take ((wrap64 ((x7.length : Int) - 2)) : Int).toNat : List Bool)).bind fun y319 => (if y319.length < 140737488355328 then (impl_consents.l0 k x2 (y319 ++ [rdOf false x7 (wrap64 ((x7.length : Int) - 1))]) x14 x15 (wrap64 (x16 + 1)) x300000 x300001) else (none))) else (none))) else (if ((rd_T134 x14 x16).f0) = 2 then (if (wrap64 ((x7.length : Int) - 2)) ≤ (x7.length : Int) then ((some (x7.take ((wrap64 ((x7.length : Int) - 2)) : Int).toNat : List Bool)).bind fun y325 => (if y325.length < 140737488355328 then (impl_consents.l0 k x2 (y325 ++ [rdOf false x7 (wrap64 ((x7.length : Int) - 1))]) x14 x15 (wrap64 (x16 + 1)) x300000 x300001) else (none))) else (none)) else (if (wrap64 ((x7.length : Int) - 2)) ≤ (x7.length : Int) then ((some (x7.take ((wrap64 ((x7.length : Int) - 2)) : Int).toNat : List Bool)).bind fun y331 => (if y331.length < 140737488355328 then (impl_consents.l0 k x2 (y331 ++ [false]) x14 x15 (wrap64 (x16 + 1)) x300000 x300001) else (none))) else (none)))) else (none)) else (none)) else (none)) else (none))) else (none)) else (none)) else (if 0 < (x7.length : Int) then (some (rdOf false x7 0)) else (none))
def impl_consents.f (k : Nat) (a0_0 : Int) (l0_1 : List Int) (l1 : List (S134)) (a2 : Int) : Option (Bool) := impl_consents.l0 k a2 (([] : List Bool)) l1 (l1.length : Int) 0 a0_0 l0_1
theorem impl_consents.mono_l : ∀ k, (∀ y0 y1 y2 y3 y4 y5 y6, LeO (impl_consents.l0 k y0 y1 y2 y3 y4 y5 y6) (impl_consents.l0 (k + 1) y0 y1 y2 y3 y4 y5 y6))
 | 0 => fun _ _ _ _ _ _ _ r h => by simp [impl_consents.l0] at h
 | k + 1 => by
  have ih0 := impl_consents.mono_l k
  ·intro y0 y1 y2 y3 y4 y5 y6
   unfold impl_consents.l0
   repeat' first
   | (with_reducible exact LeO.refl _)
   | exact ih0 _ _ _ _ _ _ _
   | exact LeO.none _
   | refine LeO.ite ?_ ?_
   | refine LeO.bind ?_ (fun _ => ?_)
theorem impl_consents.mono : ∀ a0 a1 a2 a3 k, LeO (impl_consents.f k a0 a1 a2 a3) (impl_consents.f (k + 1) a0 a1 a2 a3) := by
 intro a0 a1 a2 a3 k
 have ih0 := impl_consents.mono_l k
 unfold impl_consents.f
 repeat' first
   | (with_reducible exact LeO.refl _)
   | exact ih0 _ _ _ _ _ _ _
   | exact LeO.none _
   | refine LeO.ite ?_ ?_
   | refine LeO.bind ?_ (fun _ => ?_)
def impl_consents.T6 : Bool × List (List Nat × List Nat) := (true, [([], []), ([], []), ([1], [1]), ([], []), ([3], [3]), ([2, 4], [2, 4]), ([5], [5]), ([], []), ([6, 7], [6, 7]), ([8], [8]), ([], []), ([10], [10]), ([9, 11], [9, 11]), ([12], [12]), ([0, 13, 9], [0, 13]), ([14, 14, 0, 1, 2, 3, 4, 5, 6, 7, 8, 9, 10, 11, 12, 13, 14], [0, 14])])
def impl_consents.B6 : List Nat := [0, 0, 2, 0, 8, 30, 62, 0, 254, 510, 0, 1024, 4094, 8190, 16383, 32767]
theorem impl_consents.tab6 : rtab .any (opsOf Try.f127 6) = impl_consents.T6 := by kernel_rfl
theorem impl_consents.bits6 : waitsOk impl_consents.T6.2 impl_consents.B6 = true := by kernel_rfl
def impl_consents.T7 : Bool × List (List Nat × List Nat) := (true, [([], []), ([], []), ([1], [1]), ([2], [2]), ([0, 3], [0, 3]), ([4], [4]), ([], []), ([], []), ([7], [7]), ([8], [8]), ([6, 9], [6, 9]), ([10], [10]), ([5, 0, 1, 2, 3, 4, 5], [5]), ([11, 12, 0, 1, 2, 3, 4, 5, 6, 7, 8, 9, 10, 11, 12], [11])])
def impl_consents.B7 : List Nat := [0, 0, 2, 6, 15, 31, 0, 0, 128, 384, 960, 1984, 63, 8191]
theorem impl_consents.tab7 : rtab .any (opsOf Try.f127 7) = impl_consents.T7 := by kernel_rfl
theorem impl_consents.bits7 : waitsOk impl_consents.T7.2 impl_consents.B7 = true := by kernel_rfl
set_option maxHeartbeats 8000000 in
set_option maxRecDepth 100000 in
theorem impl_consents.calls (k : Nat) (a0_0 : Int) (A0_1 : Option Addr) (c0_1 : Nat) (l0_1 : List Int) (A1 : Option Addr) (c1 : Nat) (l1 : List (S134)) (a2 : Int) (r : Bool) (w : World) (hr0_1 : Kd.C (Kd.int .i64) w A0_1 l0_1.length l0_1) (hc0_1 : l0_1.length ≤ c0_1) (hr1 : Kd.C k134 w A1 l1.length l1) (hc1 : l1.length ≤ c1) (h : impl_consents.f k a0_0 l0_1 l1 a2 = some r) :
  Calls Try.prog 127 #[.agg #[.int .i64 a0_0, .slice A0_1 l0_1.length c0_1], .slice A1 l1.length c1, .int .i64 a2] w fun e w' => e = .returned (.bool r) ∧ Below w.heap.size w w' := by
 have hu32 := Try.underlying32
 have hu134 := Try.underlying134
 have HR0_1 := Aside0.mk hr0_1
 have HC0_1 := Aside0.mk hc0_1
 clear hr0_1 hc0_1
 have HR1 := Aside0.mk hr1
 have HC1 := Aside0.mk hc1
 clear hr1 hc1
 have HB := Aside0.mk (Below.refl w.heap.size w)
 have H := h
 clear h
 unfold impl_consents.f at H
 obtain ⟨y300, hy300⟩ : ∃ y_ : List Bool, y_ = (([] : List Bool)) := ⟨_, rfl⟩
 replace H : (impl_consents.l0 k a2 y300 l1 (l1.length : Int) 0 a0_0 l0_1) = some r := by (rw [hy300]; with_reducible exact H)
 have Ny300 := Aside0.mk hy300
 clear hy300
 have H' := Aside0.mk H
 clear H
 go_enter Try.func127, Try.ntmps127
 go_wp2_with (first | ((with_reducible refine gate_dst (N := 3) rfl ?_); refine Z.bx #[.int .i64 a0_0, .slice A0_1 l0_1.length c0_1] 32 HB ?_; clear HB; intro gb299 w4 BK299 GE299 HB hg hb; have GW299 := GE299; clear hb hg) | ((with_reducible refine gate_dst (N := 13) rfl ?_); refine Kd.R_lit Kd.bool _ 4 ?hg (N := 13) ?hd (xs := ([] : List Bool)) (inner := []) (ok := fun _ => True) (okp := fun _ => True) ?hr ?hp (fun _ hk => hk) trivial (Below.refl _ _) (Nat.le_refl _) (by simp) ?_; (case hd | hg => rfl); (case hr => (go_simp; done)); (case hp => exact (Reps.none _ _)); intro v301 w5 ho6 hb hg_ hnew_; clear hg_ hnew_; (rw [← Ny300.out] at ho6); have HO302 := Aside0.mk (Kd.R_lower ho6 (below_size (Z.bs HB.out GE299.out))); replace BK299 := Z.bb BK299 hb; replace HB := Z.st (Z.bs HB.out GE299.out) hb; clear hb ho6))
 go_loopg [7, 16] k (fun kq v7 v16 w' => ∃ (x7_1 : List Bool) (x16_1 : Int), v16 = .int .i64 x16_1 ∧ Aside0 (impl_consents.l0 kq a2 x7_1 l1 (l1.length : Int) x16_1 a0_0 l0_1 = some r) ∧ Aside0 (kq ≤ k) ∧ Aside0 (Kd.R Kd.bool 4 w' w.heap.size (fun _ => True) v7 x7_1) ∧ Aside0 (w'.heap[gb299]? = some (.cells #[.int .i64 a0_0, (.slice A0_1 l0_1.length c0_1)] 32 (0, 0))) ∧ Aside0 (Below w.heap.size w w'))
 case atStart => exact ⟨(y300), (0), (by rfl), H', ⟨Nat.le_refl _⟩, ⟨by (with_reducible skip); exact HO302.out⟩, ⟨by (with_reducible skip); exact BK299.out⟩, ⟨Z.bs HB.out GE299.out⟩⟩
 case round =>
  clear H'
  obtain ⟨x7_1, x16_1, rfl, HA, HK1, HO_7, BK299, HB⟩ := hrel
  cases gk with
  | zero => exact absurd HA.out (by simp [impl_consents.l0])
  | succ k1 =>
   have H := HA.out
   clear HA
   simp only [impl_consents.l0] at H
   by_cases c7 : x16_1 < (l1.length : Int)
   ·rw [if_pos c7] at H
    have c7b0 := decide_eq_true c7
    clear c7
    obtain ⟨c8, H⟩ := Z.ifp H
    have c8b0 : decide (0 ≤ x16_1) = true := decide_eq_true c8
    clear c8
    obtain ⟨c9, H⟩ := Z.ifp H
    have c9b0 : decide (x16_1 < (l1.length : Int)) = true := decide_eq_true c9
    clear c9
    by_cases c10 : ((rd_T134 l1 x16_1).f0) = 0
    ·rw [if_pos c10] at H
     have c10b0 : (((rd_T134 l1 x16_1).f0) == 0) = true := beq_iff_eq.mpr c10
     have c10b1 : (((rd_T134 l1 x16_1).f0) != 0) = false := bne_eq_false_iff_eq.mpr c10
     clear c10
     obtain ⟨c11, H⟩ := Z.ifp H
     have c11b0 : decide (0 ≤ ((rd_T134 l1 x16_1).f1)) = true := decide_eq_true c11
     clear c11
     obtain ⟨c12, H⟩ := Z.ifp H
     have c12b0 : decide (((rd_T134 l1 x16_1).f1) < (l0_1.length : Int)) = true := decide_eq_true c12
     clear c12
     replace H := Option.bind_eq_some_iff.mp H
     obtain ⟨t307, A130, H⟩ := H
     have A13 := Aside0.mk A130
     clear A130
     obtain ⟨c14, H⟩ := Z.ifp H
     have LMc14 := Aside0.mk c14
     clear c14
     obtain ⟨y308, hy308⟩ : ∃ y_ : List Bool, y_ = (x7_1 ++ [decide (t307 ≥ ((rd_T134 l1 x16_1).f2))]) := ⟨_, rfl⟩
     replace H : (impl_consents.l0 k1 a2 y308 l1 (l1.length : Int) (wrap64 (x16_1 + 1)) a0_0 l0_1) = some r := by (rw [hy308]; with_reducible exact H)
     have Ny308 := Aside0.mk hy308
     clear hy308
     have H' := Aside0.mk H
     clear H
     have p304 : 0 ≤ (x16_1 : Int) := Z.od
     have q304 : x16_1 < (l1.length : Int) := Z.od
     obtain ⟨ad304, rfl, hx304_0, hx304_1, hx304_2⟩ := at_T134 HR1.out x16_1 p304 q304
     replace hx304_0 := Z.up HB.out hx304_0
     replace hx304_1 := Z.up HB.out hx304_1
     replace hx304_2 := Z.up HB.out hx304_2
     replace p304 := eq_true p304
     replace q304 := eq_true q304
     try go_wp2_with (((with_reducible refine gate_dst (N := 9) rfl ?_); refine Z.bz #[.int .i64 0, .int .i64 0, .int .i64 0] 134 HB GE299 ?_; clear HB; intro gb305 w15 BK305 GE305 HB hg hb; have GW305 := GE305; replace HO_7 := Aside0.mk (Kd.R_below (by (with_reducible skip); exact HO_7.out) hb); have NB299_305 := Z.nl hg BK299; have NB305_299 := Z.ng hg BK299; replace BK299 := Z.bb BK299 hb; clear hb hg; have hnb16 := NB305_299.out; have hnc16 := NB299_305.out; have hcz17 := Z.c3 BK305.out))
     have n0_ : Aside0 (Kd.R Kd.bool 4 (((w15.setCell ⟨gb305, 0, none⟩ (.int .i64 ((rd_T134 l1 x16_1).f0))).setCell ⟨gb305, 1, none⟩ (.int .i64 ((rd_T134 l1 x16_1).f1))).setCell ⟨gb305, 2, none⟩ (.int .i64 ((rd_T134 l1 x16_1).f2))) w.heap.size (fun _ => True) u7 x7_1) := ⟨by (with_reducible skip); exact Kd.R_mono (Kd.R_far (p := ⟨gb305, 2, none⟩) (Kd.R_far (p := ⟨gb305, 1, none⟩) (Kd.R_far (p := ⟨gb305, 0, none⟩) (Kd.R_types HO_7.out BK305.out (by decide)) (fun _ hk => hk.2) (.int .i64 ((rd_T134 l1 x16_1).f0))) (fun _ hk => hk.2) (.int .i64 ((rd_T134 l1 x16_1).f1))) (fun _ hk => hk.2) (.int .i64 ((rd_T134 l1 x16_1).f2))) (fun _ hk => trivial)⟩
     have n1_ : Aside0 ((((w15.setCell ⟨gb305, 0, none⟩ (.int .i64 ((rd_T134 l1 x16_1).f0))).setCell ⟨gb305, 1, none⟩ (.int .i64 ((rd_T134 l1 x16_1).f1))).setCell ⟨gb305, 2, none⟩ (.int .i64 ((rd_T134 l1 x16_1).f2))).heap[gb299]? = some (.cells #[.int .i64 a0_0, .slice A0_1 l0_1.length c0_1] 32 (0, 0))) := ⟨by (with_reducible skip); refine blk_far ?_ NB299_305.out _; (with_reducible skip); refine blk_far ?_ NB299_305.out _; (with_reducible skip); refine blk_far ?_ NB299_305.out _; (with_reducible skip); exact BK299.out⟩
     have n2_ : Aside0 ((((w15.setCell ⟨gb305, 0, none⟩ (.int .i64 ((rd_T134 l1 x16_1).f0))).setCell ⟨gb305, 1, none⟩ (.int .i64 ((rd_T134 l1 x16_1).f1))).setCell ⟨gb305, 2, none⟩ (.int .i64 ((rd_T134 l1 x16_1).f2))).heap[gb305]? = some (.cells #[.int .i64 ((rd_T134 l1 x16_1).f0), .int .i64 ((rd_T134 l1 x16_1).f1), .int .i64 ((rd_T134 l1 x16_1).f2)] 134 (0, 0))) := ⟨by (with_reducible skip); refine blk_put (cs := #[.int .i64 ((rd_T134 l1 x16_1).f0), .int .i64 ((rd_T134 l1 x16_1).f1), .int .i64 0]) ?_ 2 _ rfl; (with_reducible skip); refine blk_put (cs := #[.int .i64 ((rd_T134 l1 x16_1).f0), .int .i64 0, .int .i64 0]) ?_ 1 _ rfl; (with_reducible skip); refine blk_put (cs := #[.int .i64 0, .int .i64 0, .int .i64 0]) ?_ 0 _ rfl; (with_reducible skip); exact BK305.out⟩
     have n3_ : Aside0 (Below w.heap.size w (((w15.setCell ⟨gb305, 0, none⟩ (.int .i64 ((rd_T134 l1 x16_1).f0))).setCell ⟨gb305, 1, none⟩ (.int .i64 ((rd_T134 l1 x16_1).f1))).setCell ⟨gb305, 2, none⟩ (.int .i64 ((rd_T134 l1 x16_1).f2)))) := ⟨by repeat ((with_reducible first | exact HB.out | refine below_set ?_ GE305.out))⟩
     (try clear HO_7)
     (try clear BK299)
     (try clear BK305)
     (try clear HB)
     generalize (((w15.setCell ⟨gb305, 0, none⟩ (.int .i64 ((rd_T134 l1 x16_1).f0))).setCell ⟨gb305, 1, none⟩ (.int .i64 ((rd_T134 l1 x16_1).f1))).setCell ⟨gb305, 2, none⟩ (.int .i64 ((rd_T134 l1 x16_1).f2))) = w18 at n0_ n1_ n2_ n3_ ⊢
     have HO_7 := n0_
     have BK299 := n1_
     have BK305 := n2_
     have HB := n3_
     clear n0_ n1_ n2_ n3_
     replace HO_7 := Aside0.mk (Kd.R_drew HO_7.out)
     replace BK299 := Aside0.mk (blk_drew BK299.out)
     replace BK305 := Aside0.mk (blk_drew BK305.out)
     replace HB := Aside0.mk (below_drew1 HB.out)
     have p306 : 0 ≤ (((rd_T134 l1 x16_1).f1) : Int) := Z.od
     have q306 : ((rd_T134 l1 x16_1).f1) < (l0_1.length : Int) := Z.od
     obtain ⟨ad306, rfl, hx306_0⟩ := Kd.at_int HR0_1.out ((rd_T134 l1 x16_1).f1) p306 q306
     have hw306_0 := hx306_0
     replace hx306_0 := Z.up HB.out hx306_0
     replace p306 := eq_true p306
     replace q306 := eq_true q306
     refine start_ (n := 16) (S := fun w' => w'.cell? ⟨gb299, 0, none⟩ = some (.int .i64 a0_0) ∧ w'.cell? ⟨gb299, 1, none⟩ = some (.slice (some ad306) l0_1.length c0_1) ∧ w'.cell? ⟨gb305, 0, none⟩ = some (.int .i64 ((rd_T134 l1 x16_1).f0)) ∧ w'.cell? ⟨gb305, 1, none⟩ = some (.int .i64 ((rd_T134 l1 x16_1).f1)) ∧ w'.cell? ⟨gb305, 2, none⟩ = some (.int .i64 ((rd_T134 l1 x16_1).f2)) ∧ w'.cell? (ad306.add (((rd_T134 l1 x16_1).f1)).toNat) = some (.int .i64 (rd l0_1 ((rd_T134 l1 x16_1).f1)))) (ds := []) #[false, false, false, false, false, false, false, false, false, false, false, false, false, false, false, false] (by kernel_rfl) rfl rfl ⟨(blk_cell BK299.out 0).trans rfl, (blk_cell BK299.out 1).trans rfl, (blk_cell BK305.out 0).trans rfl, (blk_cell BK305.out 1).trans rfl, (blk_cell BK305.out 2).trans rfl, (Z.up HB.out hw306_0 :)⟩ (fun hHeld => ?_); refine with_tabW impl_consents.tab6 impl_consents.bits6 (fun HT_ HW_ => ?_)
     generalize w18.drew = w19 at HO_7 BK299 BK305 HB hx306_0 hHeld ⊢
     refine Z.pv 0 23 16 1 HT_.out ?_
     refine Z.pv 1 24 16 3 HT_.out ?_
     refine Z.pv 3 26 16 11 HT_.out ?_
     refine Z.pv 7 30 16 139 HT_.out ?_
     refine Z.pv 10 33 16 1163 HT_.out ?_
     refine Z.t6 2 25 16 1167 HT_.out HW_.out hHeld ?_
     refine Z.t6 4 27 16 1183 HT_.out HW_.out hHeld ?_
     refine Z.pv 5 28 16 1215 HT_.out ?_
     refine Z.t6 6 29 16 1279 HT_.out HW_.out hHeld ?_
     refine Z.pv 8 31 16 1535 HT_.out ?_
     refine Z.t6 11 34 16 3583 HT_.out HW_.out hHeld ?_
     refine one_ (i := 9) (N := some 32) (Z.mb 16 4095) rfl rfl (one_of HT_.out (by kernel_rfl)) (by decide) (fun K hK => ?_)
     refine goes_ Try.func131 (by kernel_rfl) rfl #[.int .i64 (Go.bits .and .i64 (rd l0_1 ((rd_T134 l1 x16_1).f1)) a2)] (by rfl) rfl rfl Z.ar ?_
     with_reducible refine (impl_headsOf.calls (Go.bits .and .i64 (rd l0_1 ((rd_T134 l1 x16_1).f1)) a2) t307 _ A13.out).mono ?_
     rintro e w' ⟨rfl, ⟨nd, rfl⟩⟩
     refine ⟨_, rfl, ?_⟩
     refine hK.out _ _ ⟨(blk_cell BK299.out 0).trans rfl, (blk_cell BK299.out 1).trans rfl, (blk_cell BK305.out 0).trans rfl, (blk_cell BK305.out 1).trans rfl, (blk_cell BK305.out 2).trans rfl, (Z.up HB.out hw306_0 :)⟩ (fun hHeld => ?_)
     clear hK K
     refine Z.nm ?_
     refine Z.pv 12 35 16 8191 HT_.out ?_
     refine one_ (i := 13) (N := some 36) (Z.mb 16 16383) rfl rfl (one_of HT_.out (by kernel_rfl)) (by decide) (fun K hK => ?_)
     refine value_ (w1 := ?_) (v := ?_) (by rfl) rfl ?_ ?_
     rotate_left 2
     ·go_simp
      constructor
      ·rfl
      ·rfl
     refine hK.out _ _ ⟨(blk_cell (blk_alloc BK299.out _) 0).trans rfl, (blk_cell (blk_alloc BK299.out _) 1).trans rfl, (blk_cell (blk_alloc BK305.out _) 0).trans rfl, (blk_cell (blk_alloc BK305.out _) 1).trans rfl, (blk_cell (blk_alloc BK305.out _) 2).trans rfl, (World.cell?_alloc_lt _ _ _ (World.block_lt_of_cell? _ _ ((Z.up HB.out hw306_0 :)))).trans ((Z.up HB.out hw306_0 :))⟩ (fun hHeld => ?_)
     clear hK K
     refine Z.nm ?_
     refine one_ (i := 14) (N := some 37) (Z.mb 16 32767) rfl rfl (one_of HT_.out (by kernel_rfl)) (by decide) (fun K hK => ?_)
     refine Kd.R_append_step Kd.bool (w0 := w) w.heap.size (by rfl) (.tmp 23) (.tmp 36) 150 4 (.bool false) 1 rfl Try.underlying150 info4 rfl (by decide) (by omega) u7 x7_1 (decide (t307 ≥ ((rd_T134 l1 x16_1).f2))) [.bool (decide (t307 ≥ ((rd_T134 l1 x16_1).f2)))] (fun _ => True) (fun _ => False) rfl rfl ?aP (fun _ hk => hk.elim) ?aF ?aO ?aB ?aS ?aL ?_
     (case aP => exact rfl)
     (case aB => exact (by repeat ((with_reducible first | exact HB.out | apply pw_below_drewN))))
     (case aF => exact (fun _ _ => trivial))
     (case aO => exact (by (with_reducible repeat (apply Kd.R_drewN)); exact HO_7.out))
     (case aS => exact (below_size (by repeat ((with_reducible first | exact HB.out | apply pw_below_drewN)))))
     (case aL => have := LMc14.out; omega)
     intro v309 w20 ho hb hg hat
     rw [← Ny308.out] at ho
     replace BK299 := Aside0.mk (blk_grown (g := gb299) (o := .cells #[.int .i64 a0_0, .slice (some ad306) l0_1.length c0_1] 32 (0, 0)) (Z.bk BK299.out) hg (Kd.R_ne HO_7.out BK299.out (by decide)))
     replace BK305 := Aside0.mk (blk_grown (g := gb305) (o := .cells #[.int .i64 ((rd_T134 l1 x16_1).f0), .int .i64 ((rd_T134 l1 x16_1).f1), .int .i64 ((rd_T134 l1 x16_1).f2)] 134 (0, 0)) (Z.bk BK305.out) hg (Kd.R_ne HO_7.out BK305.out (by decide)))
     replace HB := Aside0.mk (hb)
     have HO310 := Aside0.mk (ho)
     clear HO_7
     clear ho hb hg hat
     refine hK.out _ _ ⟨(blk_cell BK299.out 0).trans rfl, (blk_cell BK299.out 1).trans rfl, (blk_cell BK305.out 0).trans rfl, (blk_cell BK305.out 1).trans rfl, (blk_cell BK305.out 2).trans rfl, (Z.up HB.out hw306_0 :)⟩ (fun hHeld => ?_)
     clear hK K
     refine Z.nm ?_
     refine Z.pv 15 7 16 65535 HT_.out ?_
     refine done_ (done_of HT_.out (by kernel_rfl)) ?_
     try go_wp2
     go_roundg k1
     case measure => have := HK1.out; omega
     case rel => exact ⟨(y308), (wrap64 (x16_1 + 1)), (by rfl), H', ⟨by have := HK1.out; omega⟩, ⟨by (with_reducible skip); exact HO310.out⟩, ⟨by (with_reducible skip); exact BK299.out⟩, ⟨by repeat ((with_reducible exact HB.out))⟩⟩
    ·rw [if_neg c10] at H
     have c10b0 : (((rd_T134 l1 x16_1).f0) == 0) = false := beq_eq_false_iff_ne.mpr c10
     have c10b1 : (((rd_T134 l1 x16_1).f0) != 0) = true := bne_iff_ne.mpr c10
     obtain ⟨ji21, hji21⟩ : ∃ j_ : Int, (wrap64 ((x7_1.length : Int) - 2)) = j_ := ⟨_, rfl⟩
     replace H : (if 0 ≤ (ji21) then (if (ji21) < (x7_1.length : Int) then (if 0 ≤ (wrap64 ((x7_1.length : Int) - 1)) then (if (wrap64 ((x7_1.length : Int) - 1)) < (x7_1.length : Int) then (if rdOf false x7_1 (ji21) = true then (if ((rd_T134 l1 x16_1).f0) = 2 then (if (ji21) ≤ (x7_1.length : Int) then ((some (x7_1.take ((ji21) : Int).toNat : List Bool)).bind fun y313 => (if y313.length < 140737488355328 then (impl_consents.l0 k1 a2 (y313 ++ [true]) l1 (l1.length : Int) (wrap64 (x16_1 + 1)) a0_0 l0_1) else (none))) else (none)) else (if (ji21) ≤ (x7_1.length : Int) then ((some (x7_1.take ((ji21) : Int).toNat : List Bool)).bind fun y319 => (if y319.length < 140737488355328 then (impl_consents.l0 k1 a2 (y319 ++ [rdOf false x7_1 (wrap64 ((x7_1.length : Int) - 1))]) l1 (l1.length : Int) (wrap64 (x16_1 + 1)) a0_0 l0_1) else (none))) else (none))) else (if ((rd_T134 l1 x16_1).f0) = 2 then (if (ji21) ≤ (x7_1.length : Int) then ((some (x7_1.take ((ji21) : Int).toNat : List Bool)).bind fun y325 => (if y325.length < 140737488355328 then (impl_consents.l0 k1 a2 (y325 ++ [rdOf false x7_1 (wrap64 ((x7_1.length : Int) - 1))]) l1 (l1.length : Int) (wrap64 (x16_1 + 1)) a0_0 l0_1) else (none))) else (none)) else (if (ji21) ≤ (x7_1.length : Int) then ((some (x7_1.take ((ji21) : Int).toNat : List Bool)).bind fun y331 => (if y331.length < 140737488355328 then (impl_consents.l0 k1 a2 (y331 ++ [false]) l1 (l1.length : Int) (wrap64 (x16_1 + 1)) a0_0 l0_1) else (none))) else (none)))) else (none)) else (none)) else (none)) else (none)) = some r := by (rw [hji21] at H; exact H)
     have hji21w : (IntKind.i64.wrap ((x7_1.length : Int) - 2)) = ji21 := (i64_w _).trans hji21
     obtain ⟨c22, H⟩ := Z.ifp H
     have c22b0 : decide (0 ≤ (ji21)) = true := decide_eq_true c22
     clear c22
     obtain ⟨c23, H⟩ := Z.ifp H
     have c23b0 : decide ((ji21) < (x7_1.length : Int)) = true := decide_eq_true c23
     clear c23
     obtain ⟨ji24, hji24⟩ : ∃ j_ : Int, (wrap64 ((x7_1.length : Int) - 1)) = j_ := ⟨_, rfl⟩
     replace H : (if 0 ≤ (ji24) then (if (ji24) < (x7_1.length : Int) then (if rdOf false x7_1 (ji21) = true then (if ((rd_T134 l1 x16_1).f0) = 2 then (if (ji21) ≤ (x7_1.length : Int) then ((some (x7_1.take ((ji21) : Int).toNat : List Bool)).bind fun y313 => (if y313.length < 140737488355328 then (impl_consents.l0 k1 a2 (y313 ++ [true]) l1 (l1.length : Int) (wrap64 (x16_1 + 1)) a0_0 l0_1) else (none))) else (none)) else (if (ji21) ≤ (x7_1.length : Int) then ((some (x7_1.take ((ji21) : Int).toNat : List Bool)).bind fun y319 => (if y319.length < 140737488355328 then (impl_consents.l0 k1 a2 (y319 ++ [rdOf false x7_1 (ji24)]) l1 (l1.length : Int) (wrap64 (x16_1 + 1)) a0_0 l0_1) else (none))) else (none))) else (if ((rd_T134 l1 x16_1).f0) = 2 then (if (ji21) ≤ (x7_1.length : Int) then ((some (x7_1.take ((ji21) : Int).toNat : List Bool)).bind fun y325 => (if y325.length < 140737488355328 then (impl_consents.l0 k1 a2 (y325 ++ [rdOf false x7_1 (ji24)]) l1 (l1.length : Int) (wrap64 (x16_1 + 1)) a0_0 l0_1) else (none))) else (none)) else (if (ji21) ≤ (x7_1.length : Int) then ((some (x7_1.take ((ji21) : Int).toNat : List Bool)).bind fun y331 => (if y331.length < 140737488355328 then (impl_consents.l0 k1 a2 (y331 ++ [false]) l1 (l1.length : Int) (wrap64 (x16_1 + 1)) a0_0 l0_1) else (none))) else (none)))) else (none)) else (none)) = some r := by (rw [hji24] at H; exact H)
     have hji24w : (IntKind.i64.wrap ((x7_1.length : Int) - 1)) = ji24 := (i64_w _).trans hji24
     obtain ⟨c25, H⟩ := Z.ifp H
     have c25b0 : decide (0 ≤ (ji24)) = true := decide_eq_true c25
     clear c25
     obtain ⟨c26, H⟩ := Z.ifp H
     have c26b0 : decide ((ji24) < (x7_1.length : Int)) = true := decide_eq_true c26
     clear c26
     obtain ⟨bq27, hbq27⟩ : ∃ b_ : Bool, b_ = (rdOf false x7_1 (ji21)) := ⟨_, rfl⟩
     replace H : (if bq27 = true then (if ((rd_T134 l1 x16_1).f0) = 2 then (if (ji21) ≤ (x7_1.length : Int) then ((some (x7_1.take ((ji21) : Int).toNat : List Bool)).bind fun y313 => (if y313.length < 140737488355328 then (impl_consents.l0 k1 a2 (y313 ++ [true]) l1 (l1.length : Int) (wrap64 (x16_1 + 1)) a0_0 l0_1) else (none))) else (none)) else (if (ji21) ≤ (x7_1.length : Int) then ((some (x7_1.take ((ji21) : Int).toNat : List Bool)).bind fun y319 => (if y319.length < 140737488355328 then (impl_consents.l0 k1 a2 (y319 ++ [rdOf false x7_1 (ji24)]) l1 (l1.length : Int) (wrap64 (x16_1 + 1)) a0_0 l0_1) else (none))) else (none))) else (if ((rd_T134 l1 x16_1).f0) = 2 then (if (ji21) ≤ (x7_1.length : Int) then ((some (x7_1.take ((ji21) : Int).toNat : List Bool)).bind fun y325 => (if y325.length < 140737488355328 then (impl_consents.l0 k1 a2 (y325 ++ [rdOf false x7_1 (ji24)]) l1 (l1.length : Int) (wrap64 (x16_1 + 1)) a0_0 l0_1) else (none))) else (none)) else (if (ji21) ≤ (x7_1.length : Int) then ((some (x7_1.take ((ji21) : Int).toNat : List Bool)).bind fun y331 => (if y331.length < 140737488355328 then (impl_consents.l0 k1 a2 (y331 ++ [false]) l1 (l1.length : Int) (wrap64 (x16_1 + 1)) a0_0 l0_1) else (none))) else (none)))) = some r := by rw [← hbq27] at H; exact H
     have Nbq27 := Aside0.mk hbq27
     clear hbq27
     by_cases c28 : bq27 = true
     ·subst c28
      rw [if_pos rfl] at H
      by_cases c29 : ((rd_T134 l1 x16_1).f0) = 2
      ·rw [if_pos c29] at H
       have c29b0 : (((rd_T134 l1 x16_1).f0) == 2) = true := beq_iff_eq.mpr c29
       have c29b1 : (((rd_T134 l1 x16_1).f0) != 2) = false := bne_eq_false_iff_eq.mpr c29
       clear c29
       obtain ⟨c30, H⟩ := Z.ifp H
       have c30b0 := eq_true c30
       have c30b1 : decide ((ji21) ≤ (x7_1.length : Int)) = true := decide_eq_true c30
       clear c30
       obtain ⟨y313, hy313⟩ : ∃ y_ : List Bool, y_ = (x7_1.take ((ji21) : Int).toNat) := ⟨_, rfl⟩
       replace H : (if y313.length < 140737488355328 then (impl_consents.l0 k1 a2 (y313 ++ [true]) l1 (l1.length : Int) (wrap64 (x16_1 + 1)) a0_0 l0_1) else (none)) = some r := by (have H2_ := (Option.bind_some _ _).symm.trans H; rw [hy313]; with_reducible exact H2_)
       have Ny313 := Aside0.mk hy313
       clear hy313
       obtain ⟨c31, H⟩ := Z.ifp H
       have LMc31 := Aside0.mk c31
       clear c31
       obtain ⟨y316, hy316⟩ : ∃ y_ : List Bool, y_ = (y313 ++ [true]) := ⟨_, rfl⟩
       replace H : (impl_consents.l0 k1 a2 y316 l1 (l1.length : Int) (wrap64 (x16_1 + 1)) a0_0 l0_1) = some r := by (rw [hy316]; with_reducible exact H)
       have Ny316 := Aside0.mk hy316
       clear hy316
       have H' := Aside0.mk H
       clear H
       have p304 : 0 ≤ (x16_1 : Int) := Z.od
       have q304 : x16_1 < (l1.length : Int) := Z.od
       obtain ⟨ad304, rfl, hx304_0, hx304_1, hx304_2⟩ := at_T134 HR1.out x16_1 p304 q304
       replace hx304_0 := Z.up HB.out hx304_0
       replace hx304_1 := Z.up HB.out hx304_1
       replace hx304_2 := Z.up HB.out hx304_2
       replace p304 := eq_true p304
       replace q304 := eq_true q304
       try go_wp2_with (((with_reducible refine gate_dst (N := 9) rfl ?_); refine Z.bz #[.int .i64 0, .int .i64 0, .int .i64 0] 134 HB GE299 ?_; clear HB; intro gb305 w32 BK305 GE305 HB hg hb; have GW305 := GE305; replace HO_7 := Aside0.mk (Kd.R_below (by (with_reducible skip); exact HO_7.out) hb); have NB299_305 := Z.nl hg BK299; have NB305_299 := Z.ng hg BK299; replace BK299 := Z.bb BK299 hb; clear hb hg; have hnb33 := NB305_299.out; have hnc33 := NB299_305.out; have hcz34 := Z.c3 BK305.out))
       have n0_ : Aside0 (Kd.R Kd.bool 4 (((w32.setCell ⟨gb305, 0, none⟩ (.int .i64 ((rd_T134 l1 x16_1).f0))).setCell ⟨gb305, 1, none⟩ (.int .i64 ((rd_T134 l1 x16_1).f1))).setCell ⟨gb305, 2, none⟩ (.int .i64 ((rd_T134 l1 x16_1).f2))) w.heap.size (fun _ => True) u7 x7_1) := ⟨by (with_reducible skip); exact Kd.R_mono (Kd.R_far (p := ⟨gb305, 2, none⟩) (Kd.R_far (p := ⟨gb305, 1, none⟩) (Kd.R_far (p := ⟨gb305, 0, none⟩) (Kd.R_types HO_7.out BK305.out (by decide)) (fun _ hk => hk.2) (.int .i64 ((rd_T134 l1 x16_1).f0))) (fun _ hk => hk.2) (.int .i64 ((rd_T134 l1 x16_1).f1))) (fun _ hk => hk.2) (.int .i64 ((rd_T134 l1 x16_1).f2))) (fun _ hk => trivial)⟩
       have n1_ : Aside0 ((((w32.setCell ⟨gb305, 0, none⟩ (.int .i64 ((rd_T134 l1 x16_1).f0))).setCell ⟨gb305, 1, none⟩ (.int .i64 ((rd_T134 l1 x16_1).f1))).setCell ⟨gb305, 2, none⟩ (.int .i64 ((rd_T134 l1 x16_1).f2))).heap[gb299]? = some (.cells #[.int .i64 a0_0, .slice A0_1 l0_1.length c0_1] 32 (0, 0))) := ⟨by (with_reducible skip); refine blk_far ?_ NB299_305.out _; (with_reducible skip); refine blk_far ?_ NB299_305.out _; (with_reducible skip); refine blk_far ?_ NB299_305.out _; (with_reducible skip); exact BK299.out⟩
       have n2_ : Aside0 ((((w32.setCell ⟨gb305, 0, none⟩ (.int .i64 ((rd_T134 l1 x16_1).f0))).setCell ⟨gb305, 1, none⟩ (.int .i64 ((rd_T134 l1 x16_1).f1))).setCell ⟨gb305, 2, none⟩ (.int .i64 ((rd_T134 l1 x16_1).f2))).heap[gb305]? = some (.cells #[.int .i64 ((rd_T134 l1 x16_1).f0), .int .i64 ((rd_T134 l1 x16_1).f1), .int .i64 ((rd_T134 l1 x16_1).f2)] 134 (0, 0))) := ⟨by (with_reducible skip); refine blk_put (cs := #[.int .i64 ((rd_T134 l1 x16_1).f0), .int .i64 ((rd_T134 l1 x16_1).f1), .int .i64 0]) ?_ 2 _ rfl; (with_reducible skip); refine blk_put (cs := #[.int .i64 ((rd_T134 l1 x16_1).f0), .int .i64 0, .int .i64 0]) ?_ 1 _ rfl; (with_reducible skip); refine blk_put (cs := #[.int .i64 0, .int .i64 0, .int .i64 0]) ?_ 0 _ rfl; (with_reducible skip); exact BK305.out⟩
       have n3_ : Aside0 (Below w.heap.size w (((w32.setCell ⟨gb305, 0, none⟩ (.int .i64 ((rd_T134 l1 x16_1).f0))).setCell ⟨gb305, 1, none⟩ (.int .i64 ((rd_T134 l1 x16_1).f1))).setCell ⟨gb305, 2, none⟩ (.int .i64 ((rd_T134 l1 x16_1).f2)))) := ⟨by repeat ((with_reducible first | exact HB.out | refine below_set ?_ GE305.out))⟩
       (try clear HO_7)
       (try clear BK299)
       (try clear BK305)
       (try clear HB)
       generalize (((w32.setCell ⟨gb305, 0, none⟩ (.int .i64 ((rd_T134 l1 x16_1).f0))).setCell ⟨gb305, 1, none⟩ (.int .i64 ((rd_T134 l1 x16_1).f1))).setCell ⟨gb305, 2, none⟩ (.int .i64 ((rd_T134 l1 x16_1).f2))) = w35 at n0_ n1_ n2_ n3_ ⊢
       have HO_7 := n0_
       have BK299 := n1_
       have BK305 := n2_
       have HB := n3_
       clear n0_ n1_ n2_ n3_
       replace HO_7 := Aside0.mk (Kd.R_drew HO_7.out)
       replace BK299 := Aside0.mk (blk_drew BK299.out)
       replace BK305 := Aside0.mk (blk_drew BK305.out)
       replace HB := Aside0.mk (below_drew1 HB.out)
       obtain ⟨Ao37, co37, eo37⟩ := Kd.R_slice HO_7.out
       (subst eo37)
       have p311 : 0 ≤ ((ji21) : Int) := Z.od
       have q311 : (ji21) < (x7_1.length : Int) := Z.od
       obtain ⟨ad311, e311, hx311_0⟩ := Kd.at_bool (Kd.R_reads' HO_7.out).2.2 (ji21) p311 q311
       (try rw [← Nbq27.out] at hx311_0)
       cases e311
       replace p311 := eq_true p311
       replace q311 := eq_true q311
       have p312 : 0 ≤ ((ji24) : Int) := Z.od
       have q312 : (ji24) < (x7_1.length : Int) := Z.od
       obtain ⟨ad312, e312, hx312_0⟩ := Kd.at_bool (Kd.R_reads' HO_7.out).2.2 (ji24) p312 q312
       obtain rfl : ad311 = ad312 := (by injection e312)
       replace p312 := eq_true p312
       replace q312 := eq_true q312
       refine start_ (n := 14) (S := fun w' => w'.cell? (ad311.add ((ji21)).toNat) = some (.bool true) ∧ w'.cell? (ad311.add ((ji24)).toNat) = some (.bool (rdOf false x7_1 (ji24)))) (ds := []) #[false, false, false, false, false, false, false, false, false, false, false, false, false, false] (by kernel_rfl) rfl rfl ⟨hx311_0, hx312_0⟩ (fun hHeld => ?_); refine with_tabW impl_consents.tab7 impl_consents.bits7 (fun HT_ HW_ => ?_)
       generalize w35.drew = w36 at HO_7 BK299 BK305 HB hx311_0 hx312_0 hHeld ⊢
       refine Z.pv 0 38 14 1 HT_.out ?_
       refine Z.pv 1 39 14 3 HT_.out ?_
       refine Z.pv 2 40 14 7 HT_.out ?_
       refine Z.pv 3 41 14 15 HT_.out ?_
       refine Z.pv 4 42 14 31 HT_.out ?_
       refine Z.pv 6 44 14 95 HT_.out ?_
       refine Z.pv 7 45 14 223 HT_.out ?_
       refine Z.pv 8 46 14 479 HT_.out ?_
       refine Z.pv 9 47 14 991 HT_.out ?_
       refine Z.pv 10 48 14 2015 HT_.out ?_
       refine Z.t2 5 43 14 2047 HT_.out HW_.out hHeld ?_
       refine Z.pv 12 10 14 6143 HT_.out ?_
       refine Z.t2 11 49 14 8191 HT_.out HW_.out hHeld ?_
       refine Z.pv 13 11 14 16383 HT_.out ?_
       refine done_ (done_of HT_.out (by kernel_rfl)) ?_
       have hcz38 := Z.c3 BK305.out
       have q39 : ((ji21) : Int) ≤ ((x7_1.length : Int) : Int) := Z.od
       obtain ⟨i039, hi039, _, hsz39, _⟩ := info_parts info4
       have hcut39 := cut_to (P := Try.prog) 150 4 .i64 Try.underlying150 hi039 (some ad311) x7_1.length co37 (ji21) (Z.od) q39 (Kd.R_reads' HO_7.out).2.1
       have hr39 := Kd.R_take (m := ((ji21) : Int).toNat) HO_7.out (by omega)
       have hy39 : y313.length = ((ji21) : Int).toNat := (by rw [Ny313.out, List.length_take]; omega)
       rw [← Ny313.out] at hr39
       rw [← hy39] at hr39 hcut39
       clear hy39 hi039 hsz39 HO_7
       have HO315 := Aside0.mk hr39
       clear hr39
       replace q39 := eq_true q39
       try go_wp2_with (((with_reducible refine gate_builtin (b := .append) (xs := #[.tmp 65, .tmp 67]) rfl ?_); at_builtin; refine Kd.R_append Kd.bool (w0 := w) w.heap.size rfl (.tmp 65) (.tmp 67) 150 4 (.bool false) 1 rfl Try.underlying150 info4 rfl (by decide) (by omega) (.slice (some ad311) y313.length co37) y313 true [.bool true] (fun _ => True) (fun _ => False) rfl rfl ?aP (fun _ hk => hk.elim) ?aF ?aO ?aB ?aS ?aL ?_; (case aP => exact rfl); (case aB => exact (by repeat ((with_reducible exact HB.out)))); (case aF => exact (fun _ _ => trivial)); (case aO => exact (by (with_reducible skip); exact HO315.out)); (case aS => exact (below_size (by repeat ((with_reducible exact HB.out))))); (case aL => have := LMc31.out; omega); intro v317 w40 ho hb hg hat; rw [← Ny316.out] at ho; replace BK299 := Aside0.mk (blk_grown (g := gb299) (o := .cells #[.int .i64 a0_0, .slice A0_1 l0_1.length c0_1] 32 (0, 0)) (Z.bk BK299.out) hg (Kd.R_ne HO315.out BK299.out (by decide))); replace BK305 := Aside0.mk (blk_grown (g := gb305) (o := .cells #[.int .i64 ((rd_T134 l1 x16_1).f0), .int .i64 ((rd_T134 l1 x16_1).f1), .int .i64 ((rd_T134 l1 x16_1).f2)] 134 (0, 0)) (Z.bk BK305.out) hg (Kd.R_ne HO315.out BK305.out (by decide))); replace HB := Aside0.mk (hb); have HO318 := Aside0.mk (ho); clear HO315; clear ho hb hg hat))
       go_roundg k1
       case measure => have := HK1.out; omega
       case rel => exact ⟨(y316), (wrap64 (x16_1 + 1)), (by rfl), H', ⟨by have := HK1.out; omega⟩, ⟨by (with_reducible skip); exact HO318.out⟩, ⟨by (with_reducible skip); exact BK299.out⟩, ⟨by repeat ((with_reducible exact HB.out))⟩⟩
      ·rw [if_neg c29] at H
       have c29b0 : (((rd_T134 l1 x16_1).f0) == 2) = false := beq_eq_false_iff_ne.mpr c29
       have c29b1 : (((rd_T134 l1 x16_1).f0) != 2) = true := bne_iff_ne.mpr c29
       obtain ⟨c41, H⟩ := Z.ifp H
       have c41b0 := eq_true c41
       have c41b1 : decide ((ji21) ≤ (x7_1.length : Int)) = true := decide_eq_true c41
       clear c41
       obtain ⟨y319, hy319⟩ : ∃ y_ : List Bool, y_ = (x7_1.take ((ji21) : Int).toNat) := ⟨_, rfl⟩
       replace H : (if y319.length < 140737488355328 then (impl_consents.l0 k1 a2 (y319 ++ [rdOf false x7_1 (ji24)]) l1 (l1.length : Int) (wrap64 (x16_1 + 1)) a0_0 l0_1) else (none)) = some r := by (have H2_ := (Option.bind_some _ _).symm.trans H; rw [hy319]; with_reducible exact H2_)
       have Ny319 := Aside0.mk hy319
       clear hy319
       obtain ⟨c42, H⟩ := Z.ifp H
       have LMc42 := Aside0.mk c42
       clear c42
       obtain ⟨y322, hy322⟩ : ∃ y_ : List Bool, y_ = (y319 ++ [rdOf false x7_1 (ji24)]) := ⟨_, rfl⟩
       replace H : (impl_consents.l0 k1 a2 y322 l1 (l1.length : Int) (wrap64 (x16_1 + 1)) a0_0 l0_1) = some r := by (rw [hy322]; with_reducible exact H)
       have Ny322 := Aside0.mk hy322
       clear hy322
       have H' := Aside0.mk H
       clear H
       have p304 : 0 ≤ (x16_1 : Int) := Z.od
       have q304 : x16_1 < (l1.length : Int) := Z.od
       obtain ⟨ad304, rfl, hx304_0, hx304_1, hx304_2⟩ := at_T134 HR1.out x16_1 p304 q304
       replace hx304_0 := Z.up HB.out hx304_0
       replace hx304_1 := Z.up HB.out hx304_1
       replace hx304_2 := Z.up HB.out hx304_2
       replace p304 := eq_true p304
       replace q304 := eq_true q304
       try go_wp2_with (((with_reducible refine gate_dst (N := 9) rfl ?_); refine Z.bz #[.int .i64 0, .int .i64 0, .int .i64 0] 134 HB GE299 ?_; clear HB; intro gb305 w43 BK305 GE305 HB hg hb; have GW305 := GE305; replace HO_7 := Aside0.mk (Kd.R_below (by (with_reducible skip); exact HO_7.out) hb); have NB299_305 := Z.nl hg BK299; have NB305_299 := Z.ng hg BK299; replace BK299 := Z.bb BK299 hb; clear hb hg; have hnb44 := NB305_299.out; have hnc44 := NB299_305.out; have hcz45 := Z.c3 BK305.out))
       have n0_ : Aside0 (Kd.R Kd.bool 4 (((w43.setCell ⟨gb305, 0, none⟩ (.int .i64 ((rd_T134 l1 x16_1).f0))).setCell ⟨gb305, 1, none⟩ (.int .i64 ((rd_T134 l1 x16_1).f1))).setCell ⟨gb305, 2, none⟩ (.int .i64 ((rd_T134 l1 x16_1).f2))) w.heap.size (fun _ => True) u7 x7_1) := ⟨by (with_reducible skip); exact Kd.R_mono (Kd.R_far (p := ⟨gb305, 2, none⟩) (Kd.R_far (p := ⟨gb305, 1, none⟩) (Kd.R_far (p := ⟨gb305, 0, none⟩) (Kd.R_types HO_7.out BK305.out (by decide)) (fun _ hk => hk.2) (.int .i64 ((rd_T134 l1 x16_1).f0))) (fun _ hk => hk.2) (.int .i64 ((rd_T134 l1 x16_1).f1))) (fun _ hk => hk.2) (.int .i64 ((rd_T134 l1 x16_1).f2))) (fun _ hk => trivial)⟩
       have n1_ : Aside0 ((((w43.setCell ⟨gb305, 0, none⟩ (.int .i64 ((rd_T134 l1 x16_1).f0))).setCell ⟨gb305, 1, none⟩ (.int .i64 ((rd_T134 l1 x16_1).f1))).setCell ⟨gb305, 2, none⟩ (.int .i64 ((rd_T134 l1 x16_1).f2))).heap[gb299]? = some (.cells #[.int .i64 a0_0, .slice A0_1 l0_1.length c0_1] 32 (0, 0))) := ⟨by (with_reducible skip); refine blk_far ?_ NB299_305.out _; (with_reducible skip); refine blk_far ?_ NB299_305.out _; (with_reducible skip); refine blk_far ?_ NB299_305.out _; (with_reducible skip); exact BK299.out⟩
       have n2_ : Aside0 ((((w43.setCell ⟨gb305, 0, none⟩ (.int .i64 ((rd_T134 l1 x16_1).f0))).setCell ⟨gb305, 1, none⟩ (.int .i64 ((rd_T134 l1 x16_1).f1))).setCell ⟨gb305, 2, none⟩ (.int .i64 ((rd_T134 l1 x16_1).f2))).heap[gb305]? = some (.cells #[.int .i64 ((rd_T134 l1 x16_1).f0), .int .i64 ((rd_T134 l1 x16_1).f1), .int .i64 ((rd_T134 l1 x16_1).f2)] 134 (0, 0))) := ⟨by (with_reducible skip); refine blk_put (cs := #[.int .i64 ((rd_T134 l1 x16_1).f0), .int .i64 ((rd_T134 l1 x16_1).f1), .int .i64 0]) ?_ 2 _ rfl; (with_reducible skip); refine blk_put (cs := #[.int .i64 ((rd_T134 l1 x16_1).f0), .int .i64 0, .int .i64 0]) ?_ 1 _ rfl; (with_reducible skip); refine blk_put (cs := #[.int .i64 0, .int .i64 0, .int .i64 0]) ?_ 0 _ rfl; (with_reducible skip); exact BK305.out⟩
       have n3_ : Aside0 (Below w.heap.size w (((w43.setCell ⟨gb305, 0, none⟩ (.int .i64 ((rd_T134 l1 x16_1).f0))).setCell ⟨gb305, 1, none⟩ (.int .i64 ((rd_T134 l1 x16_1).f1))).setCell ⟨gb305, 2, none⟩ (.int .i64 ((rd_T134 l1 x16_1).f2)))) := ⟨by repeat ((with_reducible first | exact HB.out | refine below_set ?_ GE305.out))⟩
       (try clear HO_7)
       (try clear BK299)
       (try clear BK305)
       (try clear HB)
       generalize (((w43.setCell ⟨gb305, 0, none⟩ (.int .i64 ((rd_T134 l1 x16_1).f0))).setCell ⟨gb305, 1, none⟩ (.int .i64 ((rd_T134 l1 x16_1).f1))).setCell ⟨gb305, 2, none⟩ (.int .i64 ((rd_T134 l1 x16_1).f2))) = w46 at n0_ n1_ n2_ n3_ ⊢
       have HO_7 := n0_
       have BK299 := n1_
       have BK305 := n2_
       have HB := n3_
       clear n0_ n1_ n2_ n3_
       replace HO_7 := Aside0.mk (Kd.R_drew HO_7.out)
       replace BK299 := Aside0.mk (blk_drew BK299.out)
       replace BK305 := Aside0.mk (blk_drew BK305.out)
       replace HB := Aside0.mk (below_drew1 HB.out)
       obtain ⟨Ao48, co48, eo48⟩ := Kd.R_slice HO_7.out
       (subst eo48)
       have p311 : 0 ≤ ((ji21) : Int) := Z.od
       have q311 : (ji21) < (x7_1.length : Int) := Z.od
       obtain ⟨ad311, e311, hx311_0⟩ := Kd.at_bool (Kd.R_reads' HO_7.out).2.2 (ji21) p311 q311
       (try rw [← Nbq27.out] at hx311_0)
       cases e311
       replace p311 := eq_true p311
       replace q311 := eq_true q311
       have p312 : 0 ≤ ((ji24) : Int) := Z.od
       have q312 : (ji24) < (x7_1.length : Int) := Z.od
       obtain ⟨ad312, e312, hx312_0⟩ := Kd.at_bool (Kd.R_reads' HO_7.out).2.2 (ji24) p312 q312
       obtain rfl : ad311 = ad312 := (by injection e312)
       replace p312 := eq_true p312
       replace q312 := eq_true q312
       refine start_ (n := 14) (S := fun w' => w'.cell? (ad311.add ((ji21)).toNat) = some (.bool true) ∧ w'.cell? (ad311.add ((ji24)).toNat) = some (.bool (rdOf false x7_1 (ji24)))) (ds := []) #[false, false, false, false, false, false, false, false, false, false, false, false, false, false] (by kernel_rfl) rfl rfl ⟨hx311_0, hx312_0⟩ (fun hHeld => ?_); refine with_tabW impl_consents.tab7 impl_consents.bits7 (fun HT_ HW_ => ?_)
       generalize w46.drew = w47 at HO_7 BK299 BK305 HB hx311_0 hx312_0 hHeld ⊢
       refine Z.pv 0 38 14 1 HT_.out ?_
       refine Z.pv 1 39 14 3 HT_.out ?_
       refine Z.pv 2 40 14 7 HT_.out ?_
       refine Z.pv 3 41 14 15 HT_.out ?_
       refine Z.pv 4 42 14 31 HT_.out ?_
       refine Z.pv 6 44 14 95 HT_.out ?_
       refine Z.pv 7 45 14 223 HT_.out ?_
       refine Z.pv 8 46 14 479 HT_.out ?_
       refine Z.pv 9 47 14 991 HT_.out ?_
       refine Z.pv 10 48 14 2015 HT_.out ?_
       refine Z.t2 5 43 14 2047 HT_.out HW_.out hHeld ?_
       refine Z.pv 12 10 14 6143 HT_.out ?_
       refine Z.t2 11 49 14 8191 HT_.out HW_.out hHeld ?_
       refine Z.pv 13 11 14 16383 HT_.out ?_
       refine done_ (done_of HT_.out (by kernel_rfl)) ?_
       have hcz49 := Z.c3 BK305.out
       have q50 : ((ji21) : Int) ≤ ((x7_1.length : Int) : Int) := Z.od
       obtain ⟨i050, hi050, _, hsz50, _⟩ := info_parts info4
       have hcut50 := cut_to (P := Try.prog) 150 4 .i64 Try.underlying150 hi050 (some ad311) x7_1.length co48 (ji21) (Z.od) q50 (Kd.R_reads' HO_7.out).2.1
       have hr50 := Kd.R_take (m := ((ji21) : Int).toNat) HO_7.out (by omega)
       have hy50 : y319.length = ((ji21) : Int).toNat := (by rw [Ny319.out, List.length_take]; omega)
       rw [← Ny319.out] at hr50
       rw [← hy50] at hr50 hcut50
       clear hy50 hi050 hsz50 HO_7
       have HO321 := Aside0.mk hr50
       clear hr50
       replace q50 := eq_true q50
       try go_wp2_with (((with_reducible refine gate_builtin (b := .append) (xs := #[.tmp 65, .tmp 67]) rfl ?_); at_builtin; refine Kd.R_append Kd.bool (w0 := w) w.heap.size rfl (.tmp 65) (.tmp 67) 150 4 (.bool false) 1 rfl Try.underlying150 info4 rfl (by decide) (by omega) (.slice (some ad311) y319.length co48) y319 (rdOf false x7_1 (ji24)) [.bool (rdOf false x7_1 (ji24))] (fun _ => True) (fun _ => False) rfl rfl ?aP (fun _ hk => hk.elim) ?aF ?aO ?aB ?aS ?aL ?_; (case aP => exact rfl); (case aB => exact (by repeat ((with_reducible exact HB.out)))); (case aF => exact (fun _ _ => trivial)); (case aO => exact (by (with_reducible skip); exact HO321.out)); (case aS => exact (below_size (by repeat ((with_reducible exact HB.out))))); (case aL => have := LMc42.out; omega); intro v323 w51 ho hb hg hat; rw [← Ny322.out] at ho; replace BK299 := Aside0.mk (blk_grown (g := gb299) (o := .cells #[.int .i64 a0_0, .slice A0_1 l0_1.length c0_1] 32 (0, 0)) (Z.bk BK299.out) hg (Kd.R_ne HO321.out BK299.out (by decide))); replace BK305 := Aside0.mk (blk_grown (g := gb305) (o := .cells #[.int .i64 ((rd_T134 l1 x16_1).f0), .int .i64 ((rd_T134 l1 x16_1).f1), .int .i64 ((rd_T134 l1 x16_1).f2)] 134 (0, 0)) (Z.bk BK305.out) hg (Kd.R_ne HO321.out BK305.out (by decide))); replace HB := Aside0.mk (hb); have HO324 := Aside0.mk (ho); clear HO321; clear ho hb hg hat))
       go_roundg k1
       case measure => have := HK1.out; omega
       case rel => exact ⟨(y322), (wrap64 (x16_1 + 1)), (by rfl), H', ⟨by have := HK1.out; omega⟩, ⟨by (with_reducible skip); exact HO324.out⟩, ⟨by (with_reducible skip); exact BK299.out⟩, ⟨by repeat ((with_reducible exact HB.out))⟩⟩
     ·replace c28 := Bool.eq_false_iff.mpr c28
      subst c28
      rw [if_neg (show ¬ (false = true) by decide)] at H
      by_cases c52 : ((rd_T134 l1 x16_1).f0) = 2
      ·rw [if_pos c52] at H
       have c52b0 : (((rd_T134 l1 x16_1).f0) == 2) = true := beq_iff_eq.mpr c52
       have c52b1 : (((rd_T134 l1 x16_1).f0) != 2) = false := bne_eq_false_iff_eq.mpr c52
       clear c52
       obtain ⟨c53, H⟩ := Z.ifp H
       have c53b0 := eq_true c53
       have c53b1 : decide ((ji21) ≤ (x7_1.length : Int)) = true := decide_eq_true c53
       clear c53
       obtain ⟨y325, hy325⟩ : ∃ y_ : List Bool, y_ = (x7_1.take ((ji21) : Int).toNat) := ⟨_, rfl⟩
       replace H : (if y325.length < 140737488355328 then (impl_consents.l0 k1 a2 (y325 ++ [rdOf false x7_1 (ji24)]) l1 (l1.length : Int) (wrap64 (x16_1 + 1)) a0_0 l0_1) else (none)) = some r := by (have H2_ := (Option.bind_some _ _).symm.trans H; rw [hy325]; with_reducible exact H2_)
       have Ny325 := Aside0.mk hy325
       clear hy325
       obtain ⟨c54, H⟩ := Z.ifp H
       have LMc54 := Aside0.mk c54
       clear c54
       obtain ⟨y328, hy328⟩ : ∃ y_ : List Bool, y_ = (y325 ++ [rdOf false x7_1 (ji24)]) := ⟨_, rfl⟩
       replace H : (impl_consents.l0 k1 a2 y328 l1 (l1.length : Int) (wrap64 (x16_1 + 1)) a0_0 l0_1) = some r := by (rw [hy328]; with_reducible exact H)
       have Ny328 := Aside0.mk hy328
       clear hy328
       have H' := Aside0.mk H
       clear H
       have p304 : 0 ≤ (x16_1 : Int) := Z.od
       have q304 : x16_1 < (l1.length : Int) := Z.od
       obtain ⟨ad304, rfl, hx304_0, hx304_1, hx304_2⟩ := at_T134 HR1.out x16_1 p304 q304
       replace hx304_0 := Z.up HB.out hx304_0
       replace hx304_1 := Z.up HB.out hx304_1
       replace hx304_2 := Z.up HB.out hx304_2
       replace p304 := eq_true p304
       replace q304 := eq_true q304
       try go_wp2_with (((with_reducible refine gate_dst (N := 9) rfl ?_); refine Z.bz #[.int .i64 0, .int .i64 0, .int .i64 0] 134 HB GE299 ?_; clear HB; intro gb305 w55 BK305 GE305 HB hg hb; have GW305 := GE305; replace HO_7 := Aside0.mk (Kd.R_below (by (with_reducible skip); exact HO_7.out) hb); have NB299_305 := Z.nl hg BK299; have NB305_299 := Z.ng hg BK299; replace BK299 := Z.bb BK299 hb; clear hb hg; have hnb56 := NB305_299.out; have hnc56 := NB299_305.out; have hcz57 := Z.c3 BK305.out))
       have n0_ : Aside0 (Kd.R Kd.bool 4 (((w55.setCell ⟨gb305, 0, none⟩ (.int .i64 ((rd_T134 l1 x16_1).f0))).setCell ⟨gb305, 1, none⟩ (.int .i64 ((rd_T134 l1 x16_1).f1))).setCell ⟨gb305, 2, none⟩ (.int .i64 ((rd_T134 l1 x16_1).f2))) w.heap.size (fun _ => True) u7 x7_1) := ⟨by (with_reducible skip); exact Kd.R_mono (Kd.R_far (p := ⟨gb305, 2, none⟩) (Kd.R_far (p := ⟨gb305, 1, none⟩) (Kd.R_far (p := ⟨gb305, 0, none⟩) (Kd.R_types HO_7.out BK305.out (by decide)) (fun _ hk => hk.2) (.int .i64 ((rd_T134 l1 x16_1).f0))) (fun _ hk => hk.2) (.int .i64 ((rd_T134 l1 x16_1).f1))) (fun _ hk => hk.2) (.int .i64 ((rd_T134 l1 x16_1).f2))) (fun _ hk => trivial)⟩
       have n1_ : Aside0 ((((w55.setCell ⟨gb305, 0, none⟩ (.int .i64 ((rd_T134 l1 x16_1).f0))).setCell ⟨gb305, 1, none⟩ (.int .i64 ((rd_T134 l1 x16_1).f1))).setCell ⟨gb305, 2, none⟩ (.int .i64 ((rd_T134 l1 x16_1).f2))).heap[gb299]? = some (.cells #[.int .i64 a0_0, .slice A0_1 l0_1.length c0_1] 32 (0, 0))) := ⟨by (with_reducible skip); refine blk_far ?_ NB299_305.out _; (with_reducible skip); refine blk_far ?_ NB299_305.out _; (with_reducible skip); refine blk_far ?_ NB299_305.out _; (with_reducible skip); exact BK299.out⟩
       have n2_ : Aside0 ((((w55.setCell ⟨gb305, 0, none⟩ (.int .i64 ((rd_T134 l1 x16_1).f0))).setCell ⟨gb305, 1, none⟩ (.int .i64 ((rd_T134 l1 x16_1).f1))).setCell ⟨gb305, 2, none⟩ (.int .i64 ((rd_T134 l1 x16_1).f2))).heap[gb305]? = some (.cells #[.int .i64 ((rd_T134 l1 x16_1).f0), .int .i64 ((rd_T134 l1 x16_1).f1), .int .i64 ((rd_T134 l1 x16_1).f2)] 134 (0, 0))) := ⟨by (with_reducible skip); refine blk_put (cs := #[.int .i64 ((rd_T134 l1 x16_1).f0), .int .i64 ((rd_T134 l1 x16_1).f1), .int .i64 0]) ?_ 2 _ rfl; (with_reducible skip); refine blk_put (cs := #[.int .i64 ((rd_T134 l1 x16_1).f0), .int .i64 0, .int .i64 0]) ?_ 1 _ rfl; (with_reducible skip); refine blk_put (cs := #[.int .i64 0, .int .i64 0, .int .i64 0]) ?_ 0 _ rfl; (with_reducible skip); exact BK305.out⟩
       have n3_ : Aside0 (Below w.heap.size w (((w55.setCell ⟨gb305, 0, none⟩ (.int .i64 ((rd_T134 l1 x16_1).f0))).setCell ⟨gb305, 1, none⟩ (.int .i64 ((rd_T134 l1 x16_1).f1))).setCell ⟨gb305, 2, none⟩ (.int .i64 ((rd_T134 l1 x16_1).f2)))) := ⟨by repeat ((with_reducible first | exact HB.out | refine below_set ?_ GE305.out))⟩
       (try clear HO_7)
       (try clear BK299)
       (try clear BK305)
       (try clear HB)
       generalize (((w55.setCell ⟨gb305, 0, none⟩ (.int .i64 ((rd_T134 l1 x16_1).f0))).setCell ⟨gb305, 1, none⟩ (.int .i64 ((rd_T134 l1 x16_1).f1))).setCell ⟨gb305, 2, none⟩ (.int .i64 ((rd_T134 l1 x16_1).f2))) = w58 at n0_ n1_ n2_ n3_ ⊢
       have HO_7 := n0_
       have BK299 := n1_
       have BK305 := n2_
       have HB := n3_
       clear n0_ n1_ n2_ n3_
       replace HO_7 := Aside0.mk (Kd.R_drew HO_7.out)
       replace BK299 := Aside0.mk (blk_drew BK299.out)
       replace BK305 := Aside0.mk (blk_drew BK305.out)
       replace HB := Aside0.mk (below_drew1 HB.out)
       obtain ⟨Ao60, co60, eo60⟩ := Kd.R_slice HO_7.out
       (subst eo60)
       have p311 : 0 ≤ ((ji21) : Int) := Z.od
       have q311 : (ji21) < (x7_1.length : Int) := Z.od
       obtain ⟨ad311, e311, hx311_0⟩ := Kd.at_bool (Kd.R_reads' HO_7.out).2.2 (ji21) p311 q311
       (try rw [← Nbq27.out] at hx311_0)
       cases e311
       replace p311 := eq_true p311
       replace q311 := eq_true q311
       have p312 : 0 ≤ ((ji24) : Int) := Z.od
       have q312 : (ji24) < (x7_1.length : Int) := Z.od
       obtain ⟨ad312, e312, hx312_0⟩ := Kd.at_bool (Kd.R_reads' HO_7.out).2.2 (ji24) p312 q312
       obtain rfl : ad311 = ad312 := (by injection e312)
       replace p312 := eq_true p312
       replace q312 := eq_true q312
       refine start_ (n := 14) (S := fun w' => w'.cell? (ad311.add ((ji21)).toNat) = some (.bool false) ∧ w'.cell? (ad311.add ((ji24)).toNat) = some (.bool (rdOf false x7_1 (ji24)))) (ds := []) #[false, false, false, false, false, false, false, false, false, false, false, false, false, false] (by kernel_rfl) rfl rfl ⟨hx311_0, hx312_0⟩ (fun hHeld => ?_); refine with_tabW impl_consents.tab7 impl_consents.bits7 (fun HT_ HW_ => ?_)
       generalize w58.drew = w59 at HO_7 BK299 BK305 HB hx311_0 hx312_0 hHeld ⊢
       refine Z.pv 0 38 14 1 HT_.out ?_
       refine Z.pv 1 39 14 3 HT_.out ?_
       refine Z.pv 2 40 14 7 HT_.out ?_
       refine Z.pv 3 41 14 15 HT_.out ?_
       refine Z.pv 4 42 14 31 HT_.out ?_
       refine Z.pv 6 44 14 95 HT_.out ?_
       refine Z.pv 7 45 14 223 HT_.out ?_
       refine Z.pv 8 46 14 479 HT_.out ?_
       refine Z.pv 9 47 14 991 HT_.out ?_
       refine Z.pv 10 48 14 2015 HT_.out ?_
       refine Z.t2 5 43 14 2047 HT_.out HW_.out hHeld ?_
       refine Z.pv 12 10 14 6143 HT_.out ?_
       refine Z.t2 11 49 14 8191 HT_.out HW_.out hHeld ?_
       refine Z.pv 13 11 14 16383 HT_.out ?_
       refine done_ (done_of HT_.out (by kernel_rfl)) ?_
       have hcz61 := Z.c3 BK305.out
       have q62 : ((ji21) : Int) ≤ ((x7_1.length : Int) : Int) := Z.od
       obtain ⟨i062, hi062, _, hsz62, _⟩ := info_parts info4
       have hcut62 := cut_to (P := Try.prog) 150 4 .i64 Try.underlying150 hi062 (some ad311) x7_1.length co60 (ji21) (Z.od) q62 (Kd.R_reads' HO_7.out).2.1
       have hr62 := Kd.R_take (m := ((ji21) : Int).toNat) HO_7.out (by omega)
       have hy62 : y325.length = ((ji21) : Int).toNat := (by rw [Ny325.out, List.length_take]; omega)
       rw [← Ny325.out] at hr62
       rw [← hy62] at hr62 hcut62
       clear hy62 hi062 hsz62 HO_7
       have HO327 := Aside0.mk hr62
       clear hr62
       replace q62 := eq_true q62
       try go_wp2_with (((with_reducible refine gate_builtin (b := .append) (xs := #[.tmp 65, .tmp 67]) rfl ?_); at_builtin; refine Kd.R_append Kd.bool (w0 := w) w.heap.size rfl (.tmp 65) (.tmp 67) 150 4 (.bool false) 1 rfl Try.underlying150 info4 rfl (by decide) (by omega) (.slice (some ad311) y325.length co60) y325 (rdOf false x7_1 (ji24)) [.bool (rdOf false x7_1 (ji24))] (fun _ => True) (fun _ => False) rfl rfl ?aP (fun _ hk => hk.elim) ?aF ?aO ?aB ?aS ?aL ?_; (case aP => exact rfl); (case aB => exact (by repeat ((with_reducible exact HB.out)))); (case aF => exact (fun _ _ => trivial)); (case aO => exact (by (with_reducible skip); exact HO327.out)); (case aS => exact (below_size (by repeat ((with_reducible exact HB.out))))); (case aL => have := LMc54.out; omega); intro v329 w63 ho hb hg hat; rw [← Ny328.out] at ho; replace BK299 := Aside0.mk (blk_grown (g := gb299) (o := .cells #[.int .i64 a0_0, .slice A0_1 l0_1.length c0_1] 32 (0, 0)) (Z.bk BK299.out) hg (Kd.R_ne HO327.out BK299.out (by decide))); replace BK305 := Aside0.mk (blk_grown (g := gb305) (o := .cells #[.int .i64 ((rd_T134 l1 x16_1).f0), .int .i64 ((rd_T134 l1 x16_1).f1), .int .i64 ((rd_T134 l1 x16_1).f2)] 134 (0, 0)) (Z.bk BK305.out) hg (Kd.R_ne HO327.out BK305.out (by decide))); replace HB := Aside0.mk (hb); have HO330 := Aside0.mk (ho); clear HO327; clear ho hb hg hat))
       go_roundg k1
       case measure => have := HK1.out; omega
       case rel => exact ⟨(y328), (wrap64 (x16_1 + 1)), (by rfl), H', ⟨by have := HK1.out; omega⟩, ⟨by (with_reducible skip); exact HO330.out⟩, ⟨by (with_reducible skip); exact BK299.out⟩, ⟨by repeat ((with_reducible exact HB.out))⟩⟩
      ·rw [if_neg c52] at H
       have c52b0 : (((rd_T134 l1 x16_1).f0) == 2) = false := beq_eq_false_iff_ne.mpr c52
       have c52b1 : (((rd_T134 l1 x16_1).f0) != 2) = true := bne_iff_ne.mpr c52
       obtain ⟨c64, H⟩ := Z.ifp H
       have c64b0 := eq_true c64
       have c64b1 : decide ((ji21) ≤ (x7_1.length : Int)) = true := decide_eq_true c64
       clear c64
       obtain ⟨y331, hy331⟩ : ∃ y_ : List Bool, y_ = (x7_1.take ((ji21) : Int).toNat) := ⟨_, rfl⟩
       replace H : (if y331.length < 140737488355328 then (impl_consents.l0 k1 a2 (y331 ++ [false]) l1 (l1.length : Int) (wrap64 (x16_1 + 1)) a0_0 l0_1) else (none)) = some r := by (have H2_ := (Option.bind_some _ _).symm.trans H; rw [hy331]; with_reducible exact H2_)
       have Ny331 := Aside0.mk hy331
       clear hy331
       obtain ⟨c65, H⟩ := Z.ifp H
       have LMc65 := Aside0.mk c65
       clear c65
       obtain ⟨y334, hy334⟩ : ∃ y_ : List Bool, y_ = (y331 ++ [false]) := ⟨_, rfl⟩
       replace H : (impl_consents.l0 k1 a2 y334 l1 (l1.length : Int) (wrap64 (x16_1 + 1)) a0_0 l0_1) = some r := by (rw [hy334]; with_reducible exact H)
       have Ny334 := Aside0.mk hy334
       clear hy334
       have H' := Aside0.mk H
       clear H
       have p304 : 0 ≤ (x16_1 : Int) := Z.od
       have q304 : x16_1 < (l1.length : Int) := Z.od
       obtain ⟨ad304, rfl, hx304_0, hx304_1, hx304_2⟩ := at_T134 HR1.out x16_1 p304 q304
       replace hx304_0 := Z.up HB.out hx304_0
       replace hx304_1 := Z.up HB.out hx304_1
       replace hx304_2 := Z.up HB.out hx304_2
       replace p304 := eq_true p304
       replace q304 := eq_true q304
       try go_wp2_with (((with_reducible refine gate_dst (N := 9) rfl ?_); refine Z.bz #[.int .i64 0, .int .i64 0, .int .i64 0] 134 HB GE299 ?_; clear HB; intro gb305 w66 BK305 GE305 HB hg hb; have GW305 := GE305; replace HO_7 := Aside0.mk (Kd.R_below (by (with_reducible skip); exact HO_7.out) hb); have NB299_305 := Z.nl hg BK299; have NB305_299 := Z.ng hg BK299; replace BK299 := Z.bb BK299 hb; clear hb hg; have hnb67 := NB305_299.out; have hnc67 := NB299_305.out; have hcz68 := Z.c3 BK305.out))
       have n0_ : Aside0 (Kd.R Kd.bool 4 (((w66.setCell ⟨gb305, 0, none⟩ (.int .i64 ((rd_T134 l1 x16_1).f0))).setCell ⟨gb305, 1, none⟩ (.int .i64 ((rd_T134 l1 x16_1).f1))).setCell ⟨gb305, 2, none⟩ (.int .i64 ((rd_T134 l1 x16_1).f2))) w.heap.size (fun _ => True) u7 x7_1) := ⟨by (with_reducible skip); exact Kd.R_mono (Kd.R_far (p := ⟨gb305, 2, none⟩) (Kd.R_far (p := ⟨gb305, 1, none⟩) (Kd.R_far (p := ⟨gb305, 0, none⟩) (Kd.R_types HO_7.out BK305.out (by decide)) (fun _ hk => hk.2) (.int .i64 ((rd_T134 l1 x16_1).f0))) (fun _ hk => hk.2) (.int .i64 ((rd_T134 l1 x16_1).f1))) (fun _ hk => hk.2) (.int .i64 ((rd_T134 l1 x16_1).f2))) (fun _ hk => trivial)⟩
       have n1_ : Aside0 ((((w66.setCell ⟨gb305, 0, none⟩ (.int .i64 ((rd_T134 l1 x16_1).f0))).setCell ⟨gb305, 1, none⟩ (.int .i64 ((rd_T134 l1 x16_1).f1))).setCell ⟨gb305, 2, none⟩ (.int .i64 ((rd_T134 l1 x16_1).f2))).heap[gb299]? = some (.cells #[.int .i64 a0_0, .slice A0_1 l0_1.length c0_1] 32 (0, 0))) := ⟨by (with_reducible skip); refine blk_far ?_ NB299_305.out _; (with_reducible skip); refine blk_far ?_ NB299_305.out _; (with_reducible skip); refine blk_far ?_ NB299_305.out _; (with_reducible skip); exact BK299.out⟩
       have n2_ : Aside0 ((((w66.setCell ⟨gb305, 0, none⟩ (.int .i64 ((rd_T134 l1 x16_1).f0))).setCell ⟨gb305, 1, none⟩ (.int .i64 ((rd_T134 l1 x16_1).f1))).setCell ⟨gb305, 2, none⟩ (.int .i64 ((rd_T134 l1 x16_1).f2))).heap[gb305]? = some (.cells #[.int .i64 ((rd_T134 l1 x16_1).f0), .int .i64 ((rd_T134 l1 x16_1).f1), .int .i64 ((rd_T134 l1 x16_1).f2)] 134 (0, 0))) := ⟨by (with_reducible skip); refine blk_put (cs := #[.int .i64 ((rd_T134 l1 x16_1).f0), .int .i64 ((rd_T134 l1 x16_1).f1), .int .i64 0]) ?_ 2 _ rfl; (with_reducible skip); refine blk_put (cs := #[.int .i64 ((rd_T134 l1 x16_1).f0), .int .i64 0, .int .i64 0]) ?_ 1 _ rfl; (with_reducible skip); refine blk_put (cs := #[.int .i64 0, .int .i64 0, .int .i64 0]) ?_ 0 _ rfl; (with_reducible skip); exact BK305.out⟩
       have n3_ : Aside0 (Below w.heap.size w (((w66.setCell ⟨gb305, 0, none⟩ (.int .i64 ((rd_T134 l1 x16_1).f0))).setCell ⟨gb305, 1, none⟩ (.int .i64 ((rd_T134 l1 x16_1).f1))).setCell ⟨gb305, 2, none⟩ (.int .i64 ((rd_T134 l1 x16_1).f2)))) := ⟨by repeat ((with_reducible first | exact HB.out | refine below_set ?_ GE305.out))⟩
       (try clear HO_7)
       (try clear BK299)
       (try clear BK305)
       (try clear HB)
       generalize (((w66.setCell ⟨gb305, 0, none⟩ (.int .i64 ((rd_T134 l1 x16_1).f0))).setCell ⟨gb305, 1, none⟩ (.int .i64 ((rd_T134 l1 x16_1).f1))).setCell ⟨gb305, 2, none⟩ (.int .i64 ((rd_T134 l1 x16_1).f2))) = w69 at n0_ n1_ n2_ n3_ ⊢
       have HO_7 := n0_
       have BK299 := n1_
       have BK305 := n2_
       have HB := n3_
       clear n0_ n1_ n2_ n3_
       replace HO_7 := Aside0.mk (Kd.R_drew HO_7.out)
       replace BK299 := Aside0.mk (blk_drew BK299.out)
       replace BK305 := Aside0.mk (blk_drew BK305.out)
       replace HB := Aside0.mk (below_drew1 HB.out)
       obtain ⟨Ao71, co71, eo71⟩ := Kd.R_slice HO_7.out
       (subst eo71)
       have p311 : 0 ≤ ((ji21) : Int) := Z.od
       have q311 : (ji21) < (x7_1.length : Int) := Z.od
       obtain ⟨ad311, e311, hx311_0⟩ := Kd.at_bool (Kd.R_reads' HO_7.out).2.2 (ji21) p311 q311
       (try rw [← Nbq27.out] at hx311_0)
       cases e311
       replace p311 := eq_true p311
       replace q311 := eq_true q311
       have p312 : 0 ≤ ((ji24) : Int) := Z.od
       have q312 : (ji24) < (x7_1.length : Int) := Z.od
       obtain ⟨ad312, e312, hx312_0⟩ := Kd.at_bool (Kd.R_reads' HO_7.out).2.2 (ji24) p312 q312
       obtain rfl : ad311 = ad312 := (by injection e312)
       replace p312 := eq_true p312
       replace q312 := eq_true q312
       refine start_ (n := 14) (S := fun w' => w'.cell? (ad311.add ((ji21)).toNat) = some (.bool false) ∧ w'.cell? (ad311.add ((ji24)).toNat) = some (.bool (rdOf false x7_1 (ji24)))) (ds := []) #[false, false, false, false, false, false, false, false, false, false, false, false, false, false] (by kernel_rfl) rfl rfl ⟨hx311_0, hx312_0⟩ (fun hHeld => ?_); refine with_tabW impl_consents.tab7 impl_consents.bits7 (fun HT_ HW_ => ?_)
       generalize w69.drew = w70 at HO_7 BK299 BK305 HB hx311_0 hx312_0 hHeld ⊢
       refine Z.pv 0 38 14 1 HT_.out ?_
       refine Z.pv 1 39 14 3 HT_.out ?_
       refine Z.pv 2 40 14 7 HT_.out ?_
       refine Z.pv 3 41 14 15 HT_.out ?_
       refine Z.pv 4 42 14 31 HT_.out ?_
       refine Z.pv 6 44 14 95 HT_.out ?_
       refine Z.pv 7 45 14 223 HT_.out ?_
       refine Z.pv 8 46 14 479 HT_.out ?_
       refine Z.pv 9 47 14 991 HT_.out ?_
       refine Z.pv 10 48 14 2015 HT_.out ?_
       refine Z.t2 5 43 14 2047 HT_.out HW_.out hHeld ?_
       refine Z.pv 12 10 14 6143 HT_.out ?_
       refine Z.t2 11 49 14 8191 HT_.out HW_.out hHeld ?_
       refine Z.pv 13 11 14 16383 HT_.out ?_
       refine done_ (done_of HT_.out (by kernel_rfl)) ?_
       have hcz72 := Z.c3 BK305.out
       have q73 : ((ji21) : Int) ≤ ((x7_1.length : Int) : Int) := Z.od
       obtain ⟨i073, hi073, _, hsz73, _⟩ := info_parts info4
       have hcut73 := cut_to (P := Try.prog) 150 4 .i64 Try.underlying150 hi073 (some ad311) x7_1.length co71 (ji21) (Z.od) q73 (Kd.R_reads' HO_7.out).2.1
       have hr73 := Kd.R_take (m := ((ji21) : Int).toNat) HO_7.out (by omega)
       have hy73 : y331.length = ((ji21) : Int).toNat := (by rw [Ny331.out, List.length_take]; omega)
       rw [← Ny331.out] at hr73
       rw [← hy73] at hr73 hcut73
       clear hy73 hi073 hsz73 HO_7
       have HO333 := Aside0.mk hr73
       clear hr73
       replace q73 := eq_true q73
       try go_wp2_with (((with_reducible refine gate_builtin (b := .append) (xs := #[.tmp 65, .tmp 67]) rfl ?_); at_builtin; refine Kd.R_append Kd.bool (w0 := w) w.heap.size rfl (.tmp 65) (.tmp 67) 150 4 (.bool false) 1 rfl Try.underlying150 info4 rfl (by decide) (by omega) (.slice (some ad311) y331.length co71) y331 false [.bool false] (fun _ => True) (fun _ => False) rfl rfl ?aP (fun _ hk => hk.elim) ?aF ?aO ?aB ?aS ?aL ?_; (case aP => exact rfl); (case aB => exact (by repeat ((with_reducible exact HB.out)))); (case aF => exact (fun _ _ => trivial)); (case aO => exact (by (with_reducible skip); exact HO333.out)); (case aS => exact (below_size (by repeat ((with_reducible exact HB.out))))); (case aL => have := LMc65.out; omega); intro v335 w74 ho hb hg hat; rw [← Ny334.out] at ho; replace BK299 := Aside0.mk (blk_grown (g := gb299) (o := .cells #[.int .i64 a0_0, .slice A0_1 l0_1.length c0_1] 32 (0, 0)) (Z.bk BK299.out) hg (Kd.R_ne HO333.out BK299.out (by decide))); replace BK305 := Aside0.mk (blk_grown (g := gb305) (o := .cells #[.int .i64 ((rd_T134 l1 x16_1).f0), .int .i64 ((rd_T134 l1 x16_1).f1), .int .i64 ((rd_T134 l1 x16_1).f2)] 134 (0, 0)) (Z.bk BK305.out) hg (Kd.R_ne HO333.out BK305.out (by decide))); replace HB := Aside0.mk (hb); have HO336 := Aside0.mk (ho); clear HO333; clear ho hb hg hat))
       go_roundg k1
       case measure => have := HK1.out; omega
       case rel => exact ⟨(y334), (wrap64 (x16_1 + 1)), (by rfl), H', ⟨by have := HK1.out; omega⟩, ⟨by (with_reducible skip); exact HO336.out⟩, ⟨by (with_reducible skip); exact BK299.out⟩, ⟨by repeat ((with_reducible exact HB.out))⟩⟩
   ·rw [if_neg c7] at H
    have c7b0 := decide_eq_false c7
    clear c7
    obtain ⟨c75, H⟩ := Z.ifp H
    have c75b0 : decide (0 < (x7_1.length : Int)) = true := decide_eq_true c75
    have c75b1 : decide (0 < x7_1.length) = true := decide_eq_true (by omega)
    clear c75
    obtain rfl := Option.some.inj H
    obtain ⟨Ao76, co76, eo76⟩ := Kd.R_slice HO_7.out
    subst eo76
    have p303 : 0 ≤ (0 : Int) := (by omega)
    have q303 : 0 < (x7_1.length : Int) := Z.od
    obtain ⟨ad303, e303, hx303_0⟩ := Kd.at_bool (Kd.R_reads' HO_7.out).2.2 0 p303 q303
    cases e303
    have qi303 : (0 < x7_1.length) = True := eq_true (by omega)
    (try rw [show ((0 : Int)).toNat = 0 from rfl] at hx303_0)
    (try rw [Addr.add_zero'] at hx303_0)
    replace p303 := eq_true p303
    replace q303 := eq_true q303
    go_wp2
    go_ret
    exact ⟨by rfl, Z.bs HB.out GE299.out⟩
end Go.Proofs.Ytcafckapdgaogaa.PAll

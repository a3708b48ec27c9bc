/- Walks of functions that All reaches, in the form of the print. -/
-- PRINTED
import Derived.Test.YtenjngocdinfmaaCAll7
namespace Go.Proofs.Ytenjngocdinfmaa.PAll
open Go.RowKit Go.Proofs.YtenjngocdinfmaaW.PrintWords Go.Proofs.YtenjngocdinfmaaW.PrintLast Go.Proofs.YtenjngocdinfmaaW.PrintMore
attribute [local go_sem] max2_int min2_int max_two min_two max_three min_three max_four min_four
set_option linter.unusedVariables false
set_option linter.unusedSimpArgs false

/-! ### impl_consents: function 28 -/
def impl_consents.l0 : Nat → Int → List Bool → List (S35) → Int → Int → Int → List Int → Option (Bool)
 | 0, _, _, _, _, _, _, _ => none
 | k + 1, x2, x7, x14, x15, x16, x319000, x319001 => if x16 < x15 then (if 0 ≤ x16 then (if x16 < (x14.length : Int) then (if ((rd_T35 x14 x16).f0) = 0 then (if 0 ≤ ((rd_T35 x14 x16).f1) then (if ((rd_T35 x14 x16).f1) < (x319001.length : Int) then ((impl_headsOf.f (Go.bits .and .i64 (rd x319001 ((rd_T35 x14 x16).f1)) x2)).bind fun t326 => (if x7.length < 140737488355328 then (impl_consents.l0 k x2 (x7 ++ [decide (t326 ≥ ((rd_T35 x14 x16).f2))]) x14 x15 (wrap64 (x16 + 1)) x319000 x319001) else (none))) else (none)) else (none)) else (if 0 ≤ (wrap64 ((x7.length : Int) - 2)) then (if (wrap64 ((x7.length : Int) - 2)) < (x7.length : Int) then (if 0 ≤ (wrap64 ((x7.length : Int) - 1)) then (if (wrap64 ((x7.length : Int) - 1)) < (x7.length : Int) then (if rdOf false x7 (wrap64 ((x7.length : Int) - 2)) = true then (if ((rd_T35 x14 x16).f0) = 2 then (if (wrap64 ((x7.length : Int) - 2)) ≤ (x7.length : Int) then ((some (x7.take ((wrap64 ((x7.length : Int) - 2)) : Int).toNat : List Bool)).bind fun y332 => (if y332.length < 140737488355328 then (impl_consents.l0 k x2 (y332 ++ [true]) x14 x15 (wrap64 (x16 + 1)) x319000 x319001) else (none))) else (none)) else (if (wrap64 ((x7.length : Int) - 2)) ≤ (x7.length : Int) then ((some (x7.take ((wrap64 ((x7.length : Int) - 2)) : Int).toNat : List Bool)).bind fun y338 => (if y338.length < 140737488355328 then (impl_consents.l0 k x2 (y338 ++ [rdOf false x7 (wrap64 ((x7.length : Int) - 1))]) x14 x15 (wrap64 (x16 + 1)) x319000 x319001) else (none))) else (none))) else (if ((rd_T35 x14 x16).f0) = 2 then (if (wrap64 ((x7.length : Int) - 2)) ≤ (x7.length : Int) then ((some (x7.take ((wrap64 ((x7.length : Int) - 2)) : Int).toNat : List Bool)).bind fun y344 => (if y344.length < 140737488355328 then (impl_consents.l0 k x2 (y344 ++ [rdOf false x7 (wrap64 ((x7.length : Int) - 1))]) x14 x15 (wrap64 (x16 + 1)) x319000 x319001) else (none))) else (none)) else (if (wrap64 ((x7.length : Int) - 2)) ≤ (x7.length : Int) then ((some (x7.take ((wrap64 ((x7.length : Int) - 2)) : Int).toNat : List Bool)).bind fun y350 => (if y350.length < 140737488355328 then (impl_consents.l0 k x2 (y350 ++ [false]) x14 x15 (wrap64 (x16 + 1)) x319000 x319001) else (none))) else (none)))) else (none)) else (none)) else (none)) else (none))) else (none)) else (none)) else (if 0 < (x7.length : Int) then (some (rdOf false x7 0)) else (none))
def impl_consents.f (k : Nat) (a0_0 : Int) (l0_1 : List Int) (l1 : List (S35)) (a2 : Int) : Option (Bool) := impl_consents.l0 k a2 (([] : List Bool)) l1 (l1.length : Int) 0 a0_0 l0_1
def impl_consents.T6 : Bool × List (List Nat × List Nat) := (true, [([], []), ([], []), ([1], [1]), ([], []), ([3], [3]), ([2, 4], [2, 4]), ([5], [5]), ([], []), ([6, 7], [6, 7]), ([8], [8]), ([], []), ([10], [10]), ([9, 11], [9, 11]), ([12], [12]), ([0, 13, 9], [0, 13]), ([14, 14, 0, 1, 2, 3, 4, 5, 6, 7, 8, 9, 10, 11, 12, 13, 14], [0, 14])])
def impl_consents.B6 : List Nat := [0, 0, 2, 0, 8, 30, 62, 0, 254, 510, 0, 1024, 4094, 8190, 16383, 32767]
theorem impl_consents.tab6 : rtab .any (opsOf Try.f28 6) = impl_consents.T6 := by kernel_rfl
theorem impl_consents.bits6 : waitsOk impl_consents.T6.2 impl_consents.B6 = true := by kernel_rfl
def impl_consents.T7 : Bool × List (List Nat × List Nat) := (true, [([], []), ([], []), ([1], [1]), ([2], [2]), ([0, 3], [0, 3]), ([4], [4]), ([], []), ([], []), ([7], [7]), ([8], [8]), ([6, 9], [6, 9]), ([10], [10]), ([5, 0, 1, 2, 3, 4, 5], [5]), ([11, 12, 0, 1, 2, 3, 4, 5, 6, 7, 8, 9, 10, 11, 12], [11])])
def impl_consents.B7 : List Nat := [0, 0, 2, 6, 15, 31, 0, 0, 128, 384, 960, 1984, 63, 8191]
theorem impl_consents.tab7 : rtab .any (opsOf Try.f28 7) = impl_consents.T7 := by kernel_rfl
theorem impl_consents.bits7 : waitsOk impl_consents.T7.2 impl_consents.B7 = true := by kernel_rfl
set_option maxHeartbeats 8000000 in
set_option maxRecDepth 100000 in
theorem impl_consents.calls (k : Nat) (a0_0 : Int) (A0_1 : Option Addr) (c0_1 : Nat) (l0_1 : List Int) (A1 : Option Addr) (c1 : Nat) (l1 : List (S35)) (a2 : Int) (r : Bool) (w : World) (hr0_1 : Kd.C (Kd.int .i64) w A0_1 l0_1.length l0_1) (hc0_1 : l0_1.length ≤ c0_1) (hr1 : Kd.C k35 w A1 l1.length l1) (hc1 : l1.length ≤ c1) (h : impl_consents.f k a0_0 l0_1 l1 a2 = some r) :
  Calls Try.prog 28 #[.agg #[.int .i64 a0_0, .slice A0_1 l0_1.length c0_1], .slice A1 l1.length c1, .int .i64 a2] w fun e w' => e = .returned (.bool r) ∧ Below w.heap.size w w' := by
 have hu25 := Try.underlying25
 have hu35 := Try.underlying35
 have HR0_1 := Aside0.mk hr0_1
 have HC0_1 := Aside0.mk hc0_1
 clear hr0_1 hc0_1
 have HR1 := Aside0.mk hr1
 have HC1 := Aside0.mk hc1
 clear hr1 hc1
 have HB := Aside0.mk (Below.refl w.heap.size w)
 have H := h
 clear h
 unfold impl_consents.f at H
 obtain ⟨y319, hy319⟩ : ∃ y_ : List Bool, y_ = (([] : List Bool)) := ⟨_, rfl⟩
 replace H : (impl_consents.l0 k a2 y319 l1 (l1.length : Int) 0 a0_0 l0_1) = some r := by first | (rw [hy319]; with_reducible exact H) | (have H2_ := (Option.bind_some _ _).symm.trans H; rw [hy319]; with_reducible exact H2_) | (have H2_ := (Option.bind_some _ _).symm.trans H; with_reducible exact H2_) | with_reducible exact H | (rw [hy319]; exact H) | exact H
 have Ny319 := Aside0.mk hy319
 clear hy319
 have H' := Aside0.mk H
 clear H
 go_enter Try.func28, Try.ntmps28
 go_wp2_with (first | ((with_reducible refine gate_dst (N := 3) rfl ?_); refine Z.bx #[.int .i64 a0_0, .slice A0_1 l0_1.length c0_1] 25 HB ?_; clear HB; intro gb318 w4 BK318 GE318 HB hg hb; have GW318 := GE318; clear hb hg) | ((with_reducible refine gate_dst (N := 13) rfl ?_); refine Kd.R_lit Kd.bool _ 4 ?hg (N := 13) ?hd (xs := ([] : List Bool)) (inner := []) (ok := fun _ => True) (okp := fun _ => True) ?hr ?hp (fun _ hk => hk) trivial (Below.refl _ _) (Nat.le_refl _) (by simp) ?_; (case hd | hg => rfl); (case hr => first | (go_simp; done) | (go_simp; rfl)); (case hp => exact (Reps.none _ _)); intro v320 w5 ho6 hb hg_ hnew_; clear hg_ hnew_; (first | rw [← Ny319.out] at ho6 | (simp only [Int.reduceToNat] at ho6; rw [← Ny319.out] at ho6)); have HO321 := Aside0.mk (Kd.R_lower ho6 (below_size (Z.bs HB.out GE318.out))); replace BK318 := Z.bb BK318 hb; replace HB := Z.st (Z.bs HB.out GE318.out) hb; clear hb ho6))
 go_loopg [7, 16] k (fun kq v7 v16 w' => ∃ (x7_1 : List Bool) (x16_1 : Int), v16 = .int .i64 x16_1 ∧ Aside0 (impl_consents.l0 kq a2 x7_1 l1 (l1.length : Int) x16_1 a0_0 l0_1 = some r) ∧ Aside0 (kq ≤ k) ∧ Aside0 (Kd.R Kd.bool 4 w' w.heap.size (fun _ => True) v7 x7_1) ∧ Aside0 (w'.heap[gb318]? = some (.cells #[.int .i64 a0_0, (.slice A0_1 l0_1.length c0_1)] 25 (0, 0))) ∧ Aside0 (Below w.heap.size w w'))
 case atStart => exact ⟨(y319), (0), (by first | rfl | (simp; done) | (simp [*]; done)), H', ⟨Nat.le_refl _⟩, ⟨by (with_reducible repeat (first | apply Kd.R_alloc | apply Kd.R_drewN | apply Kd.R_drew)); exact HO321.out⟩, ⟨by (with_reducible repeat (first | refine blk_drewN ?_ _ | refine blk_drew ?_ | refine blk_alloc ?_ _)); exact BK318.out⟩, ⟨Z.bs HB.out GE318.out⟩⟩
 case round =>
  clear H'
  try clear c1
  try clear c2
  try clear p2
  obtain ⟨x7_1, x16_1, rfl, HA, HK1, HO_7, BK318, HB⟩ := hrel
  cases gk with
  | zero => exact absurd HA.out (by simp [impl_consents.l0])
  | succ k1 =>
   have H := HA.out
   clear HA
   simp only [impl_consents.l0] at H
   by_cases c7 : x16_1 < (l1.length : Int)
   ·rw [if_pos c7] at H
    have c7b0 := decide_eq_true c7
    clear c7
    obtain ⟨c8, H⟩ := Z.ifp H
    have c8b0 : decide (0 ≤ x16_1) = true := decide_eq_true c8
    clear c8
    obtain ⟨c9, H⟩ := Z.ifp H
    have c9b0 : decide (x16_1 < (l1.length : Int)) = true := decide_eq_true c9
    clear c9
    by_cases c10 : ((rd_T35 l1 x16_1).f0) = 0
    ·rw [if_pos c10] at H
     have c10b0 : (((rd_T35 l1 x16_1).f0) == 0) = true := beq_iff_eq.mpr c10
     have c10b1 : (((rd_T35 l1 x16_1).f0) != 0) = false := bne_eq_false_iff_eq.mpr c10
     clear c10
     obtain ⟨c11, H⟩ := Z.ifp H
     have c11b0 : decide (0 ≤ ((rd_T35 l1 x16_1).f1)) = true := decide_eq_true c11
     clear c11
     obtain ⟨c12, H⟩ := Z.ifp H
     have c12b0 : decide (((rd_T35 l1 x16_1).f1) < (l0_1.length : Int)) = true := decide_eq_true c12
     clear c12
     replace H := Option.bind_eq_some_iff.mp H
     obtain ⟨t326, A130, H⟩ := H
     try dsimp only at H
     have A13 := Aside0.mk A130
     clear A130
     obtain ⟨c14, H⟩ := Z.ifp H
     have LMc14 := Aside0.mk c14
     clear c14
     obtain ⟨y327, hy327⟩ : ∃ y_ : List Bool, y_ = (x7_1 ++ [decide (t326 ≥ ((rd_T35 l1 x16_1).f2))]) := ⟨_, rfl⟩
     replace H : (impl_consents.l0 k1 a2 y327 l1 (l1.length : Int) (wrap64 (x16_1 + 1)) a0_0 l0_1) = some r := by first | (rw [hy327]; with_reducible exact H) | (have H2_ := (Option.bind_some _ _).symm.trans H; rw [hy327]; with_reducible exact H2_) | (have H2_ := (Option.bind_some _ _).symm.trans H; with_reducible exact H2_) | with_reducible exact H | (rw [hy327]; exact H) | exact H
     have Ny327 := Aside0.mk hy327
     clear hy327
     have H' := Aside0.mk H
     clear H
     have p323 : 0 ≤ (x16_1 : Int) := Z.od
     have q323 : x16_1 < (l1.length : Int) := Z.od
     obtain ⟨ad323, rfl, hx323_0, hx323_1, hx323_2⟩ := at_T35 HR1.out x16_1 p323 q323
     replace hx323_0 := Z.up HB.out hx323_0
     replace hx323_1 := Z.up HB.out hx323_1
     replace hx323_2 := Z.up HB.out hx323_2
     replace p323 := eq_true p323
     replace q323 := eq_true q323
     try go_wp2_with (first | ((with_reducible refine gate_dst (N := 9) rfl ?_); refine Z.bz #[.int .i64 0, .int .i64 0, .int .i64 0] 35 HB GE318 ?_; clear HB; intro gb324 w15 BK324 GE324 HB hg hb; have GW324 := GE324; replace HO_7 := Aside0.mk (Kd.R_below (by (with_reducible repeat (first | apply Kd.R_alloc | apply Kd.R_drewN | apply Kd.R_drew)); exact HO_7.out) hb); have NB318_324 := Z.nl hg BK318; have NB324_318 := Z.ng hg BK318; replace BK318 := Z.bb BK318 hb; clear hb hg; have hnb16 := NB324_318.out; have hnc16 := NB318_324.out; have hcz17 := Z.c3 BK324.out))
     have n0_ : Aside0 (Kd.R Kd.bool 4 (((w15.setCell ⟨gb324, 0, none⟩ (.int .i64 ((rd_T35 l1 x16_1).f0))).setCell ⟨gb324, 1, none⟩ (.int .i64 ((rd_T35 l1 x16_1).f1))).setCell ⟨gb324, 2, none⟩ (.int .i64 ((rd_T35 l1 x16_1).f2))) w.heap.size (fun _ => True) u7 x7_1) := ⟨by (with_reducible repeat (first | apply Kd.R_alloc | apply Kd.R_drewN | apply Kd.R_drew)); exact Kd.R_mono (Kd.R_far (p := ⟨gb324, 2, none⟩) (Kd.R_far (p := ⟨gb324, 1, none⟩) (Kd.R_far (p := ⟨gb324, 0, none⟩) (Kd.R_types HO_7.out BK324.out (by decide)) (fun _ hk => hk.2) (.int .i64 ((rd_T35 l1 x16_1).f0))) (fun _ hk => hk.2) (.int .i64 ((rd_T35 l1 x16_1).f1))) (fun _ hk => hk.2) (.int .i64 ((rd_T35 l1 x16_1).f2))) (fun _ hk => trivial)⟩
     have n1_ : Aside0 ((((w15.setCell ⟨gb324, 0, none⟩ (.int .i64 ((rd_T35 l1 x16_1).f0))).setCell ⟨gb324, 1, none⟩ (.int .i64 ((rd_T35 l1 x16_1).f1))).setCell ⟨gb324, 2, none⟩ (.int .i64 ((rd_T35 l1 x16_1).f2))).heap[gb318]? = some (.cells #[.int .i64 a0_0, .slice A0_1 l0_1.length c0_1] 25 (0, 0))) := ⟨by (with_reducible repeat (first | refine blk_drewN ?_ _ | refine blk_drew ?_ | refine blk_alloc ?_ _)); refine blk_far ?_ NB318_324.out _; (with_reducible repeat (first | refine blk_drewN ?_ _ | refine blk_drew ?_ | refine blk_alloc ?_ _)); refine blk_far ?_ NB318_324.out _; (with_reducible repeat (first | refine blk_drewN ?_ _ | refine blk_drew ?_ | refine blk_alloc ?_ _)); refine blk_far ?_ NB318_324.out _; (with_reducible repeat (first | refine blk_drewN ?_ _ | refine blk_drew ?_ | refine blk_alloc ?_ _)); exact BK318.out⟩
     have n2_ : Aside0 ((((w15.setCell ⟨gb324, 0, none⟩ (.int .i64 ((rd_T35 l1 x16_1).f0))).setCell ⟨gb324, 1, none⟩ (.int .i64 ((rd_T35 l1 x16_1).f1))).setCell ⟨gb324, 2, none⟩ (.int .i64 ((rd_T35 l1 x16_1).f2))).heap[gb324]? = some (.cells #[.int .i64 ((rd_T35 l1 x16_1).f0), .int .i64 ((rd_T35 l1 x16_1).f1), .int .i64 ((rd_T35 l1 x16_1).f2)] 35 (0, 0))) := ⟨by (with_reducible repeat (first | refine blk_drewN ?_ _ | refine blk_drew ?_ | refine blk_alloc ?_ _)); refine blk_put (cs := #[.int .i64 ((rd_T35 l1 x16_1).f0), .int .i64 ((rd_T35 l1 x16_1).f1), .int .i64 0]) ?_ 2 _ rfl; (with_reducible repeat (first | refine blk_drewN ?_ _ | refine blk_drew ?_ | refine blk_alloc ?_ _)); refine blk_put (cs := #[.int .i64 ((rd_T35 l1 x16_1).f0), .int .i64 0, .int .i64 0]) ?_ 1 _ rfl; (with_reducible repeat (first | refine blk_drewN ?_ _ | refine blk_drew ?_ | refine blk_alloc ?_ _)); refine blk_put (cs := #[.int .i64 0, .int .i64 0, .int .i64 0]) ?_ 0 _ rfl; (with_reducible repeat (first | refine blk_drewN ?_ _ | refine blk_drew ?_ | refine blk_alloc ?_ _)); exact BK324.out⟩
     have n3_ : Aside0 (Below w.heap.size w (((w15.setCell ⟨gb324, 0, none⟩ (.int .i64 ((rd_T35 l1 x16_1).f0))).setCell ⟨gb324, 1, none⟩ (.int .i64 ((rd_T35 l1 x16_1).f1))).setCell ⟨gb324, 2, none⟩ (.int .i64 ((rd_T35 l1 x16_1).f2)))) := ⟨by repeat (first | (with_reducible first | exact HB.out | apply below_alloc | apply pw_below_drewN | apply below_drew1 | refine below_set ?_ GE318.out | refine below_set ?_ GE324.out) | exact HB.out)⟩
     (try clear HO_7)
     (try clear BK318)
     (try clear BK324)
     (try clear HB)
     generalize (((w15.setCell ⟨gb324, 0, none⟩ (.int .i64 ((rd_T35 l1 x16_1).f0))).setCell ⟨gb324, 1, none⟩ (.int .i64 ((rd_T35 l1 x16_1).f1))).setCell ⟨gb324, 2, none⟩ (.int .i64 ((rd_T35 l1 x16_1).f2))) = w18 at n0_ n1_ n2_ n3_ ⊢
     have HO_7 := n0_
     have BK318 := n1_
     have BK324 := n2_
     have HB := n3_
     clear n0_ n1_ n2_ n3_
     replace HO_7 := Aside0.mk (Kd.R_drew HO_7.out)
     replace BK318 := Aside0.mk (blk_drew BK318.out)
     replace BK324 := Aside0.mk (blk_drew BK324.out)
     replace HB := Aside0.mk (below_drew1 HB.out)
     have p325 : 0 ≤ (((rd_T35 l1 x16_1).f1) : Int) := Z.od
     have q325 : ((rd_T35 l1 x16_1).f1) < (l0_1.length : Int) := Z.od
     obtain ⟨ad325, rfl, hx325_0⟩ := Kd.at_int HR0_1.out ((rd_T35 l1 x16_1).f1) p325 q325
     have hw325_0 := hx325_0
     replace hx325_0 := Z.up HB.out hx325_0
     replace p325 := eq_true p325
     replace q325 := eq_true q325
     refine start_ (n := 16) (S := fun w' => w'.cell? ⟨gb318, 0, none⟩ = some (.int .i64 a0_0) ∧ w'.cell? ⟨gb318, 1, none⟩ = some (.slice (some ad325) l0_1.length c0_1) ∧ w'.cell? ⟨gb324, 0, none⟩ = some (.int .i64 ((rd_T35 l1 x16_1).f0)) ∧ w'.cell? ⟨gb324, 1, none⟩ = some (.int .i64 ((rd_T35 l1 x16_1).f1)) ∧ w'.cell? ⟨gb324, 2, none⟩ = some (.int .i64 ((rd_T35 l1 x16_1).f2)) ∧ w'.cell? (ad325.add (((rd_T35 l1 x16_1).f1)).toNat) = some (.int .i64 (rd l0_1 ((rd_T35 l1 x16_1).f1)))) (ds := []) #[false, false, false, false, false, false, false, false, false, false, false, false, false, false, false, false] (by kernel_rfl) rfl rfl ⟨(blk_cell BK318.out 0).trans rfl, (blk_cell BK318.out 1).trans rfl, (blk_cell BK324.out 0).trans rfl, (blk_cell BK324.out 1).trans rfl, (blk_cell BK324.out 2).trans rfl, (Z.up HB.out hw325_0 :)⟩ (fun hHeld => ?_); refine with_tabW impl_consents.tab6 impl_consents.bits6 (fun HT_ HW_ => ?_)
     generalize w18.drew = w19 at HO_7 BK318 BK324 HB hx325_0 hHeld ⊢
     refine Z.pv 0 23 16 1 HT_.out ?_
     refine Z.pv 1 24 16 3 HT_.out ?_
     refine Z.pv 3 26 16 11 HT_.out ?_
     refine Z.pv 7 30 16 139 HT_.out ?_
     refine Z.pv 10 33 16 1163 HT_.out ?_
     refine Z.t6 2 25 16 1167 HT_.out HW_.out hHeld ?_
     refine Z.t6 4 27 16 1183 HT_.out HW_.out hHeld ?_
     refine Z.pv 5 28 16 1215 HT_.out ?_
     refine Z.t6 6 29 16 1279 HT_.out HW_.out hHeld ?_
     refine Z.pv 8 31 16 1535 HT_.out ?_
     refine Z.t6 11 34 16 3583 HT_.out HW_.out hHeld ?_
     refine one_ (i := 9) (N := some 32) (Z.mb 16 4095) rfl rfl (one_of HT_.out (by kernel_rfl)) (by decide) (fun K hK => ?_)
     refine goes_ Try.func23 (by kernel_rfl) rfl #[.int .i64 (Go.bits .and .i64 (rd l0_1 ((rd_T35 l1 x16_1).f1)) a2)] (by rfl) rfl rfl Z.ar ?_
     with_reducible refine (impl_headsOf.calls (Go.bits .and .i64 (rd l0_1 ((rd_T35 l1 x16_1).f1)) a2) t326 _ A13.out).mono ?_
     rintro e w' ⟨rfl, ⟨nd, rfl⟩⟩
     refine ⟨_, rfl, ?_⟩
     refine hK.out _ _ ⟨(blk_cell BK318.out 0).trans rfl, (blk_cell BK318.out 1).trans rfl, (blk_cell BK324.out 0).trans rfl, (blk_cell BK324.out 1).trans rfl, (blk_cell BK324.out 2).trans rfl, (Z.up HB.out hw325_0 :)⟩ (fun hHeld => ?_)
     clear hK K
     refine Z.nm ?_
     refine Z.pv 12 35 16 8191 HT_.out ?_
     refine one_ (i := 13) (N := some 36) (Z.mb 16 16383) rfl rfl (one_of HT_.out (by kernel_rfl)) (by decide) (fun K hK => ?_)
     refine value_ (w1 := ?_) (v := ?_) (by rfl) rfl ?_ ?_
     rotate_left 2
     ·go_simp
      constructor
      ·rfl
      ·rfl
     refine hK.out _ _ ⟨(blk_cell (blk_alloc BK318.out _) 0).trans rfl, (blk_cell (blk_alloc BK318.out _) 1).trans rfl, (blk_cell (blk_alloc BK324.out _) 0).trans rfl, (blk_cell (blk_alloc BK324.out _) 1).trans rfl, (blk_cell (blk_alloc BK324.out _) 2).trans rfl, (World.cell?_alloc_lt _ _ _ (World.block_lt_of_cell? _ _ ((Z.up HB.out hw325_0 :)))).trans ((Z.up HB.out hw325_0 :))⟩ (fun hHeld => ?_)
     clear hK K
     refine Z.nm ?_
     refine one_ (i := 14) (N := some 37) (Z.mb 16 32767) rfl rfl (one_of HT_.out (by kernel_rfl)) (by decide) (fun K hK => ?_)
     refine Kd.R_append_step Kd.bool (w0 := w) w.heap.size (by rfl) (.tmp 23) (.tmp 36) 59 4 (.bool false) 1 rfl Try.underlying59 info4 rfl (by decide) (by omega) u7 x7_1 (decide (t326 ≥ ((rd_T35 l1 x16_1).f2))) [.bool (decide (t326 ≥ ((rd_T35 l1 x16_1).f2)))] (fun _ => True) (fun _ => False) rfl rfl ?aP (fun _ hk => hk.elim) ?aF ?aO ?aB ?aS ?aL ?_
     (case aP => exact rfl)
     (case aB => exact (by repeat (first | (with_reducible first | exact HB.out | apply below_alloc | apply pw_below_drewN | apply below_drew1 | refine below_set ?_ GE318.out | refine below_set ?_ GE324.out) | exact HB.out)))
     (case aF => exact (fun _ _ => trivial))
     (case aO => exact (by (with_reducible repeat (first | apply Kd.R_alloc | apply Kd.R_drewN | apply Kd.R_drew)); exact HO_7.out))
     (case aS => exact (below_size (by repeat (first | (with_reducible first | exact HB.out | apply below_alloc | apply pw_below_drewN | apply below_drew1 | refine below_set ?_ GE318.out | refine below_set ?_ GE324.out) | exact HB.out))))
     (case aL => have := LMc14.out; omega)
     intro v328 w20 ho hb hg hat
     rw [← Ny327.out] at ho
     replace BK318 := Aside0.mk (blk_grown (g := gb318) (o := .cells #[.int .i64 a0_0, .slice (some ad325) l0_1.length c0_1] 25 (0, 0)) (Z.bk BK318.out) hg (Kd.R_ne HO_7.out BK318.out (by decide)))
     replace BK324 := Aside0.mk (blk_grown (g := gb324) (o := .cells #[.int .i64 ((rd_T35 l1 x16_1).f0), .int .i64 ((rd_T35 l1 x16_1).f1), .int .i64 ((rd_T35 l1 x16_1).f2)] 35 (0, 0)) (Z.bk BK324.out) hg (Kd.R_ne HO_7.out BK324.out (by decide)))
     replace HB := Aside0.mk (hb)
     have HO329 := Aside0.mk (ho)
     clear HO_7
     clear ho hb hg hat
     refine hK.out _ _ ⟨(blk_cell BK318.out 0).trans rfl, (blk_cell BK318.out 1).trans rfl, (blk_cell BK324.out 0).trans rfl, (blk_cell BK324.out 1).trans rfl, (blk_cell BK324.out 2).trans rfl, (Z.up HB.out hw325_0 :)⟩ (fun hHeld => ?_)
     clear hK K
     refine Z.nm ?_
     refine Z.pv 15 7 16 65535 HT_.out ?_
     refine done_ (done_of HT_.out (by kernel_rfl)) ?_
     try go_wp2
     go_roundg k1
     case measure => have := HK1.out; omega
     case rel => exact ⟨(y327), (wrap64 (x16_1 + 1)), (by first | rfl | (simp; done) | (simp [*]; done)), H', ⟨by have := HK1.out; omega⟩, ⟨by (with_reducible repeat (first | apply Kd.R_alloc | apply Kd.R_drewN | apply Kd.R_drew)); exact HO329.out⟩, ⟨by (with_reducible repeat (first | refine blk_drewN ?_ _ | refine blk_drew ?_ | refine blk_alloc ?_ _)); exact BK318.out⟩, ⟨by repeat (first | (with_reducible first | exact HB.out | apply below_alloc | apply pw_below_drewN | apply below_drew1 | refine below_set ?_ GE318.out | refine below_set ?_ GE324.out) | exact HB.out)⟩⟩
    ·rw [if_neg c10] at H
     have c10b0 : (((rd_T35 l1 x16_1).f0) == 0) = false := beq_eq_false_iff_ne.mpr c10
     have c10b1 : (((rd_T35 l1 x16_1).f0) != 0) = true := bne_iff_ne.mpr c10
     obtain ⟨ji21, hji21⟩ : ∃ j_ : Int, (wrap64 ((x7_1.length : Int) - 2)) = j_ := ⟨_, rfl⟩
     replace H : (if 0 ≤ (ji21) then (if (ji21) < (x7_1.length : Int) then (if 0 ≤ (wrap64 ((x7_1.length : Int) - 1)) then (if (wrap64 ((x7_1.length : Int) - 1)) < (x7_1.length : Int) then (if rdOf false x7_1 (ji21) = true then (if ((rd_T35 l1 x16_1).f0) = 2 then (if (ji21) ≤ (x7_1.length : Int) then ((some (x7_1.take ((ji21) : Int).toNat : List Bool)).bind fun y332 => (if y332.length < 140737488355328 then (impl_consents.l0 k1 a2 (y332 ++ [true]) l1 (l1.length : Int) (wrap64 (x16_1 + 1)) a0_0 l0_1) else (none))) else (none)) else (if (ji21) ≤ (x7_1.length : Int) then ((some (x7_1.take ((ji21) : Int).toNat : List Bool)).bind fun y338 => (if y338.length < 140737488355328 then (impl_consents.l0 k1 a2 (y338 ++ [rdOf false x7_1 (wrap64 ((x7_1.length : Int) - 1))]) l1 (l1.length : Int) (wrap64 (x16_1 + 1)) a0_0 l0_1) else (none))) else (none))) else (if ((rd_T35 l1 x16_1).f0) = 2 then (if (ji21) ≤ (x7_1.length : Int) then ((some (x7_1.take ((ji21) : Int).toNat : List Bool)).bind fun y344 => (if y344.length < 140737488355328 then (impl_consents.l0 k1 a2 (y344 ++ [rdOf false x7_1 (wrap64 ((x7_1.length : Int) - 1))]) l1 (l1.length : Int) (wrap64 (x16_1 + 1)) a0_0 l0_1) else (none))) else (none)) else (if (ji21) ≤ (x7_1.length : Int) then ((some (x7_1.take ((ji21) : Int).toNat : List Bool)).bind fun y350 => (if y350.length < 140737488355328 then (impl_consents.l0 k1 a2 (y350 ++ [false]) l1 (l1.length : Int) (wrap64 (x16_1 + 1)) a0_0 l0_1) else (none))) else (none)))) else (none)) else (none)) else (none)) else (none)) = some r := by first | (rw [hji21] at H; exact H) | (simp only [hji21] at H ⊢; exact H)
     have hji21w : (IntKind.i64.wrap ((x7_1.length : Int) - 2)) = ji21 := (i64_w _).trans hji21
     obtain ⟨c22, H⟩ := Z.ifp H
     have c22b0 : decide (0 ≤ (ji21)) = true := decide_eq_true c22
     clear c22
     obtain ⟨c23, H⟩ := Z.ifp H
     have c23b0 : decide ((ji21) < (x7_1.length : Int)) = true := decide_eq_true c23
     clear c23
     obtain ⟨ji24, hji24⟩ : ∃ j_ : Int, (wrap64 ((x7_1.length : Int) - 1)) = j_ := ⟨_, rfl⟩
     replace H : (if 0 ≤ (ji24) then (if (ji24) < (x7_1.length : Int) then (if rdOf false x7_1 (ji21) = true then (if ((rd_T35 l1 x16_1).f0) = 2 then (if (ji21) ≤ (x7_1.length : Int) then ((some (x7_1.take ((ji21) : Int).toNat : List Bool)).bind fun y332 => (if y332.length < 140737488355328 then (impl_consents.l0 k1 a2 (y332 ++ [true]) l1 (l1.length : Int) (wrap64 (x16_1 + 1)) a0_0 l0_1) else (none))) else (none)) else (if (ji21) ≤ (x7_1.length : Int) then ((some (x7_1.take ((ji21) : Int).toNat : List Bool)).bind fun y338 => (if y338.length < 140737488355328 then (impl_consents.l0 k1 a2 (y338 ++ [rdOf false x7_1 (ji24)]) l1 (l1.length : Int) (wrap64 (x16_1 + 1)) a0_0 l0_1) else (none))) else (none))) else (if ((rd_T35 l1 x16_1).f0) = 2 then (if (ji21) ≤ (x7_1.length : Int) then ((some (x7_1.take ((ji21) : Int).toNat : List Bool)).bind fun y344 => (if y344.length < 140737488355328 then (impl_consents.l0 k1 a2 (y344 ++ [rdOf false x7_1 (ji24)]) l1 (l1.length : Int) (wrap64 (x16_1 + 1)) a0_0 l0_1) else (none))) else (none)) else (if (ji21) ≤ (x7_1.length : Int) then ((some (x7_1.take ((ji21) : Int).toNat : List Bool)).bind fun y350 => (if y350.length < 140737488355328 then (impl_consents.l0 k1 a2 (y350 ++ [false]) l1 (l1.length : Int) (wrap64 (x16_1 + 1)) a0_0 l0_1) else (none))) else (none)))) else (none)) else (none)) = some r := by first | (rw [hji24] at H; exact H) | (simp only [hji24] at H ⊢; exact H)
     have hji24w : (IntKind.i64.wrap ((x7_1.length : Int) - 1)) = ji24 := (i64_w _).trans hji24
     obtain ⟨c25, H⟩ := Z.ifp H
     have c25b0 : decide (0 ≤ (ji24)) = true := decide_eq_true c25
     clear c25
     obtain ⟨c26, H⟩ := Z.ifp H
     have c26b0 : decide ((ji24) < (x7_1.length : Int)) = true := decide_eq_true c26
     clear c26
     obtain ⟨bq27, hbq27⟩ : ∃ b_ : Bool, b_ = (rdOf false x7_1 (ji21)) := ⟨_, rfl⟩
     replace H : (if bq27 = true then (if ((rd_T35 l1 x16_1).f0) = 2 then (if (ji21) ≤ (x7_1.length : Int) then ((some (x7_1.take ((ji21) : Int).toNat : List Bool)).bind fun y332 => (if y332.length < 140737488355328 then (impl_consents.l0 k1 a2 (y332 ++ [true]) l1 (l1.length : Int) (wrap64 (x16_1 + 1)) a0_0 l0_1) else (none))) else (none)) else (if (ji21) ≤ (x7_1.length : Int) then ((some (x7_1.take ((ji21) : Int).toNat : List Bool)).bind fun y338 => (if y338.length < 140737488355328 then (impl_consents.l0 k1 a2 (y338 ++ [rdOf false x7_1 (ji24)]) l1 (l1.length : Int) (wrap64 (x16_1 + 1)) a0_0 l0_1) else (none))) else (none))) else (if ((rd_T35 l1 x16_1).f0) = 2 then (if (ji21) ≤ (x7_1.length : Int) then ((some (x7_1.take ((ji21) : Int).toNat : List Bool)).bind fun y344 => (if y344.length < 140737488355328 then (impl_consents.l0 k1 a2 (y344 ++ [rdOf false x7_1 (ji24)]) l1 (l1.length : Int) (wrap64 (x16_1 + 1)) a0_0 l0_1) else (none))) else (none)) else (if (ji21) ≤ (x7_1.length : Int) then ((some (x7_1.take ((ji21) : Int).toNat : List Bool)).bind fun y350 => (if y350.length < 140737488355328 then (impl_consents.l0 k1 a2 (y350 ++ [false]) l1 (l1.length : Int) (wrap64 (x16_1 + 1)) a0_0 l0_1) else (none))) else (none)))) = some r := by rw [← hbq27] at H; exact H
     have Nbq27 := Aside0.mk hbq27
     clear hbq27
     by_cases c28 : bq27 = true
     ·subst c28
      rw [if_pos rfl] at H
      by_cases c29 : ((rd_T35 l1 x16_1).f0) = 2
      ·rw [if_pos c29] at H
       have c29b0 : (((rd_T35 l1 x16_1).f0) == 2) = true := beq_iff_eq.mpr c29
       have c29b1 : (((rd_T35 l1 x16_1).f0) != 2) = false := bne_eq_false_iff_eq.mpr c29
       clear c29
       obtain ⟨c30, H⟩ := Z.ifp H
       have c30b0 := eq_true c30
       have c30b1 : decide ((ji21) ≤ (x7_1.length : Int)) = true := decide_eq_true c30
       clear c30
       obtain ⟨y332, hy332⟩ : ∃ y_ : List Bool, y_ = (x7_1.take ((ji21) : Int).toNat) := ⟨_, rfl⟩
       replace H : (if y332.length < 140737488355328 then (impl_consents.l0 k1 a2 (y332 ++ [true]) l1 (l1.length : Int) (wrap64 (x16_1 + 1)) a0_0 l0_1) else (none)) = some r := by first | (rw [hy332]; with_reducible exact H) | (have H2_ := (Option.bind_some _ _).symm.trans H; rw [hy332]; with_reducible exact H2_) | (have H2_ := (Option.bind_some _ _).symm.trans H; with_reducible exact H2_) | with_reducible exact H | (rw [hy332]; exact H) | exact H
       have Ny332 := Aside0.mk hy332
       clear hy332
       obtain ⟨c31, H⟩ := Z.ifp H
       have LMc31 := Aside0.mk c31
       clear c31
       obtain ⟨y335, hy335⟩ : ∃ y_ : List Bool, y_ = (y332 ++ [true]) := ⟨_, rfl⟩
       replace H : (impl_consents.l0 k1 a2 y335 l1 (l1.length : Int) (wrap64 (x16_1 + 1)) a0_0 l0_1) = some r := by first | (rw [hy335]; with_reducible exact H) | (have H2_ := (Option.bind_some _ _).symm.trans H; rw [hy335]; with_reducible exact H2_) | (have H2_ := (Option.bind_some _ _).symm.trans H; with_reducible exact H2_) | with_reducible exact H | (rw [hy335]; exact H) | exact H
       have Ny335 := Aside0.mk hy335
       clear hy335
       have H' := Aside0.mk H
       clear H
       have p323 : 0 ≤ (x16_1 : Int) := Z.od
       have q323 : x16_1 < (l1.length : Int) := Z.od
       obtain ⟨ad323, rfl, hx323_0, hx323_1, hx323_2⟩ := at_T35 HR1.out x16_1 p323 q323
       replace hx323_0 := Z.up HB.out hx323_0
       replace hx323_1 := Z.up HB.out hx323_1
       replace hx323_2 := Z.up HB.out hx323_2
       replace p323 := eq_true p323
       replace q323 := eq_true q323
       try go_wp2_with (first | ((with_reducible refine gate_dst (N := 9) rfl ?_); refine Z.bz #[.int .i64 0, .int .i64 0, .int .i64 0] 35 HB GE318 ?_; clear HB; intro gb324 w32 BK324 GE324 HB hg hb; have GW324 := GE324; replace HO_7 := Aside0.mk (Kd.R_below (by (with_reducible repeat (first | apply Kd.R_alloc | apply Kd.R_drewN | apply Kd.R_drew)); exact HO_7.out) hb); have NB318_324 := Z.nl hg BK318; have NB324_318 := Z.ng hg BK318; replace BK318 := Z.bb BK318 hb; clear hb hg; have hnb33 := NB324_318.out; have hnc33 := NB318_324.out; have hcz34 := Z.c3 BK324.out))
       have n0_ : Aside0 (Kd.R Kd.bool 4 (((w32.setCell ⟨gb324, 0, none⟩ (.int .i64 ((rd_T35 l1 x16_1).f0))).setCell ⟨gb324, 1, none⟩ (.int .i64 ((rd_T35 l1 x16_1).f1))).setCell ⟨gb324, 2, none⟩ (.int .i64 ((rd_T35 l1 x16_1).f2))) w.heap.size (fun _ => True) u7 x7_1) := ⟨by (with_reducible repeat (first | apply Kd.R_alloc | apply Kd.R_drewN | apply Kd.R_drew)); exact Kd.R_mono (Kd.R_far (p := ⟨gb324, 2, none⟩) (Kd.R_far (p := ⟨gb324, 1, none⟩) (Kd.R_far (p := ⟨gb324, 0, none⟩) (Kd.R_types HO_7.out BK324.out (by decide)) (fun _ hk => hk.2) (.int .i64 ((rd_T35 l1 x16_1).f0))) (fun _ hk => hk.2) (.int .i64 ((rd_T35 l1 x16_1).f1))) (fun _ hk => hk.2) (.int .i64 ((rd_T35 l1 x16_1).f2))) (fun _ hk => trivial)⟩
       have n1_ : Aside0 ((((w32.setCell ⟨gb324, 0, none⟩ (.int .i64 ((rd_T35 l1 x16_1).f0))).setCell ⟨gb324, 1, none⟩ (.int .i64 ((rd_T35 l1 x16_1).f1))).setCell ⟨gb324, 2, none⟩ (.int .i64 ((rd_T35 l1 x16_1).f2))).heap[gb318]? = some (.cells #[.int .i64 a0_0, .slice A0_1 l0_1.length c0_1] 25 (0, 0))) := ⟨by (with_reducible repeat (first | refine blk_drewN ?_ _ | refine blk_drew ?_ | refine blk_alloc ?_ _)); refine blk_far ?_ NB318_324.out _; (with_reducible repeat (first | refine blk_drewN ?_ _ | refine blk_drew ?_ | refine blk_alloc ?_ _)); refine blk_far ?_ NB318_324.out _; (with_reducible repeat (first | refine blk_drewN ?_ _ | refine blk_drew ?_ | refine blk_alloc ?_ _)); refine blk_far ?_ NB318_324.out _; (with_reducible repeat (first | refine blk_drewN ?_ _ | refine blk_drew ?_ | refine blk_alloc ?_ _)); exact BK318.out⟩
       have n2_ : Aside0 ((((w32.setCell ⟨gb324, 0, none⟩ (.int .i64 ((rd_T35 l1 x16_1).f0))).setCell ⟨gb324, 1, none⟩ (.int .i64 ((rd_T35 l1 x16_1).f1))).setCell ⟨gb324, 2, none⟩ (.int .i64 ((rd_T35 l1 x16_1).f2))).heap[gb324]? = some (.cells #[.int .i64 ((rd_T35 l1 x16_1).f0), .int .i64 ((rd_T35 l1 x16_1).f1), .int .i64 ((rd_T35 l1 x16_1).f2)] 35 (0, 0))) := ⟨by (with_reducible repeat (first | refine blk_drewN ?_ _ | refine blk_drew ?_ | refine blk_alloc ?_ _)); refine blk_put (cs := #[.int .i64 ((rd_T35 l1 x16_1).f0), .int .i64 ((rd_T35 l1 x16_1).f1), .int .i64 0]) ?_ 2 _ rfl; (with_reducible repeat (first | refine blk_drewN ?_ _ | refine blk_drew ?_ | refine blk_alloc ?_ _)); refine blk_put (cs := #[.int .i64 ((rd_T35 l1 x16_1).f0), .int .i64 0, .int .i64 0]) ?_ 1 _ rfl; (with_reducible repeat (first | refine blk_drewN ?_ _ | refine blk_drew ?_ | refine blk_alloc ?_ _)); refine blk_put (cs := #[.int .i64 0, .int .i64 0, .int .i64 0]) ?_ 0 _ rfl; (with_reducible repeat (first | refine blk_drewN ?_ _ | refine blk_drew ?_ | refine blk_alloc ?_ _)); exact BK324.out⟩
       have n3_ : Aside0 (Below w.heap.size w (((w32.setCell ⟨gb324, 0, none⟩ (.int .i64 ((rd_T35 l1 x16_1).f0))).setCell ⟨gb324, 1, none⟩ (.int .i64 ((rd_T35 l1 x16_1).f1))).setCell ⟨gb324, 2, none⟩ (.int .i64 ((rd_T35 l1 x16_1).f2)))) := ⟨by repeat (first | (with_reducible first | exact HB.out | apply below_alloc | apply pw_below_drewN | apply below_drew1 | refine below_set ?_ GE318.out | refine below_set ?_ GE324.out) | exact HB.out)⟩
       (try clear HO_7)
       (try clear BK318)
       (try clear BK324)
       (try clear HB)
       generalize (((w32.setCell ⟨gb324, 0, none⟩ (.int .i64 ((rd_T35 l1 x16_1).f0))).setCell ⟨gb324, 1, none⟩ (.int .i64 ((rd_T35 l1 x16_1).f1))).setCell ⟨gb324, 2, none⟩ (.int .i64 ((rd_T35 l1 x16_1).f2))) = w35 at n0_ n1_ n2_ n3_ ⊢
       have HO_7 := n0_
       have BK318 := n1_
       have BK324 := n2_
       have HB := n3_
       clear n0_ n1_ n2_ n3_
       replace HO_7 := Aside0.mk (Kd.R_drew HO_7.out)
       replace BK318 := Aside0.mk (blk_drew BK318.out)
       replace BK324 := Aside0.mk (blk_drew BK324.out)
       replace HB := Aside0.mk (below_drew1 HB.out)
       obtain ⟨Ao37, co37, eo37⟩ := Kd.R_slice HO_7.out
       (first | subst eo37 | (injection eo37 with f1_ f2_ f3_; have f4_ := f1_.symm; have f5_ := f3_.symm; clear f1_ f2_ f3_; subst f4_; subst f5_))
       have p330 : 0 ≤ ((ji21) : Int) := Z.od
       have q330 : (ji21) < (x7_1.length : Int) := Z.od
       obtain ⟨ad330, e330, hx330_0⟩ := Kd.at_bool (Kd.R_reads' HO_7.out).2.2 (ji21) p330 q330
       (try rw [← Nbq27.out] at hx330_0)
       cases e330
       replace p330 := eq_true p330
       replace q330 := eq_true q330
       have p331 : 0 ≤ ((ji24) : Int) := Z.od
       have q331 : (ji24) < (x7_1.length : Int) := Z.od
       obtain ⟨ad331, e331, hx331_0⟩ := Kd.at_bool (Kd.R_reads' HO_7.out).2.2 (ji24) p331 q331
       (try rw [← Nbq27.out] at hx331_0)
       obtain rfl : ad330 = ad331 := (by injection e331)
       replace p331 := eq_true p331
       replace q331 := eq_true q331
       refine start_ (n := 14) (S := fun w' => w'.cell? (ad330.add ((ji21)).toNat) = some (.bool true) ∧ w'.cell? (ad330.add ((ji24)).toNat) = some (.bool (rdOf false x7_1 (ji24)))) (ds := []) #[false, false, false, false, false, false, false, false, false, false, false, false, false, false] (by kernel_rfl) rfl rfl ⟨hx330_0, hx331_0⟩ (fun hHeld => ?_); refine with_tabW impl_consents.tab7 impl_consents.bits7 (fun HT_ HW_ => ?_)
       generalize w35.drew = w36 at HO_7 BK318 BK324 HB hx330_0 hx331_0 hHeld ⊢
       refine Z.pv 0 38 14 1 HT_.out ?_
       refine Z.pv 1 39 14 3 HT_.out ?_
       refine Z.pv 2 40 14 7 HT_.out ?_
       refine Z.pv 3 41 14 15 HT_.out ?_
       refine Z.pv 4 42 14 31 HT_.out ?_
       refine Z.pv 6 44 14 95 HT_.out ?_
       refine Z.pv 7 45 14 223 HT_.out ?_
       refine Z.pv 8 46 14 479 HT_.out ?_
       refine Z.pv 9 47 14 991 HT_.out ?_
       refine Z.pv 10 48 14 2015 HT_.out ?_
       refine Z.t2 5 43 14 2047 HT_.out HW_.out hHeld ?_
       refine Z.pv 12 10 14 6143 HT_.out ?_
       refine Z.t2 11 49 14 8191 HT_.out HW_.out hHeld ?_
       refine Z.pv 13 11 14 16383 HT_.out ?_
       refine done_ (done_of HT_.out (by kernel_rfl)) ?_
       have hcz38 := Z.c3 BK324.out
       have q39 : ((ji21) : Int) ≤ ((x7_1.length : Int) : Int) := Z.od
       obtain ⟨i039, hi039, _, hsz39, _⟩ := info_parts info4
       have hcut39 := cut_to (P := Try.prog) 59 4 .i64 Try.underlying59 hi039 (some ad330) x7_1.length co37 (ji21) (Z.od) q39 (Kd.R_reads' HO_7.out).2.1
       have hr39 := Kd.R_take (m := ((ji21) : Int).toNat) HO_7.out (by omega)
       have hy39 : y332.length = ((ji21) : Int).toNat := (by rw [Ny332.out, List.length_take]; omega)
       rw [← Ny332.out] at hr39
       rw [← hy39] at hr39 hcut39
       clear hy39 hi039 hsz39 HO_7
       have HO334 := Aside0.mk hr39
       clear hr39
       replace q39 := eq_true q39
       try go_wp2_with (first | ((with_reducible refine gate_builtin (b := .append) (xs := #[.tmp 65, .tmp 67]) rfl ?_); at_builtin; refine Kd.R_append Kd.bool (w0 := w) w.heap.size rfl (.tmp 65) (.tmp 67) 59 4 (.bool false) 1 rfl Try.underlying59 info4 rfl (by decide) (by omega) (.slice (some ad330) y332.length co37) y332 true [.bool true] (fun _ => True) (fun _ => False) rfl rfl ?aP (fun _ hk => hk.elim) ?aF ?aO ?aB ?aS ?aL ?_; (case aP => exact rfl); (case aB => exact (by repeat (first | (with_reducible first | exact HB.out | apply below_alloc | apply pw_below_drewN | apply below_drew1 | refine below_set ?_ GE318.out | refine below_set ?_ GE324.out) | exact HB.out))); (case aF => exact (fun _ _ => trivial)); (case aO => exact (by (with_reducible repeat (first | apply Kd.R_alloc | apply Kd.R_drewN | apply Kd.R_drew)); exact HO334.out)); (case aS => exact (below_size (by repeat (first | (with_reducible first | exact HB.out | apply below_alloc | apply pw_below_drewN | apply below_drew1 | refine below_set ?_ GE318.out | refine below_set ?_ GE324.out) | exact HB.out)))); (case aL => have := LMc31.out; omega); intro v336 w40 ho hb hg hat; rw [← Ny335.out] at ho; replace BK318 := Aside0.mk (blk_grown (g := gb318) (o := .cells #[.int .i64 a0_0, .slice A0_1 l0_1.length c0_1] 25 (0, 0)) (Z.bk BK318.out) hg (Kd.R_ne HO334.out BK318.out (by decide))); replace BK324 := Aside0.mk (blk_grown (g := gb324) (o := .cells #[.int .i64 ((rd_T35 l1 x16_1).f0), .int .i64 ((rd_T35 l1 x16_1).f1), .int .i64 ((rd_T35 l1 x16_1).f2)] 35 (0, 0)) (Z.bk BK324.out) hg (Kd.R_ne HO334.out BK324.out (by decide))); replace HB := Aside0.mk (hb); have HO337 := Aside0.mk (ho); clear HO334; clear ho hb hg hat))
       go_roundg k1
       case measure => have := HK1.out; omega
       case rel => exact ⟨(y335), (wrap64 (x16_1 + 1)), (by first | rfl | (simp; done) | (simp [*]; done)), H', ⟨by have := HK1.out; omega⟩, ⟨by (with_reducible repeat (first | apply Kd.R_alloc | apply Kd.R_drewN | apply Kd.R_drew)); exact HO337.out⟩, ⟨by (with_reducible repeat (first | refine blk_drewN ?_ _ | refine blk_drew ?_ | refine blk_alloc ?_ _)); exact BK318.out⟩, ⟨by repeat (first | (with_reducible first | exact HB.out | apply below_alloc | apply pw_below_drewN | apply below_drew1 | refine below_set ?_ GE318.out | refine below_set ?_ GE324.out) | exact HB.out)⟩⟩
      ·rw [if_neg c29] at H
       have c29b0 : (((rd_T35 l1 x16_1).f0) == 2) = false := beq_eq_false_iff_ne.mpr c29
       have c29b1 : (((rd_T35 l1 x16_1).f0) != 2) = true := bne_iff_ne.mpr c29
       obtain ⟨c41, H⟩ := Z.ifp H
       have c41b0 := eq_true c41
       have c41b1 : decide ((ji21) ≤ (x7_1.length : Int)) = true := decide_eq_true c41
       clear c41
       obtain ⟨y338, hy338⟩ : ∃ y_ : List Bool, y_ = (x7_1.take ((ji21) : Int).toNat) := ⟨_, rfl⟩
       replace H : (if y338.length < 140737488355328 then (impl_consents.l0 k1 a2 (y338 ++ [rdOf false x7_1 (ji24)]) l1 (l1.length : Int) (wrap64 (x16_1 + 1)) a0_0 l0_1) else (none)) = some r := by first | (rw [hy338]; with_reducible exact H) | (have H2_ := (Option.bind_some _ _).symm.trans H; rw [hy338]; with_reducible exact H2_) | (have H2_ := (Option.bind_some _ _).symm.trans H; with_reducible exact H2_) | with_reducible exact H | (rw [hy338]; exact H) | exact H
       have Ny338 := Aside0.mk hy338
       clear hy338
       obtain ⟨c42, H⟩ := Z.ifp H
       have LMc42 := Aside0.mk c42
       clear c42
       obtain ⟨y341, hy341⟩ : ∃ y_ : List Bool, y_ = (y338 ++ [rdOf false x7_1 (ji24)]) := ⟨_, rfl⟩
       replace H : (impl_consents.l0 k1 a2 y341 l1 (l1.length : Int) (wrap64 (x16_1 + 1)) a0_0 l0_1) = some r := by first | (rw [hy341]; with_reducible exact H) | (have H2_ := (Option.bind_some _ _).symm.trans H; rw [hy341]; with_reducible exact H2_) | (have H2_ := (Option.bind_some _ _).symm.trans H; with_reducible exact H2_) | with_reducible exact H | (rw [hy341]; exact H) | exact H
       have Ny341 := Aside0.mk hy341
       clear hy341
       have H' := Aside0.mk H
       clear H
       have p323 : 0 ≤ (x16_1 : Int) := Z.od
       have q323 : x16_1 < (l1.length : Int) := Z.od
       obtain ⟨ad323, rfl, hx323_0, hx323_1, hx323_2⟩ := at_T35 HR1.out x16_1 p323 q323
       replace hx323_0 := Z.up HB.out hx323_0
       replace hx323_1 := Z.up HB.out hx323_1
       replace hx323_2 := Z.up HB.out hx323_2
       replace p323 := eq_true p323
       replace q323 := eq_true q323
       try go_wp2_with (first | ((with_reducible refine gate_dst (N := 9) rfl ?_); refine Z.bz #[.int .i64 0, .int .i64 0, .int .i64 0] 35 HB GE318 ?_; clear HB; intro gb324 w43 BK324 GE324 HB hg hb; have GW324 := GE324; replace HO_7 := Aside0.mk (Kd.R_below (by (with_reducible repeat (first | apply Kd.R_alloc | apply Kd.R_drewN | apply Kd.R_drew)); exact HO_7.out) hb); have NB318_324 := Z.nl hg BK318; have NB324_318 := Z.ng hg BK318; replace BK318 := Z.bb BK318 hb; clear hb hg; have hnb44 := NB324_318.out; have hnc44 := NB318_324.out; have hcz45 := Z.c3 BK324.out))
       have n0_ : Aside0 (Kd.R Kd.bool 4 (((w43.setCell ⟨gb324, 0, none⟩ (.int .i64 ((rd_T35 l1 x16_1).f0))).setCell ⟨gb324, 1, none⟩ (.int .i64 ((rd_T35 l1 x16_1).f1))).setCell ⟨gb324, 2, none⟩ (.int .i64 ((rd_T35 l1 x16_1).f2))) w.heap.size (fun _ => True) u7 x7_1) := ⟨by (with_reducible repeat (first | apply Kd.R_alloc | apply Kd.R_drewN | apply Kd.R_drew)); exact Kd.R_mono (Kd.R_far (p := ⟨gb324, 2, none⟩) (Kd.R_far (p := ⟨gb324, 1, none⟩) (Kd.R_far (p := ⟨gb324, 0, none⟩) (Kd.R_types HO_7.out BK324.out (by decide)) (fun _ hk => hk.2) (.int .i64 ((rd_T35 l1 x16_1).f0))) (fun _ hk => hk.2) (.int .i64 ((rd_T35 l1 x16_1).f1))) (fun _ hk => hk.2) (.int .i64 ((rd_T35 l1 x16_1).f2))) (fun _ hk => trivial)⟩
       have n1_ : Aside0 ((((w43.setCell ⟨gb324, 0, none⟩ (.int .i64 ((rd_T35 l1 x16_1).f0))).setCell ⟨gb324, 1, none⟩ (.int .i64 ((rd_T35 l1 x16_1).f1))).setCell ⟨gb324, 2, none⟩ (.int .i64 ((rd_T35 l1 x16_1).f2))).heap[gb318]? = some (.cells #[.int .i64 a0_0, .slice A0_1 l0_1.length c0_1] 25 (0, 0))) := ⟨by (with_reducible repeat (first | refine blk_drewN ?_ _ | refine blk_drew ?_ | refine blk_alloc ?_ _)); refine blk_far ?_ NB318_324.out _; (with_reducible repeat (first | refine blk_drewN ?_ _ | refine blk_drew ?_ | refine blk_alloc ?_ _)); refine blk_far ?_ NB318_324.out _; (with_reducible repeat (first | refine blk_drewN ?_ _ | refine blk_drew ?_ | refine blk_alloc ?_ _)); refine blk_far ?_ NB318_324.out _; (with_reducible repeat (first | refine blk_drewN ?_ _ | refine blk_drew ?_ | refine blk_alloc ?_ _)); exact BK318.out⟩
       have n2_ : Aside0 ((((w43.setCell ⟨gb324, 0, none⟩ (.int .i64 ((rd_T35 l1 x16_1).f0))).setCell ⟨gb324, 1, none⟩ (.int .i64 ((rd_T35 l1 x16_1).f1))).setCell ⟨gb324, 2, none⟩ (.int .i64 ((rd_T35 l1 x16_1).f2))).heap[gb324]? = some (.cells #[.int .i64 ((rd_T35 l1 x16_1).f0), .int .i64 ((rd_T35 l1 x16_1).f1), .int .i64 ((rd_T35 l1 x16_1).f2)] 35 (0, 0))) := ⟨by (with_reducible repeat (first | refine blk_drewN ?_ _ | refine blk_drew ?_ | refine blk_alloc ?_ _)); refine blk_put (cs := #[.int .i64 ((rd_T35 l1 x16_1).f0), .int .i64 ((rd_T35 l1 x16_1).f1), .int .i64 0]) ?_ 2 _ rfl; (with_reducible repeat (first | refine blk_drewN ?_ _ | refine blk_drew ?_ | refine blk_alloc ?_ _)); refine blk_put (cs := #[.int .i64 ((rd_T35 l1 x16_1).f0), .int .i64 0, .int .i64 0]) ?_ 1 _ rfl; (with_reducible repeat (first | refine blk_drewN ?_ _ | refine blk_drew ?_ | refine blk_alloc ?_ _)); refine blk_put (cs := #[.int .i64 0, .int .i64 0, .int .i64 0]) ?_ 0 _ rfl; (with_reducible repeat (first | refine blk_drewN ?_ _ | refine blk_drew ?_ | refine blk_alloc ?_ _)); exact BK324.out⟩
       have n3_ : Aside0 (Below w.heap.size w (((w43.setCell ⟨gb324, 0, none⟩ (.int .i64 ((rd_T35 l1 x16_1).f0))).setCell ⟨gb324, 1, none⟩ (.int .i64 ((rd_T35 l1 x16_1).f1))).setCell ⟨gb324, 2, none⟩ (.int .i64 ((rd_T35 l1 x16_1).f2)))) := ⟨by repeat (first | (with_reducible first | exact HB.out | apply below_alloc | apply pw_below_drewN | apply below_drew1 | refine below_set ?_ GE318.out | refine below_set ?_ GE324.out) | exact HB.out)⟩
       (try clear HO_7)
       (try clear BK318)
       (try clear BK324)
       (try clear HB)
       generalize (((w43.setCell ⟨gb324, 0, none⟩ (.int .i64 ((rd_T35 l1 x16_1).f0))).setCell ⟨gb324, 1, none⟩ (.int .i64 ((rd_T35 l1 x16_1).f1))).setCell ⟨gb324, 2, none⟩ (.int .i64 ((rd_T35 l1 x16_1).f2))) = w46 at n0_ n1_ n2_ n3_ ⊢
       have HO_7 := n0_
       have BK318 := n1_
       have BK324 := n2_
       have HB := n3_
       clear n0_ n1_ n2_ n3_
       replace HO_7 := Aside0.mk (Kd.R_drew HO_7.out)
       replace BK318 := Aside0.mk (blk_drew BK318.out)
       replace BK324 := Aside0.mk (blk_drew BK324.out)
       replace HB := Aside0.mk (below_drew1 HB.out)
       obtain ⟨Ao48, co48, eo48⟩ := Kd.R_slice HO_7.out
       (first | subst eo48 | (injection eo48 with f1_ f2_ f3_; have f4_ := f1_.symm; have f5_ := f3_.symm; clear f1_ f2_ f3_; subst f4_; subst f5_))
       have p330 : 0 ≤ ((ji21) : Int) := Z.od
       have q330 : (ji21) < (x7_1.length : Int) := Z.od
       obtain ⟨ad330, e330, hx330_0⟩ := Kd.at_bool (Kd.R_reads' HO_7.out).2.2 (ji21) p330 q330
       (try rw [← Nbq27.out] at hx330_0)
       cases e330
       replace p330 := eq_true p330
       replace q330 := eq_true q330
       have p331 : 0 ≤ ((ji24) : Int) := Z.od
       have q331 : (ji24) < (x7_1.length : Int) := Z.od
       obtain ⟨ad331, e331, hx331_0⟩ := Kd.at_bool (Kd.R_reads' HO_7.out).2.2 (ji24) p331 q331
       (try rw [← Nbq27.out] at hx331_0)
       obtain rfl : ad330 = ad331 := (by injection e331)
       replace p331 := eq_true p331
       replace q331 := eq_true q331
       refine start_ (n := 14) (S := fun w' => w'.cell? (ad330.add ((ji21)).toNat) = some (.bool true) ∧ w'.cell? (ad330.add ((ji24)).toNat) = some (.bool (rdOf false x7_1 (ji24)))) (ds := []) #[false, false, false, false, false, false, false, false, false, false, false, false, false, false] (by kernel_rfl) rfl rfl ⟨hx330_0, hx331_0⟩ (fun hHeld => ?_); refine with_tabW impl_consents.tab7 impl_consents.bits7 (fun HT_ HW_ => ?_)
       generalize w46.drew = w47 at HO_7 BK318 BK324 HB hx330_0 hx331_0 hHeld ⊢
       refine Z.pv 0 38 14 1 HT_.out ?_
       refine Z.pv 1 39 14 3 HT_.out ?_
       refine Z.pv 2 40 14 7 HT_.out ?_
       refine Z.pv 3 41 14 15 HT_.out ?_
       refine Z.pv 4 42 14 31 HT_.out ?_
       refine Z.pv 6 44 14 95 HT_.out ?_
       refine Z.pv 7 45 14 223 HT_.out ?_
       refine Z.pv 8 46 14 479 HT_.out ?_
       refine Z.pv 9 47 14 991 HT_.out ?_
       refine Z.pv 10 48 14 2015 HT_.out ?_
       refine Z.t2 5 43 14 2047 HT_.out HW_.out hHeld ?_
       refine Z.pv 12 10 14 6143 HT_.out ?_
       refine Z.t2 11 49 14 8191 HT_.out HW_.out hHeld ?_
       refine Z.pv 13 11 14 16383 HT_.out ?_
       refine done_ (done_of HT_.out (by kernel_rfl)) ?_
       have hcz49 := Z.c3 BK324.out
       have q50 : ((ji21) : Int) ≤ ((x7_1.length : Int) : Int) := Z.od
       obtain ⟨i050, hi050, _, hsz50, _⟩ := info_parts info4
       have hcut50 := cut_to (P := Try.prog) 59 4 .i64 Try.underlying59 hi050 (some ad330) x7_1.length co48 (ji21) (Z.od) q50 (Kd.R_reads' HO_7.out).2.1
       have hr50 := Kd.R_take (m := ((ji21) : Int).toNat) HO_7.out (by omega)
       have hy50 : y338.length = ((ji21) : Int).toNat := (by rw [Ny338.out, List.length_take]; omega)
       rw [← Ny338.out] at hr50
       rw [← hy50] at hr50 hcut50
       clear hy50 hi050 hsz50 HO_7
       have HO340 := Aside0.mk hr50
       clear hr50
       replace q50 := eq_true q50
       try go_wp2_with (first | ((with_reducible refine gate_builtin (b := .append) (xs := #[.tmp 65, .tmp 67]) rfl ?_); at_builtin; refine Kd.R_append Kd.bool (w0 := w) w.heap.size rfl (.tmp 65) (.tmp 67) 59 4 (.bool false) 1 rfl Try.underlying59 info4 rfl (by decide) (by omega) (.slice (some ad330) y338.length co48) y338 (rdOf false x7_1 (ji24)) [.bool (rdOf false x7_1 (ji24))] (fun _ => True) (fun _ => False) rfl rfl ?aP (fun _ hk => hk.elim) ?aF ?aO ?aB ?aS ?aL ?_; (case aP => exact rfl); (case aB => exact (by repeat (first | (with_reducible first | exact HB.out | apply below_alloc | apply pw_below_drewN | apply below_drew1 | refine below_set ?_ GE318.out | refine below_set ?_ GE324.out) | exact HB.out))); (case aF => exact (fun _ _ => trivial)); (case aO => exact (by (with_reducible repeat (first | apply Kd.R_alloc | apply Kd.R_drewN | apply Kd.R_drew)); exact HO340.out)); (case aS => exact (below_size (by repeat (first | (with_reducible first | exact HB.out | apply below_alloc | apply pw_below_drewN | apply below_drew1 | refine below_set ?_ GE318.out | refine below_set ?_ GE324.out) | exact HB.out)))); (case aL => have := LMc42.out; omega); intro v342 w51 ho hb hg hat; rw [← Ny341.out] at ho; replace BK318 := Aside0.mk (blk_grown (g := gb318) (o := .cells #[.int .i64 a0_0, .slice A0_1 l0_1.length c0_1] 25 (0, 0)) (Z.bk BK318.out) hg (Kd.R_ne HO340.out BK318.out (by decide))); replace BK324 := Aside0.mk (blk_grown (g := gb324) (o := .cells #[.int .i64 ((rd_T35 l1 x16_1).f0), .int .i64 ((rd_T35 l1 x16_1).f1), .int .i64 ((rd_T35 l1 x16_1).f2)] 35 (0, 0)) (Z.bk BK324.out) hg (Kd.R_ne HO340.out BK324.out (by decide))); replace HB := Aside0.mk (hb); have HO343 := Aside0.mk (ho); clear HO340; clear ho hb hg hat))
       go_roundg k1
       case measure => have := HK1.out; omega
       case rel => exact ⟨(y341), (wrap64 (x16_1 + 1)), (by first | rfl | (simp; done) | (simp [*]; done)), H', ⟨by have := HK1.out; omega⟩, ⟨by (with_reducible repeat (first | apply Kd.R_alloc | apply Kd.R_drewN | apply Kd.R_drew)); exact HO343.out⟩, ⟨by (with_reducible repeat (first | refine blk_drewN ?_ _ | refine blk_drew ?_ | refine blk_alloc ?_ _)); exact BK318.out⟩, ⟨by repeat (first | (with_reducible first | exact HB.out | apply below_alloc | apply pw_below_drewN | apply below_drew1 | refine below_set ?_ GE318.out | refine below_set ?_ GE324.out) | exact HB.out)⟩⟩
     ·replace c28 := Bool.eq_false_iff.mpr c28
      subst c28
      rw [if_neg (show ¬ (false = true) by decide)] at H
      by_cases c52 : ((rd_T35 l1 x16_1).f0) = 2
      ·rw [if_pos c52] at H
       have c52b0 : (((rd_T35 l1 x16_1).f0) == 2) = true := beq_iff_eq.mpr c52
       have c52b1 : (((rd_T35 l1 x16_1).f0) != 2) = false := bne_eq_false_iff_eq.mpr c52
       clear c52
       obtain ⟨c53, H⟩ := Z.ifp H
       have c53b0 := eq_true c53
       have c53b1 : decide ((ji21) ≤ (x7_1.length : Int)) = true := decide_eq_true c53
       clear c53
       obtain ⟨y344, hy344⟩ : ∃ y_ : List Bool, y_ = (x7_1.take ((ji21) : Int).toNat) := ⟨_, rfl⟩
       replace H : (if y344.length < 140737488355328 then (impl_consents.l0 k1 a2 (y344 ++ [rdOf false x7_1 (ji24)]) l1 (l1.length : Int) (wrap64 (x16_1 + 1)) a0_0 l0_1) else (none)) = some r := by first | (rw [hy344]; with_reducible exact H) | (have H2_ := (Option.bind_some _ _).symm.trans H; rw [hy344]; with_reducible exact H2_) | (have H2_ := (Option.bind_some _ _).symm.trans H; with_reducible exact H2_) | with_reducible exact H | (rw [hy344]; exact H) | exact H
       have Ny344 := Aside0.mk hy344
       clear hy344
       obtain ⟨c54, H⟩ := Z.ifp H
       have LMc54 := Aside0.mk c54
       clear c54
       obtain ⟨y347, hy347⟩ : ∃ y_ : List Bool, y_ = (y344 ++ [rdOf false x7_1 (ji24)]) := ⟨_, rfl⟩
       replace H : (impl_consents.l0 k1 a2 y347 l1 (l1.length : Int) (wrap64 (x16_1 + 1)) a0_0 l0_1) = some r := by first | (rw [hy347]; with_reducible exact H) | (have H2_ := (Option.bind_some _ _).symm.trans H; rw [hy347]; with_reducible exact H2_) | (have H2_ := (Option.bind_some _ _).symm.trans H; with_reducible exact H2_) | with_reducible exact H | (rw [hy347]; exact H) | exact H
       have Ny347 := Aside0.mk hy347
       clear hy347
       have H' := Aside0.mk H
       clear H
       have p323 : 0 ≤ (x16_1 : Int) := Z.od
       have q323 : x16_1 < (l1.length : Int) := Z.od
       obtain ⟨ad323, rfl, hx323_0, hx323_1, hx323_2⟩ := at_T35 HR1.out x16_1 p323 q323
       replace hx323_0 := Z.up HB.out hx323_0
       replace hx323_1 := Z.up HB.out hx323_1
       replace hx323_2 := Z.up HB.out hx323_2
       replace p323 := eq_true p323
       replace q323 := eq_true q323
       try go_wp2_with (first | ((with_reducible refine gate_dst (N := 9) rfl ?_); refine Z.bz #[.int .i64 0, .int .i64 0, .int .i64 0] 35 HB GE318 ?_; clear HB; intro gb324 w55 BK324 GE324 HB hg hb; have GW324 := GE324; replace HO_7 := Aside0.mk (Kd.R_below (by (with_reducible repeat (first | apply Kd.R_alloc | apply Kd.R_drewN | apply Kd.R_drew)); exact HO_7.out) hb); have NB318_324 := Z.nl hg BK318; have NB324_318 := Z.ng hg BK318; replace BK318 := Z.bb BK318 hb; clear hb hg; have hnb56 := NB324_318.out; have hnc56 := NB318_324.out; have hcz57 := Z.c3 BK324.out))
       have n0_ : Aside0 (Kd.R Kd.bool 4 (((w55.setCell ⟨gb324, 0, none⟩ (.int .i64 ((rd_T35 l1 x16_1).f0))).setCell ⟨gb324, 1, none⟩ (.int .i64 ((rd_T35 l1 x16_1).f1))).setCell ⟨gb324, 2, none⟩ (.int .i64 ((rd_T35 l1 x16_1).f2))) w.heap.size (fun _ => True) u7 x7_1) := ⟨by (with_reducible repeat (first | apply Kd.R_alloc | apply Kd.R_drewN | apply Kd.R_drew)); exact Kd.R_mono (Kd.R_far (p := ⟨gb324, 2, none⟩) (Kd.R_far (p := ⟨gb324, 1, none⟩) (Kd.R_far (p := ⟨gb324, 0, none⟩) (Kd.R_types HO_7.out BK324.out (by decide)) (fun _ hk => hk.2) (.int .i64 ((rd_T35 l1 x16_1).f0))) (fun _ hk => hk.2) (.int .i64 ((rd_T35 l1 x16_1).f1))) (fun _ hk => hk.2) (.int .i64 ((rd_T35 l1 x16_1).f2))) (fun _ hk => trivial)⟩
       have n1_ : Aside0 ((((w55.setCell ⟨gb324, 0, none⟩ (.int .i64 ((rd_T35 l1 x16_1).f0))).setCell ⟨gb324, 1, none⟩ (.int .i64 ((rd_T35 l1 x16_1).f1))).setCell ⟨gb324, 2, none⟩ (.int .i64 ((rd_T35 l1 x16_1).f2))).heap[gb318]? = some (.cells #[.int .i64 a0_0, .slice A0_1 l0_1.length c0_1] 25 (0, 0))) := ⟨by (with_reducible repeat (first | refine blk_drewN ?_ _ | refine blk_drew ?_ | refine blk_alloc ?_ _)); refine blk_far ?_ NB318_324.out _; (with_reducible repeat (first | refine blk_drewN ?_ _ | refine blk_drew ?_ | refine blk_alloc ?_ _)); refine blk_far ?_ NB318_324.out _; (with_reducible repeat (first | refine blk_drewN ?_ _ | refine blk_drew ?_ | refine blk_alloc ?_ _)); refine blk_far ?_ NB318_324.out _; (with_reducible repeat (first | refine blk_drewN ?_ _ | refine blk_drew ?_ | refine blk_alloc ?_ _)); exact BK318.out⟩
       have n2_ : Aside0 ((((w55.setCell ⟨gb324, 0, none⟩ (.int .i64 ((rd_T35 l1 x16_1).f0))).setCell ⟨gb324, 1, none⟩ (.int .i64 ((rd_T35 l1 x16_1).f1))).setCell ⟨gb324, 2, none⟩ (.int .i64 ((rd_T35 l1 x16_1).f2))).heap[gb324]? = some (.cells #[.int .i64 ((rd_T35 l1 x16_1).f0), .int .i64 ((rd_T35 l1 x16_1).f1), .int .i64 ((rd_T35 l1 x16_1).f2)] 35 (0, 0))) := ⟨by (with_reducible repeat (first | refine blk_drewN ?_ _ | refine blk_drew ?_ | refine blk_alloc ?_ _)); refine blk_put (cs := #[.int .i64 ((rd_T35 l1 x16_1).f0), .int .i64 ((rd_T35 l1 x16_1).f1), .int .i64 0]) ?_ 2 _ rfl; (with_reducible repeat (first | refine blk_drewN ?_ _ | refine blk_drew ?_ | refine blk_alloc ?_ _)); refine blk_put (cs := #[.int .i64 ((rd_T35 l1 x16_1).f0), .int .i64 0, .int .i64 0]) ?_ 1 _ rfl; (with_reducible repeat (first | refine blk_drewN ?_ _ | refine blk_drew ?_ | refine blk_alloc ?_ _)); refine blk_put (cs := #[.int .i64 0, .int .i64 0, .int .i64 0]) ?_ 0 _ rfl; (with_reducible repeat (first | refine blk_drewN ?_ _ | refine blk_drew ?_ | refine blk_alloc ?_ _)); exact BK324.out⟩
       have n3_ : Aside0 (Below w.heap.size w (((w55.setCell ⟨gb324, 0, none⟩ (.int .i64 ((rd_T35 l1 x16_1).f0))).setCell ⟨gb324, 1, none⟩ (.int .i64 ((rd_T35 l1 x16_1).f1))).setCell ⟨gb324, 2, none⟩ (.int .i64 ((rd_T35 l1 x16_1).f2)))) := ⟨by repeat (first | (with_reducible first | exact HB.out | apply below_alloc | apply pw_below_drewN | apply below_drew1 | refine below_set ?_ GE318.out | refine below_set ?_ GE324.out) | exact HB.out)⟩
       (try clear HO_7)
       (try clear BK318)
       (try clear BK324)
       (try clear HB)
       generalize (((w55.setCell ⟨gb324, 0, none⟩ (.int .i64 ((rd_T35 l1 x16_1).f0))).setCell ⟨gb324, 1, none⟩ (.int .i64 ((rd_T35 l1 x16_1).f1))).setCell ⟨gb324, 2, none⟩ (.int .i64 ((rd_T35 l1 x16_1).f2))) = w58 at n0_ n1_ n2_ n3_ ⊢
       have HO_7 := n0_
       have BK318 := n1_
       have BK324 := n2_
       have HB := n3_
       clear n0_ n1_ n2_ n3_
       replace HO_7 := Aside0.mk (Kd.R_drew HO_7.out)
       replace BK318 := Aside0.mk (blk_drew BK318.out)
       replace BK324 := Aside0.mk (blk_drew BK324.out)
       replace HB := Aside0.mk (below_drew1 HB.out)
       obtain ⟨Ao60, co60, eo60⟩ := Kd.R_slice HO_7.out
       (first | subst eo60 | (injection eo60 with f1_ f2_ f3_; have f4_ := f1_.symm; have f5_ := f3_.symm; clear f1_ f2_ f3_; subst f4_; subst f5_))
       have p330 : 0 ≤ ((ji21) : Int) := Z.od
       have q330 : (ji21) < (x7_1.length : Int) := Z.od
       obtain ⟨ad330, e330, hx330_0⟩ := Kd.at_bool (Kd.R_reads' HO_7.out).2.2 (ji21) p330 q330
       (try rw [← Nbq27.out] at hx330_0)
       cases e330
       replace p330 := eq_true p330
       replace q330 := eq_true q330
       have p331 : 0 ≤ ((ji24) : Int) := Z.od
       have q331 : (ji24) < (x7_1.length : Int) := Z.od
       obtain ⟨ad331, e331, hx331_0⟩ := Kd.at_bool (Kd.R_reads' HO_7.out).2.2 (ji24) p331 q331
       (try rw [← Nbq27.out] at hx331_0)
       obtain rfl : ad330 = ad331 := (by injection e331)
       replace p331 := eq_true p331
       replace q331 := eq_true q331
       refine start_ (n := 14) (S := fun w' => w'.cell? (ad330.add ((ji21)).toNat) = some (.bool false) ∧ w'.cell? (ad330.add ((ji24)).toNat) = some (.bool (rdOf false x7_1 (ji24)))) (ds := []) #[false, false, false, false, false, false, false, false, false, false, false, false, false, false] (by kernel_rfl) rfl rfl ⟨hx330_0, hx331_0⟩ (fun hHeld => ?_); refine with_tabW impl_consents.tab7 impl_consents.bits7 (fun HT_ HW_ => ?_)
       generalize w58.drew = w59 at HO_7 BK318 BK324 HB hx330_0 hx331_0 hHeld ⊢
       refine Z.pv 0 38 14 1 HT_.out ?_
       refine Z.pv 1 39 14 3 HT_.out ?_
       refine Z.pv 2 40 14 7 HT_.out ?_
       refine Z.pv 3 41 14 15 HT_.out ?_
       refine Z.pv 4 42 14 31 HT_.out ?_
       refine Z.pv 6 44 14 95 HT_.out ?_
       refine Z.pv 7 45 14 223 HT_.out ?_
       refine Z.pv 8 46 14 479 HT_.out ?_
       refine Z.pv 9 47 14 991 HT_.out ?_
       refine Z.pv 10 48 14 2015 HT_.out ?_
       refine Z.t2 5 43 14 2047 HT_.out HW_.out hHeld ?_
       refine Z.pv 12 10 14 6143 HT_.out ?_
       refine Z.t2 11 49 14 8191 HT_.out HW_.out hHeld ?_
       refine Z.pv 13 11 14 16383 HT_.out ?_
       refine done_ (done_of HT_.out (by kernel_rfl)) ?_
       have hcz61 := Z.c3 BK324.out
       have q62 : ((ji21) : Int) ≤ ((x7_1.length : Int) : Int) := Z.od
       obtain ⟨i062, hi062, _, hsz62, _⟩ := info_parts info4
       have hcut62 := cut_to (P := Try.prog) 59 4 .i64 Try.underlying59 hi062 (some ad330) x7_1.length co60 (ji21) (Z.od) q62 (Kd.R_reads' HO_7.out).2.1
       have hr62 := Kd.R_take (m := ((ji21) : Int).toNat) HO_7.out (by omega)
       have hy62 : y344.length = ((ji21) : Int).toNat := (by rw [Ny344.out, List.length_take]; omega)
       rw [← Ny344.out] at hr62
       rw [← hy62] at hr62 hcut62
       clear hy62 hi062 hsz62 HO_7
       have HO346 := Aside0.mk hr62
       clear hr62
       replace q62 := eq_true q62
       try go_wp2_with (first | ((with_reducible refine gate_builtin (b := .append) (xs := #[.tmp 65, .tmp 67]) rfl ?_); at_builtin; refine Kd.R_append Kd.bool (w0 := w) w.heap.size rfl (.tmp 65) (.tmp 67) 59 4 (.bool false) 1 rfl Try.underlying59 info4 rfl (by decide) (by omega) (.slice (some ad330) y344.length co60) y344 (rdOf false x7_1 (ji24)) [.bool (rdOf false x7_1 (ji24))] (fun _ => True) (fun _ => False) rfl rfl ?aP (fun _ hk => hk.elim) ?aF ?aO ?aB ?aS ?aL ?_; (case aP => exact rfl); (case aB => exact (by repeat (first | (with_reducible first | exact HB.out | apply below_alloc | apply pw_below_drewN | apply below_drew1 | refine below_set ?_ GE318.out | refine below_set ?_ GE324.out) | exact HB.out))); (case aF => exact (fun _ _ => trivial)); (case aO => exact (by (with_reducible repeat (first | apply Kd.R_alloc | apply Kd.R_drewN | apply Kd.R_drew)); exact HO346.out)); (case aS => exact (below_size (by repeat (first | (with_reducible first | exact HB.out | apply below_alloc | apply pw_below_drewN | apply below_drew1 | refine below_set ?_ GE318.out | refine below_set ?_ GE324.out) | exact HB.out)))); (case aL => have := LMc54.out; omega); intro v348 w63 ho hb hg hat; rw [← Ny347.out] at ho; replace BK318 := Aside0.mk (blk_grown (g := gb318) (o := .cells #[.int .i64 a0_0, .slice A0_1 l0_1.length c0_1] 25 (0, 0)) (Z.bk BK318.out) hg (Kd.R_ne HO346.out BK318.out (by decide))); replace BK324 := Aside0.mk (blk_grown (g := gb324) (o := .cells #[.int .i64 ((rd_T35 l1 x16_1).f0), .int .i64 ((rd_T35 l1 x16_1).f1), .int .i64 ((rd_T35 l1 x16_1).f2)] 35 (0, 0)) (Z.bk BK324.out) hg (Kd.R_ne HO346.out BK324.out (by decide))); replace HB := Aside0.mk (hb); have HO349 := Aside0.mk (ho); clear HO346; clear ho hb hg hat))
       go_roundg k1
       case measure => have := HK1.out; omega
       case rel => exact ⟨(y347), (wrap64 (x16_1 + 1)), (by first | rfl | (simp; done) | (simp [*]; done)), H', ⟨by have := HK1.out; omega⟩, ⟨by (with_reducible repeat (first | apply Kd.R_alloc | apply Kd.R_drewN | apply Kd.R_drew)); exact HO349.out⟩, ⟨by (with_reducible repeat (first | refine blk_drewN ?_ _ | refine blk_drew ?_ | refine blk_alloc ?_ _)); exact BK318.out⟩, ⟨by repeat (first | (with_reducible first | exact HB.out | apply below_alloc | apply pw_below_drewN | apply below_drew1 | refine below_set ?_ GE318.out | refine below_set ?_ GE324.out) | exact HB.out)⟩⟩
      ·rw [if_neg c52] at H
       have c52b0 : (((rd_T35 l1 x16_1).f0) == 2) = false := beq_eq_false_iff_ne.mpr c52
       have c52b1 : (((rd_T35 l1 x16_1).f0) != 2) = true := bne_iff_ne.mpr c52
       obtain ⟨c64, H⟩ := Z.ifp H
       have c64b0 := eq_true c64
       have c64b1 : decide ((ji21) ≤ (x7_1.length : Int)) = true := decide_eq_true c64
       clear c64
       obtain ⟨y350, hy350⟩ : ∃ y_ : List Bool, y_ = (x7_1.take ((ji21) : Int).toNat) := ⟨_, rfl⟩
       replace H : (if y350.length < 140737488355328 then (impl_consents.l0 k1 a2 (y350 ++ [false]) l1 (l1.length : Int) (wrap64 (x16_1 + 1)) a0_0 l0_1) else (none)) = some r := by first | (rw [hy350]; with_reducible exact H) | (have H2_ := (Option.bind_some _ _).symm.trans H; rw [hy350]; with_reducible exact H2_) | (have H2_ := (Option.bind_some _ _).symm.trans H; with_reducible exact H2_) | with_reducible exact H | (rw [hy350]; exact H) | exact H
       have Ny350 := Aside0.mk hy350
       clear hy350
       obtain ⟨c65, H⟩ := Z.ifp H
       have LMc65 := Aside0.mk c65
       clear c65
       obtain ⟨y353, hy353⟩ : ∃ y_ : List Bool, y_ = (y350 ++ [false]) := ⟨_, rfl⟩
       replace H : (impl_consents.l0 k1 a2 y353 l1 (l1.length : Int) (wrap64 (x16_1 + 1)) a0_0 l0_1) = some r := by first | (rw [hy353]; with_reducible exact H) | (have H2_ := (Option.bind_some _ _).symm.trans H; rw [hy353]; with_reducible exact H2_) | (have H2_ := (Option.bind_some _ _).symm.trans H; with_reducible exact H2_) | with_reducible exact H | (rw [hy353]; exact H) | exact H
       have Ny353 := Aside0.mk hy353
       clear hy353
       have H' := Aside0.mk H
       clear H
       have p323 : 0 ≤ (x16_1 : Int) := Z.od
       have q323 : x16_1 < (l1.length : Int) := Z.od
       obtain ⟨ad323, rfl, hx323_0, hx323_1, hx323_2⟩ := at_T35 HR1.out x16_1 p323 q323
       replace hx323_0 := Z.up HB.out hx323_0
       replace hx323_1 := Z.up HB.out hx323_1
       replace hx323_2 := Z.up HB.out hx323_2
       replace p323 := eq_true p323
       replace q323 := eq_true q323
       try go_wp2_with (first | ((with_reducible refine gate_dst (N := 9) rfl ?_); refine Z.bz #[.int .i64 0, .int .i64 0, .int .i64 0] 35 HB GE318 ?_; clear HB; intro gb324 w66 BK324 GE324 HB hg hb; have GW324 := GE324; replace HO_7 := Aside0.mk (Kd.R_below (by (with_reducible repeat (first | apply Kd.R_alloc | apply Kd.R_drewN | apply Kd.R_drew)); exact HO_7.out) hb); have NB318_324 := Z.nl hg BK318; have NB324_318 := Z.ng hg BK318; replace BK318 := Z.bb BK318 hb; clear hb hg; have hnb67 := NB324_318.out; have hnc67 := NB318_324.out; have hcz68 := Z.c3 BK324.out))
       have n0_ : Aside0 (Kd.R Kd.bool 4 (((w66.setCell ⟨gb324, 0, none⟩ (.int .i64 ((rd_T35 l1 x16_1).f0))).setCell ⟨gb324, 1, none⟩ (.int .i64 ((rd_T35 l1 x16_1).f1))).setCell ⟨gb324, 2, none⟩ (.int .i64 ((rd_T35 l1 x16_1).f2))) w.heap.size (fun _ => True) u7 x7_1) := ⟨by (with_reducible repeat (first | apply Kd.R_alloc | apply Kd.R_drewN | apply Kd.R_drew)); exact Kd.R_mono (Kd.R_far (p := ⟨gb324, 2, none⟩) (Kd.R_far (p := ⟨gb324, 1, none⟩) (Kd.R_far (p := ⟨gb324, 0, none⟩) (Kd.R_types HO_7.out BK324.out (by decide)) (fun _ hk => hk.2) (.int .i64 ((rd_T35 l1 x16_1).f0))) (fun _ hk => hk.2) (.int .i64 ((rd_T35 l1 x16_1).f1))) (fun _ hk => hk.2) (.int .i64 ((rd_T35 l1 x16_1).f2))) (fun _ hk => trivial)⟩
       have n1_ : Aside0 ((((w66.setCell ⟨gb324, 0, none⟩ (.int .i64 ((rd_T35 l1 x16_1).f0))).setCell ⟨gb324, 1, none⟩ (.int .i64 ((rd_T35 l1 x16_1).f1))).setCell ⟨gb324, 2, none⟩ (.int .i64 ((rd_T35 l1 x16_1).f2))).heap[gb318]? = some (.cells #[.int .i64 a0_0, .slice A0_1 l0_1.length c0_1] 25 (0, 0))) := ⟨by (with_reducible repeat (first | refine blk_drewN ?_ _ | refine blk_drew ?_ | refine blk_alloc ?_ _)); refine blk_far ?_ NB318_324.out _; (with_reducible repeat (first | refine blk_drewN ?_ _ | refine blk_drew ?_ | refine blk_alloc ?_ _)); refine blk_far ?_ NB318_324.out _; (with_reducible repeat (first | refine blk_drewN ?_ _ | refine blk_drew ?_ | refine blk_alloc ?_ _)); refine blk_far ?_ NB318_324.out _; (with_reducible repeat (first | refine blk_drewN ?_ _ | refine blk_drew ?_ | refine blk_alloc ?_ _)); exact BK318.out⟩
       have n2_ : Aside0 ((((w66.setCell ⟨gb324, 0, none⟩ (.int .i64 ((rd_T35 l1 x16_1).f0))).setCell ⟨gb324, 1, none⟩ (.int .i64 ((rd_T35 l1 x16_1).f1))).setCell ⟨gb324, 2, none⟩ (.int .i64 ((rd_T35 l1 x16_1).f2))).heap[gb324]? = some (.cells #[.int .i64 ((rd_T35 l1 x16_1).f0), .int .i64 ((rd_T35 l1 x16_1).f1), .int .i64 ((rd_T35 l1 x16_1).f2)] 35 (0, 0))) := ⟨by (with_reducible repeat (first | refine blk_drewN ?_ _ | refine blk_drew ?_ | refine blk_alloc ?_ _)); refine blk_put (cs := #[.int .i64 ((rd_T35 l1 x16_1).f0), .int .i64 ((rd_T35 l1 x16_1).f1), .int .i64 0]) ?_ 2 _ rfl; (with_reducible repeat (first | refine blk_drewN ?_ _ | refine blk_drew ?_ | refine blk_alloc ?_ _)); refine blk_put (cs := #[.int .i64 ((rd_T35 l1 x16_1).f0), .int .i64 0, .int .i64 0]) ?_ 1 _ rfl; (with_reducible repeat (first | refine blk_drewN ?_ _ | refine blk_drew ?_ | refine blk_alloc ?_ _)); refine blk_put (cs := #[.int .i64 0, .int .i64 0, .int .i64 0]) ?_ 0 _ rfl; (with_reducible repeat (first | refine blk_drewN ?_ _ | refine blk_drew ?_ | refine blk_alloc ?_ _)); exact BK324.out⟩
       have n3_ : Aside0 (Below w.heap.size w (((w66.setCell ⟨gb324, 0, none⟩ (.int .i64 ((rd_T35 l1 x16_1).f0))).setCell ⟨gb324, 1, none⟩ (.int .i64 ((rd_T35 l1 x16_1).f1))).setCell ⟨gb324, 2, none⟩ (.int .i64 ((rd_T35 l1 x16_1).f2)))) := ⟨by repeat (first | (with_reducible first | exact HB.out | apply below_alloc | apply pw_below_drewN | apply below_drew1 | refine below_set ?_ GE318.out | refine below_set ?_ GE324.out) | exact HB.out)⟩
       (try clear HO_7)
       (try clear BK318)
       (try clear BK324)
       (try clear HB)
       generalize (((w66.setCell ⟨gb324, 0, none⟩ (.int .i64 ((rd_T35 l1 x16_1).f0))).setCell ⟨gb324, 1, none⟩ (.int .i64 ((rd_T35 l1 x16_1).f1))).setCell ⟨gb324, 2, none⟩ (.int .i64 ((rd_T35 l1 x16_1).f2))) = w69 at n0_ n1_ n2_ n3_ ⊢
       have HO_7 := n0_
       have BK318 := n1_
       have BK324 := n2_
       have HB := n3_
       clear n0_ n1_ n2_ n3_
       replace HO_7 := Aside0.mk (Kd.R_drew HO_7.out)
       replace BK318 := Aside0.mk (blk_drew BK318.out)
       replace BK324 := Aside0.mk (blk_drew BK324.out)
       replace HB := Aside0.mk (below_drew1 HB.out)
       obtain ⟨Ao71, co71, eo71⟩ := Kd.R_slice HO_7.out
       (first | subst eo71 | (injection eo71 with f1_ f2_ f3_; have f4_ := f1_.symm; have f5_ := f3_.symm; clear f1_ f2_ f3_; subst f4_; subst f5_))
       have p330 : 0 ≤ ((ji21) : Int) := Z.od
       have q330 : (ji21) < (x7_1.length : Int) := Z.od
       obtain ⟨ad330, e330, hx330_0⟩ := Kd.at_bool (Kd.R_reads' HO_7.out).2.2 (ji21) p330 q330
       (try rw [← Nbq27.out] at hx330_0)
       cases e330
       replace p330 := eq_true p330
       replace q330 := eq_true q330
       have p331 : 0 ≤ ((ji24) : Int) := Z.od
       have q331 : (ji24) < (x7_1.length : Int) := Z.od
       obtain ⟨ad331, e331, hx331_0⟩ := Kd.at_bool (Kd.R_reads' HO_7.out).2.2 (ji24) p331 q331
       (try rw [← Nbq27.out] at hx331_0)
       obtain rfl : ad330 = ad331 := (by injection e331)
       replace p331 := eq_true p331
       replace q331 := eq_true q331
       refine start_ (n := 14) (S := fun w' => w'.cell? (ad330.add ((ji21)).toNat) = some (.bool false) ∧ w'.cell? (ad330.add ((ji24)).toNat) = some (.bool (rdOf false x7_1 (ji24)))) (ds := []) #[false, false, false, false, false, false, false, false, false, false, false, false, false, false] (by kernel_rfl) rfl rfl ⟨hx330_0, hx331_0⟩ (fun hHeld => ?_); refine with_tabW impl_consents.tab7 impl_consents.bits7 (fun HT_ HW_ => ?_)
       generalize w69.drew = w70 at HO_7 BK318 BK324 HB hx330_0 hx331_0 hHeld ⊢
       refine Z.pv 0 38 14 1 HT_.out ?_
       refine Z.pv 1 39 14 3 HT_.out ?_
       refine Z.pv 2 40 14 7 HT_.out ?_
       refine Z.pv 3 41 14 15 HT_.out ?_
       refine Z.pv 4 42 14 31 HT_.out ?_
       refine Z.pv 6 44 14 95 HT_.out ?_
       refine Z.pv 7 45 14 223 HT_.out ?_
       refine Z.pv 8 46 14 479 HT_.out ?_
       refine Z.pv 9 47 14 991 HT_.out ?_
       refine Z.pv 10 48 14 2015 HT_.out ?_
       refine Z.t2 5 43 14 2047 HT_.out HW_.out hHeld ?_
       refine Z.pv 12 10 14 6143 HT_.out ?_
       refine Z.t2 11 49 14 8191 HT_.out HW_.out hHeld ?_
       refine Z.pv 13 11 14 16383 HT_.out ?_
       refine done_ (done_of HT_.out (by kernel_rfl)) ?_
       have hcz72 := Z.c3 BK324.out
       have q73 : ((ji21) : Int) ≤ ((x7_1.length : Int) : Int) := Z.od
       obtain ⟨i073, hi073, _, hsz73, _⟩ := info_parts info4
       have hcut73 := cut_to (P := Try.prog) 59 4 .i64 Try.underlying59 hi073 (some ad330) x7_1.length co71 (ji21) (Z.od) q73 (Kd.R_reads' HO_7.out).2.1
       have hr73 := Kd.R_take (m := ((ji21) : Int).toNat) HO_7.out (by omega)
       have hy73 : y350.length = ((ji21) : Int).toNat := (by rw [Ny350.out, List.length_take]; omega)
       rw [← Ny350.out] at hr73
       rw [← hy73] at hr73 hcut73
       clear hy73 hi073 hsz73 HO_7
       have HO352 := Aside0.mk hr73
       clear hr73
       replace q73 := eq_true q73
       try go_wp2_with (first | ((with_reducible refine gate_builtin (b := .append) (xs := #[.tmp 65, .tmp 67]) rfl ?_); at_builtin; refine Kd.R_append Kd.bool (w0 := w) w.heap.size rfl (.tmp 65) (.tmp 67) 59 4 (.bool false) 1 rfl Try.underlying59 info4 rfl (by decide) (by omega) (.slice (some ad330) y350.length co71) y350 false [.bool false] (fun _ => True) (fun _ => False) rfl rfl ?aP (fun _ hk => hk.elim) ?aF ?aO ?aB ?aS ?aL ?_; (case aP => exact rfl); (case aB => exact (by repeat (first | (with_reducible first | exact HB.out | apply below_alloc | apply pw_below_drewN | apply below_drew1 | refine below_set ?_ GE318.out | refine below_set ?_ GE324.out) | exact HB.out))); (case aF => exact (fun _ _ => trivial)); (case aO => exact (by (with_reducible repeat (first | apply Kd.R_alloc | apply Kd.R_drewN | apply Kd.R_drew)); exact HO352.out)); (case aS => exact (below_size (by repeat (first | (with_reducible first | exact HB.out | apply below_alloc | apply pw_below_drewN | apply below_drew1 | refine below_set ?_ GE318.out | refine below_set ?_ GE324.out) | exact HB.out)))); (case aL => have := LMc65.out; omega); intro v354 w74 ho hb hg hat; rw [← Ny353.out] at ho; replace BK318 := Aside0.mk (blk_grown (g := gb318) (o := .cells #[.int .i64 a0_0, .slice A0_1 l0_1.length c0_1] 25 (0, 0)) (Z.bk BK318.out) hg (Kd.R_ne HO352.out BK318.out (by decide))); replace BK324 := Aside0.mk (blk_grown (g := gb324) (o := .cells #[.int .i64 ((rd_T35 l1 x16_1).f0), .int .i64 ((rd_T35 l1 x16_1).f1), .int .i64 ((rd_T35 l1 x16_1).f2)] 35 (0, 0)) (Z.bk BK324.out) hg (Kd.R_ne HO352.out BK324.out (by decide))); replace HB := Aside0.mk (hb); have HO355 := Aside0.mk (ho); clear HO352; clear ho hb hg hat))
       go_roundg k1
       case measure => have := HK1.out; omega
       case rel => exact ⟨(y353), (wrap64 (x16_1 + 1)), (by first | rfl | (simp; done) | (simp [*]; done)), H', ⟨by have := HK1.out; omega⟩, ⟨by (with_reducible repeat (first | apply Kd.R_alloc | apply Kd.R_drewN | apply Kd.R_drew)); exact HO355.out⟩, ⟨by (with_reducible repeat (first | refine blk_drewN ?_ _ | refine blk_drew ?_ | refine blk_alloc ?_ _)); exact BK318.out⟩, ⟨by repeat (first | (with_reducible first | exact HB.out | apply below_alloc | apply pw_below_drewN | apply below_drew1 | refine below_set ?_ GE318.out | refine below_set ?_ GE324.out) | exact HB.out)⟩⟩
   ·rw [if_neg c7] at H
    have c7b0 := decide_eq_false c7
    clear c7
    obtain ⟨c75, H⟩ := Z.ifp H
    have c75b0 : decide (0 < (x7_1.length : Int)) = true := decide_eq_true c75
    have c75b1 : decide (0 < x7_1.length) = true := decide_eq_true (by omega)
    clear c75
    obtain rfl := Option.some.inj H
    obtain ⟨Ao76, co76, eo76⟩ := Kd.R_slice HO_7.out
    subst eo76
    have p322 : 0 ≤ (0 : Int) := (by omega)
    have q322 : 0 < (x7_1.length : Int) := Z.od
    obtain ⟨ad322, e322, hx322_0⟩ := Kd.at_bool (Kd.R_reads' HO_7.out).2.2 0 p322 q322
    cases e322
    have qi322 : (0 < x7_1.length) = True := eq_true (by omega)
    (try rw [show ((0 : Int)).toNat = 0 from rfl] at hx322_0)
    (try rw [Addr.add_zero'] at hx322_0)
    replace p322 := eq_true p322
    replace q322 := eq_true q322
    go_wp2
    go_ret
    exact ⟨by first | rfl | (simp [errW_none, errW_some] <;> rfl) | (simp [*, errW_none, errW_some] <;> rfl), Z.bs HB.out GE318.out⟩
end Go.Proofs.Ytenjngocdinfmaa.PAll

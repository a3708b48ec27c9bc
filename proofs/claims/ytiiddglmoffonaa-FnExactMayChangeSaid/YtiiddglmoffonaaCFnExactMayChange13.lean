/- Walks of functions that FnExactMayChange reaches, in the form of the print. -/
import Derived.Test.YtiiddglmoffonaaCFnExactMayChange0
import Derived.Test.YtiiddglmoffonaaCFnExactMayChange9
import Derived.Test.YtiiddglmoffonaaZ
namespace Go.Proofs.Ytiiddglmoffonaa.PFnExactMayChange
open Go.RowKit Go.Proofs.YtiiddglmoffonaaW.PrintWords Go.Proofs.YtiiddglmoffonaaW.PrintLast Go.Proofs.YtiiddglmoffonaaW.PrintMore

set_option linter.unusedVariables false
set_option linter.unusedSimpArgs false

/-! ### impl_consents: function 81 -/
def impl_consents.l0 : Nat → Int → List Bool → List (S48) → Int → Int → Int → List Int → Option (Bool)
 | 0, _, _, _, _, _, _, _ => none
 | k + 1, x2, x7, x14, x15, x16, x274000, x274001 => if x16 < x15 then (if 0 ≤ x16 then (if x16 < (x14.length : Int) then (if ((rd_T48 x14 x16).f0) = 0 then (if 0 ≤ ((rd_T48 x14 x16).f1) then (if ((rd_T48 x14 x16).f1) < (x274001.length : Int) then ((impl_headsOf.f (Go.bits .and .i64 (rd x274001 ((rd_T48 x14 x16).f1)) x2)).bind fun t281 => (if x7.length < 140737488355328 then (impl_consents.l0 k x2 (x7 ++ [decide (t281 ≥ ((rd_T48 x14 x16).f2))]) x14 x15 (wrap64 (x16 + 1)) x274000 x274001) else (none))) else (none)) else (none)) else (if 0 ≤ (wrap64 ((x7.length : Int) - 2)) then (if (wrap64 ((x7.length : Int) - 2)) < (x7.length : Int) then (if 0 ≤ (wrap64 ((x7.length : Int) - 1)) then (if (wrap64 ((x7.length : Int) - 1)) < (x7.length : Int) then (if rdOf false x7 (wrap64 ((x7.length : Int) - 2)) = true then (if ((rd_T48 x14 x16).f0) = 2 then (if (wrap64 ((x7.length : Int) - 2)) ≤ (x7.length : Int) then ((some (x7.take ((wrap64 ((x7.length : Int) - 2)) : Int).toNat : List Bool)).bind fun y287 => (if y287.length < 140737488355328 then (impl_consents.l0 k x2 (y287 ++ [true]) x14 x15 (wrap64 (x16 + 1)) x274000 x274001) else (none))) else (none)) else (if (wrap64 ((x7.length : Int) - 2)) ≤ (x7.length : Int) then ((some (x7.take ((wrap64 ((x7.length : Int) - 2)) : Int).toNat : List Bool)).bind fun y293 => (if y293.length < 140737488355328 then (impl_consents.l0 k x2 (y293 ++ [rdOf false x7 (wrap64 ((x7.length : Int) - 1))]) x14 x15 (wrap64 (x16 + 1)) x274000 x274001) else (none))) else (none))) else (if ((rd_T48 x14 x16).f0) = 2 then (if (wrap64 ((x7.length : Int) - 2)) ≤ (x7.length : Int) then ((some (x7.take ((wrap64 ((x7.length : Int) - 2)) : Int).toNat : List Bool)).bind fun y299 => (if y299.length < 140737488355328 then (impl_consents.l0 k x2 (y299 ++ [rdOf false x7 (wrap64 ((x7.length : Int) - 1))]) x14 x15 (wrap64 (x16 + 1)) x274000 x274001) else (none))) else (none)) else (if (wrap64 ((x7.length : Int) - 2)) ≤ (x7.length : Int) then ((some (x7.take ((wrap64 ((x7.length : Int) - 2)) : Int).toNat : List Bool)).bind fun y305 => (if y305.length < 140737488355328 then (impl_consents.l0 k x2 (y305 ++ [false]) x14 x15 (wrap64 (x16 + 1)) x274000 x274001) else (none))) else (none)))) else (none)) else (none)) else (none)) else (none))) else (none)) else (none)) else (if 0 < (x7.length : Int) then (some (rdOf false x7 0)) else (none))
def impl_consents.f (k : Nat) (a0_0 : Int) (l0_1 : List Int) (l1 : List (S48)) (a2 : Int) : Option (Bool) := impl_consents.l0 k a2 (([] : List Bool)) l1 (l1.length : Int) 0 a0_0 l0_1
theorem impl_consents.mono_l : ∀ k, (∀ y0 y1 y2 y3 y4 y5 y6, LeO (impl_consents.l0 k y0 y1 y2 y3 y4 y5 y6) (impl_consents.l0 (k + 1) y0 y1 y2 y3 y4 y5 y6))
 | 0 => fun _ _ _ _ _ _ _ r h => by simp [impl_consents.l0] at h
 | k + 1 => by
  have ih0 := impl_consents.mono_l k
  ·intro y0 y1 y2 y3 y4 y5 y6
   unfold impl_consents.l0
   repeat' first
   | (with_reducible exact ih0 _ _ _ _ _ _ _)
   | (with_reducible exact LeO.refl _)
   | (with_reducible exact LeO.none _)
   | (with_reducible refine LeO.ite ?_ ?_)
   | (with_reducible refine LeO.bind ?_ (fun _ => ?_))
   | exact ih0 _ _ _ _ _ _ _
   | exact LeO.none _
   | refine LeO.ite ?_ ?_
   | refine LeO.bind ?_ (fun _ => ?_)
theorem impl_consents.mono : ∀ a0 a1 a2 a3 k, LeO (impl_consents.f k a0 a1 a2 a3) (impl_consents.f (k + 1) a0 a1 a2 a3) := by
 intro a0 a1 a2 a3 k
 have ih0 := impl_consents.mono_l k
 unfold impl_consents.f
 repeat' first
   | (with_reducible exact ih0 _ _ _ _ _ _ _)
   | (with_reducible exact LeO.refl _)
   | (with_reducible exact LeO.none _)
   | (with_reducible refine LeO.ite ?_ ?_)
   | (with_reducible refine LeO.bind ?_ (fun _ => ?_))
   | exact ih0 _ _ _ _ _ _ _
   | exact LeO.none _
   | refine LeO.ite ?_ ?_
   | refine LeO.bind ?_ (fun _ => ?_)
def impl_consents.T6 : Bool × List (List Nat × List Nat) := (true, [([], []), ([], []), ([1], [1]), ([], []), ([3], [3]), ([2, 4], [2, 4]), ([5], [5]), ([], []), ([6, 7], [6, 7]), ([8], [8]), ([], []), ([10], [10]), ([9, 11], [9, 11]), ([12], [12]), ([0, 13, 9], [0, 13]), ([14, 14, 0, 1, 2, 3, 4, 5, 6, 7, 8, 9, 10, 11, 12, 13, 14], [0, 14])])
def impl_consents.B6 : List Nat := [0, 0, 2, 0, 8, 30, 62, 0, 254, 510, 0, 1024, 4094, 8190, 16383, 32767]
theorem impl_consents.tab6 : rtab .any (opsOf Try.f81 6) = impl_consents.T6 := by kernel_rfl
theorem impl_consents.bits6 : waitsOk impl_consents.T6.2 impl_consents.B6 = true := by kernel_rfl
def impl_consents.T7 : Bool × List (List Nat × List Nat) := (true, [([], []), ([], []), ([1], [1]), ([2], [2]), ([0, 3], [0, 3]), ([4], [4]), ([], []), ([], []), ([7], [7]), ([8], [8]), ([6, 9], [6, 9]), ([10], [10]), ([5, 0, 1, 2, 3, 4, 5], [5]), ([11, 12, 0, 1, 2, 3, 4, 5, 6, 7, 8, 9, 10, 11, 12], [11])])
def impl_consents.B7 : List Nat := [0, 0, 2, 6, 15, 31, 0, 0, 128, 384, 960, 1984, 63, 8191]
theorem impl_consents.tab7 : rtab .any (opsOf Try.f81 7) = impl_consents.T7 := by kernel_rfl
theorem impl_consents.bits7 : waitsOk impl_consents.T7.2 impl_consents.B7 = true := by kernel_rfl
set_option maxHeartbeats 8000000 in
set_option maxRecDepth 100000 in
theorem impl_consents.calls (k : Nat) (a0_0 : Int) (A0_1 : Option Addr) (c0_1 : Nat) (l0_1 : List Int) (A1 : Option Addr) (c1 : Nat) (l1 : List (S48)) (a2 : Int) (r : Bool) (w : World) (hr0_1 : Kd.C (Kd.int .i64) w A0_1 l0_1.length l0_1) (hc0_1 : l0_1.length ≤ c0_1) (hr1 : Kd.C k48 w A1 l1.length l1) (hc1 : l1.length ≤ c1) (h : impl_consents.f k a0_0 l0_1 l1 a2 = some r) :
  Calls Try.prog 81 #[.agg #[.int .i64 a0_0, .slice A0_1 l0_1.length c0_1], .slice A1 l1.length c1, .int .i64 a2] w fun e w' => e = .returned (.bool r) ∧ Below w.heap.size w w' := by
 have hu35 := Try.underlying35
 have hu48 := Try.underlying48
 have HR0_1 := Aside0.mk hr0_1
 have HC0_1 := Aside0.mk hc0_1
 clear hr0_1 hc0_1
 have HR1 := Aside0.mk hr1
 have HC1 := Aside0.mk hc1
 clear hr1 hc1
 have HB := Aside0.mk (Below.refl w.heap.size w)
 have H : (impl_consents.l0 k a2 (([] : List Bool)) l1 (l1.length : Int) 0 a0_0 l0_1) = some r := h
 clear h
 obtain ⟨y274, hy274⟩ : ∃ y_ : List Bool, y_ = (([] : List Bool)) := ⟨_, rfl⟩
 replace H : (impl_consents.l0 k a2 y274 l1 (l1.length : Int) 0 a0_0 l0_1) = some r := by (rw [hy274]; with_reducible exact H)
 have Ny274 := Aside0.mk hy274
 clear hy274
 have H' := Aside0.mk H
 clear H
 go_enter Try.func81, Try.ntmps81
 go_wp2_with (first | ((with_reducible refine gate_dst (N := 3) rfl ?_); refine box_event ?hg (N := 3) ?hd (cs := #[.int .i64 a0_0, .slice A0_1 l0_1.length c0_1]) (t := 35) ?hr ?_; (case hd => rfl); (case hg => rfl); (case hr => (go_simp; done)); intro gb273 hg w4 hbox hb; have n0_ := Aside0.mk (below_step (Z.bl HB.out) hb); have n1_ := Aside0.mk (hbox); have n2_ := Aside0.mk ((by rw [hg]; exact (below_size (Z.bl HB.out)) : w.heap.size ≤ gb273)); have n3_ := Aside0.mk ((by rw [hg]; exact (below_size (Z.bl HB.out)) : w.heap.size ≤ gb273)); clear HB; have HB := n0_; have BK273 := n1_; have GW273 := n2_; have GE273 := n3_; clear n0_ n1_ n2_ n3_; clear hb hbox hg) | ((with_reducible refine gate_dst (N := 13) rfl ?_); refine Kd.R_lit Kd.bool _ 4 ?hg (N := 13) ?hd (xs := ([] : List Bool)) (inner := []) (ok := fun _ => True) (okp := fun _ => True) ?hr ?hp (fun _ hk => hk) trivial (Below.refl _ _) (Nat.le_refl _) (by simp) ?_; (case hd => rfl); (case hg => rfl); (case hr => (go_simp; done)); (case hp => exact (Reps.none _ _)); intro v275 w5 ho6 hb hg_ hnew_; clear hg_ hnew_; (rw [← Ny274.out] at ho6); have n0_ := Aside0.mk (Kd.R_lower ho6 (below_size (Z.bs HB.out GE273.out))); have n1_ := Aside0.mk (blk_below (g := gb273) (o := .cells #[.int .i64 a0_0, .slice A0_1 l0_1.length c0_1] 35 (0, 0)) (Z.bk BK273.out) hb); have n2_ := Aside0.mk (below_step (Z.bs HB.out GE273.out) hb); clear BK273; clear HB; have HO276 := n0_; have BK273 := n1_; have HB := n2_; clear n0_ n1_ n2_; clear hb ho6))
 go_loopg [7, 16] k (fun kq v7 v16 w' => ∃ (x7_1 : List Bool) (x16_1 : Int), v16 = .int .i64 x16_1 ∧ Aside0 (impl_consents.l0 kq a2 x7_1 l1 (l1.length : Int) x16_1 a0_0 l0_1 = some r) ∧ Aside0 (kq ≤ k) ∧ Aside0 (Kd.R Kd.bool 4 w' w.heap.size (fun _ => True) v7 x7_1) ∧ Aside0 (w'.heap[gb273]? = some (.cells #[.int .i64 a0_0, (.slice A0_1 l0_1.length c0_1)] 35 (0, 0))) ∧ Aside0 (Below w.heap.size w w'))
 case atStart => exact ⟨(y274), (0), (by rfl), H', ⟨Nat.le_refl _⟩, ⟨by (with_reducible skip); exact HO276.out⟩, ⟨by (with_reducible skip); exact BK273.out⟩, ⟨Z.bs HB.out GE273.out⟩⟩
 case round =>
  clear H'
  obtain ⟨x7_1, x16_1, rfl, HA, HK1, HO_7, BK273, HB⟩ := hrel
  cases gk with
  | zero => exact absurd HA.out (by simp [impl_consents.l0])
  | succ k1 =>
   have H := HA.out
   clear HA
   simp only [impl_consents.l0] at H
   by_cases c7 : x16_1 < (l1.length : Int)
   ·rw [if_pos c7] at H
    have c7b0 : decide (x16_1 < (l1.length : Int)) = true := decide_eq_true c7
    clear c7
    by_cases c8 : 0 ≤ x16_1
    ·rw [if_pos c8] at H
     have c8b0 : decide (0 ≤ x16_1) = true := decide_eq_true c8
     clear c8
     by_cases c9 : x16_1 < (l1.length : Int)
     ·rw [if_pos c9] at H
      have c9b0 : decide (x16_1 < (l1.length : Int)) = true := decide_eq_true c9
      clear c9
      by_cases c10 : ((rd_T48 l1 x16_1).f0) = 0
      ·rw [if_pos c10] at H
       have c10b0 : (((rd_T48 l1 x16_1).f0) == 0) = true := beq_iff_eq.mpr c10
       have c10b1 : (((rd_T48 l1 x16_1).f0) != 0) = false := bne_eq_false_iff_eq.mpr c10
       clear c10
       by_cases c11 : 0 ≤ ((rd_T48 l1 x16_1).f1)
       ·rw [if_pos c11] at H
        have c11b0 : decide (0 ≤ ((rd_T48 l1 x16_1).f1)) = true := decide_eq_true c11
        clear c11
        by_cases c12 : ((rd_T48 l1 x16_1).f1) < (l0_1.length : Int)
        ·rw [if_pos c12] at H
         have c12b0 : decide (((rd_T48 l1 x16_1).f1) < (l0_1.length : Int)) = true := decide_eq_true c12
         clear c12
         replace H := Option.bind_eq_some_iff.mp H
         obtain ⟨t281, A130, H⟩ := H
         replace H : (if x7_1.length < 140737488355328 then (impl_consents.l0 k1 a2 (x7_1 ++ [decide (t281 ≥ ((rd_T48 l1 x16_1).f2))]) l1 (l1.length : Int) (wrap64 (x16_1 + 1)) a0_0 l0_1) else (none)) = some r := H
         have A13 := Aside0.mk A130
         clear A130
         by_cases c14 : x7_1.length < 140737488355328
         ·rw [if_pos c14] at H
          have LMc14 := Aside0.mk c14
          clear c14
          obtain ⟨y282, hy282⟩ : ∃ y_ : List Bool, y_ = (x7_1 ++ [decide (t281 ≥ ((rd_T48 l1 x16_1).f2))]) := ⟨_, rfl⟩
          replace H : (impl_consents.l0 k1 a2 y282 l1 (l1.length : Int) (wrap64 (x16_1 + 1)) a0_0 l0_1) = some r := by (rw [hy282]; with_reducible exact H)
          have Ny282 := Aside0.mk hy282
          clear hy282
          have H' := Aside0.mk H
          clear H
          have p278 : 0 ≤ (x16_1 : Int) := Z.od
          have q278 : x16_1 < (l1.length : Int) := Z.od
          obtain ⟨ad278, e278, hx278_0, hx278_1, hx278_2⟩ := at_T48 HR1.out x16_1 p278 q278
          cases e278
          replace hx278_0 := Z.up HB.out hx278_0
          replace hx278_1 := Z.up HB.out hx278_1
          replace hx278_2 := Z.up HB.out hx278_2
          replace p278 := eq_true p278
          replace q278 := eq_true q278
          try go_wp2_with (((with_reducible refine gate_dst (N := 9) rfl ?_); refine box_event ?hg (N := 9) ?hd (cs := #[.int .i64 0, .int .i64 0, .int .i64 0]) (t := 48) ?hr ?_; (case hd => rfl); (case hg => rfl); (case hr => (go_simp; done)); intro gb279 hg w15 hbox hb; have n0_ := Aside0.mk (Kd.R_below (by (with_reducible skip); exact HO_7.out) hb); have n1_ := Aside0.mk (blk_below (g := gb273) (o := .cells #[.int .i64 a0_0, .slice A0_1 l0_1.length c0_1] 35 (0, 0)) (Z.bk BK273.out) hb); have n2_ := Aside0.mk (below_step (Z.bs HB.out GE273.out) hb); have n3_ := Aside0.mk (hbox); have n4_ := Aside0.mk ((by rw [hg]; exact (below_size (Z.bs HB.out GE273.out)) : w.heap.size ≤ gb279)); have n5_ := Aside0.mk ((by rw [hg]; exact (below_size (Z.bs HB.out GE273.out)) : w.heap.size ≤ gb279)); have n6_ := Aside0.mk ((by rw [hg]; exact Nat.ne_of_lt (blk_lt (g := gb273) (o := .cells #[.int .i64 a0_0, .slice A0_1 l0_1.length c0_1] 35 (0, 0)) (Z.bk BK273.out)) : gb273 ≠ gb279)); have n7_ := Aside0.mk ((by rw [hg]; exact Nat.ne_of_gt (blk_lt (g := gb273) (o := .cells #[.int .i64 a0_0, .slice A0_1 l0_1.length c0_1] 35 (0, 0)) (Z.bk BK273.out)) : gb279 ≠ gb273)); clear HO_7; clear BK273; clear HB; have HO_7 := n0_; have BK273 := n1_; have HB := n2_; have BK279 := n3_; have GW279 := n4_; have GE279 := n5_; have NB273_279 := n6_; have NB279_273 := n7_; clear n0_ n1_ n2_ n3_ n4_ n5_ n6_ n7_; clear hb hbox hg; have hnb16 := NB279_273.out; have hnc16 := NB273_279.out; have hcz17_0 : w15.cell? ⟨gb279, 0, none⟩ = some (.int .i64 0) := (blk_cell BK279.out 0).trans rfl; have hcz17_1 : w15.cell? ⟨gb279, 1, none⟩ = some (.int .i64 0) := (blk_cell BK279.out 1).trans rfl; have hcz17_2 : w15.cell? ⟨gb279, 2, none⟩ = some (.int .i64 0) := (blk_cell BK279.out 2).trans rfl; have hfz17_0 := blk_frozen BK279.out 0; have hfz17_1 := blk_frozen BK279.out 1; have hfz17_2 := blk_frozen BK279.out 2))
          have n0_ : Aside0 (Kd.R Kd.bool 4 (((w15.setCell ⟨gb279, 0, none⟩ (.int .i64 ((rd_T48 l1 x16_1).f0))).setCell ⟨gb279, 1, none⟩ (.int .i64 ((rd_T48 l1 x16_1).f1))).setCell ⟨gb279, 2, none⟩ (.int .i64 ((rd_T48 l1 x16_1).f2))) w.heap.size (fun _ => True) u7 x7_1) := ⟨by (with_reducible skip); exact Kd.R_mono (Kd.R_far (p := ⟨gb279, 2, none⟩) (Kd.R_far (p := ⟨gb279, 1, none⟩) (Kd.R_far (p := ⟨gb279, 0, none⟩) (Kd.R_types HO_7.out BK279.out (by decide)) (fun _ hk => hk.2) (.int .i64 ((rd_T48 l1 x16_1).f0))) (fun _ hk => hk.2) (.int .i64 ((rd_T48 l1 x16_1).f1))) (fun _ hk => hk.2) (.int .i64 ((rd_T48 l1 x16_1).f2))) (fun _ hk => trivial)⟩
          have n1_ : Aside0 ((((w15.setCell ⟨gb279, 0, none⟩ (.int .i64 ((rd_T48 l1 x16_1).f0))).setCell ⟨gb279, 1, none⟩ (.int .i64 ((rd_T48 l1 x16_1).f1))).setCell ⟨gb279, 2, none⟩ (.int .i64 ((rd_T48 l1 x16_1).f2))).heap[gb273]? = some (.cells #[.int .i64 a0_0, .slice A0_1 l0_1.length c0_1] 35 (0, 0))) := ⟨by (with_reducible skip); refine blk_far ?_ NB273_279.out _; (with_reducible skip); refine blk_far ?_ NB273_279.out _; (with_reducible skip); refine blk_far ?_ NB273_279.out _; (with_reducible skip); exact BK273.out⟩
          have n2_ : Aside0 ((((w15.setCell ⟨gb279, 0, none⟩ (.int .i64 ((rd_T48 l1 x16_1).f0))).setCell ⟨gb279, 1, none⟩ (.int .i64 ((rd_T48 l1 x16_1).f1))).setCell ⟨gb279, 2, none⟩ (.int .i64 ((rd_T48 l1 x16_1).f2))).heap[gb279]? = some (.cells #[.int .i64 ((rd_T48 l1 x16_1).f0), .int .i64 ((rd_T48 l1 x16_1).f1), .int .i64 ((rd_T48 l1 x16_1).f2)] 48 (0, 0))) := ⟨by (with_reducible skip); refine blk_put (cs := #[.int .i64 ((rd_T48 l1 x16_1).f0), .int .i64 ((rd_T48 l1 x16_1).f1), .int .i64 0]) ?_ 2 _ rfl; (with_reducible skip); refine blk_put (cs := #[.int .i64 ((rd_T48 l1 x16_1).f0), .int .i64 0, .int .i64 0]) ?_ 1 _ rfl; (with_reducible skip); refine blk_put (cs := #[.int .i64 0, .int .i64 0, .int .i64 0]) ?_ 0 _ rfl; (with_reducible skip); exact BK279.out⟩
          have n3_ : Aside0 (Below w.heap.size w (((w15.setCell ⟨gb279, 0, none⟩ (.int .i64 ((rd_T48 l1 x16_1).f0))).setCell ⟨gb279, 1, none⟩ (.int .i64 ((rd_T48 l1 x16_1).f1))).setCell ⟨gb279, 2, none⟩ (.int .i64 ((rd_T48 l1 x16_1).f2)))) := ⟨by repeat ((with_reducible first | exact HB.out | refine below_set ?_ GE279.out))⟩
          (try clear HO_7)
          (try clear BK273)
          (try clear BK279)
          (try clear HB)
          generalize (((w15.setCell ⟨gb279, 0, none⟩ (.int .i64 ((rd_T48 l1 x16_1).f0))).setCell ⟨gb279, 1, none⟩ (.int .i64 ((rd_T48 l1 x16_1).f1))).setCell ⟨gb279, 2, none⟩ (.int .i64 ((rd_T48 l1 x16_1).f2))) = w18 at n0_ n1_ n2_ n3_ ⊢
          have HO_7 := n0_
          have BK273 := n1_
          have BK279 := n2_
          have HB := n3_
          clear n0_ n1_ n2_ n3_
          have n0_ := Aside0.mk (Kd.R_drew HO_7.out)
          have n1_ := Aside0.mk (blk_drew BK273.out)
          have n2_ := Aside0.mk (blk_drew BK279.out)
          have n3_ := Aside0.mk (below_drew1 HB.out)
          clear HO_7
          clear BK273
          clear BK279
          clear HB
          have HO_7 := n0_
          have BK273 := n1_
          have BK279 := n2_
          have HB := n3_
          clear n0_ n1_ n2_ n3_
          have p280 : 0 ≤ (((rd_T48 l1 x16_1).f1) : Int) := Z.od
          have q280 : ((rd_T48 l1 x16_1).f1) < (l0_1.length : Int) := Z.od
          obtain ⟨ad280, e280, hx280_0⟩ := Kd.at_int HR0_1.out ((rd_T48 l1 x16_1).f1) p280 q280
          have hw280_0 := hx280_0
          cases e280
          replace hx280_0 := Z.up HB.out hx280_0
          replace p280 := eq_true p280
          replace q280 := eq_true q280
          refine start_ (n := 16) (S := fun w' => w'.cell? ⟨gb273, 0, none⟩ = some (.int .i64 a0_0) ∧ w'.cell? ⟨gb273, 1, none⟩ = some (.slice (some ad280) l0_1.length c0_1) ∧ w'.cell? ⟨gb279, 0, none⟩ = some (.int .i64 ((rd_T48 l1 x16_1).f0)) ∧ w'.cell? ⟨gb279, 1, none⟩ = some (.int .i64 ((rd_T48 l1 x16_1).f1)) ∧ w'.cell? ⟨gb279, 2, none⟩ = some (.int .i64 ((rd_T48 l1 x16_1).f2)) ∧ w'.cell? (ad280.add (((rd_T48 l1 x16_1).f1)).toNat) = some (.int .i64 (rd l0_1 ((rd_T48 l1 x16_1).f1)))) (ds := []) #[false, false, false, false, false, false, false, false, false, false, false, false, false, false, false, false] (by kernel_rfl) rfl rfl ⟨(blk_cell BK273.out 0).trans rfl, (blk_cell BK273.out 1).trans rfl, (blk_cell BK279.out 0).trans rfl, (blk_cell BK279.out 1).trans rfl, (blk_cell BK279.out 2).trans rfl, ((HB.out.cell (World.block_lt_of_cell? w _ hw280_0)).trans hw280_0)⟩ (fun hHeld => ?_); refine with_tabW impl_consents.tab6 impl_consents.bits6 (fun HT_ HW_ => ?_)
          generalize w18.drew = w19 at HO_7 BK273 BK279 HB hx280_0 hHeld ⊢
          refine Z.pv 0 23 16 1 HT_.out ?_
          refine Z.pv 1 24 16 3 HT_.out ?_
          refine Z.pv 3 26 16 11 HT_.out ?_
          refine Z.pv 7 30 16 139 HT_.out ?_
          refine Z.pv 10 33 16 1163 HT_.out ?_
          refine Z.t6 2 25 16 1167 HT_.out HW_.out hHeld ?_
          refine Z.t6 4 27 16 1183 HT_.out HW_.out hHeld ?_
          refine Z.pv 5 28 16 1215 HT_.out ?_
          refine Z.t6 6 29 16 1279 HT_.out HW_.out hHeld ?_
          refine Z.pv 8 31 16 1535 HT_.out ?_
          refine Z.t6 11 34 16 3583 HT_.out HW_.out hHeld ?_
          refine one_ (i := 9) (N := some 32) (Z.mb 16 4095) rfl rfl (one_of HT_.out (by kernel_rfl)) (by decide) (fun K hK => ?_)
          refine goes_ Try.func74 (by kernel_rfl) rfl #[.int .i64 (Go.bits .and .i64 (rd l0_1 ((rd_T48 l1 x16_1).f1)) a2)] (by rfl) rfl rfl Z.ar ?_
          with_reducible refine (impl_headsOf.calls (Go.bits .and .i64 (rd l0_1 ((rd_T48 l1 x16_1).f1)) a2) t281 _ A13.out).mono ?_
          rintro e w' ⟨rfl, ⟨nd, rfl⟩⟩
          refine ⟨_, rfl, ?_⟩
          refine hK.out _ _ ⟨(blk_cell BK273.out 0).trans rfl, (blk_cell BK273.out 1).trans rfl, (blk_cell BK279.out 0).trans rfl, (blk_cell BK279.out 1).trans rfl, (blk_cell BK279.out 2).trans rfl, ((HB.out.cell (World.block_lt_of_cell? w _ hw280_0)).trans hw280_0)⟩ (fun hHeld => ?_)
          clear hK K
          refine Z.nm ?_
          refine Z.pv 12 35 16 8191 HT_.out ?_
          refine one_ (i := 13) (N := some 36) (Z.mb 16 16383) rfl rfl (one_of HT_.out (by kernel_rfl)) (by decide) (fun K hK => ?_)
          refine value_ (w1 := ?_) (v := ?_) (by rfl) rfl ?_ ?_
          rotate_left 2
          ·go_simp
           constructor
           ·rfl
           ·rfl
          refine hK.out _ _ ⟨(blk_cell (blk_alloc BK273.out _) 0).trans rfl, (blk_cell (blk_alloc BK273.out _) 1).trans rfl, (blk_cell (blk_alloc BK279.out _) 0).trans rfl, (blk_cell (blk_alloc BK279.out _) 1).trans rfl, (blk_cell (blk_alloc BK279.out _) 2).trans rfl, (World.cell?_alloc_lt _ _ _ (World.block_lt_of_cell? _ _ (((HB.out.cell (World.block_lt_of_cell? w _ hw280_0)).trans hw280_0)))).trans (((HB.out.cell (World.block_lt_of_cell? w _ hw280_0)).trans hw280_0))⟩ (fun hHeld => ?_)
          clear hK K
          refine Z.nm ?_
          refine one_ (i := 14) (N := some 37) (Z.mb 16 32767) rfl rfl (one_of HT_.out (by kernel_rfl)) (by decide) (fun K hK => ?_)
          refine Kd.R_append_step Kd.bool (w0 := w) w.heap.size (by rfl) (.tmp 23) (.tmp 36) 118 4 (.bool false) 1 rfl Try.underlying118 info4 rfl (by decide) (by omega) u7 x7_1 (decide (t281 ≥ ((rd_T48 l1 x16_1).f2))) [.bool (decide (t281 ≥ ((rd_T48 l1 x16_1).f2)))] (fun _ => True) (fun _ => False) rfl rfl ?aP (fun _ hk => hk.elim) ?aF ?aO ?aB ?aS ?aL ?_
          (case aP => exact rfl)
          (case aB => exact (by repeat ((with_reducible first | exact HB.out | apply pw_below_drewN))))
          (case aF => exact (fun _ _ => trivial))
          (case aO => exact (by (with_reducible repeat (apply Kd.R_drewN)); exact HO_7.out))
          (case aS => exact (below_size (by repeat ((with_reducible first | exact HB.out | apply pw_below_drewN)))))
          (case aL => have := LMc14.out; omega)
          intro v283 w20 ho hb hg hat
          rw [← Ny282.out] at ho
          have n0_ := Aside0.mk (blk_grown (g := gb273) (o := .cells #[.int .i64 a0_0, .slice (some ad280) l0_1.length c0_1] 35 (0, 0)) (Z.bk BK273.out) hg (Kd.R_ne HO_7.out BK273.out (by decide)))
          have n1_ := Aside0.mk (blk_grown (g := gb279) (o := .cells #[.int .i64 ((rd_T48 l1 x16_1).f0), .int .i64 ((rd_T48 l1 x16_1).f1), .int .i64 ((rd_T48 l1 x16_1).f2)] 48 (0, 0)) (Z.bk BK279.out) hg (Kd.R_ne HO_7.out BK279.out (by decide)))
          have n2_ := Aside0.mk (hb)
          have n3_ := Aside0.mk (ho)
          clear BK273
          clear BK279
          clear HB
          clear HO_7
          have BK273 := n0_
          have BK279 := n1_
          have HB := n2_
          have HO284 := n3_
          clear n0_ n1_ n2_ n3_
          clear ho hb hg hat
          refine hK.out _ _ ⟨(blk_cell BK273.out 0).trans rfl, (blk_cell BK273.out 1).trans rfl, (blk_cell BK279.out 0).trans rfl, (blk_cell BK279.out 1).trans rfl, (blk_cell BK279.out 2).trans rfl, ((HB.out.cell (World.block_lt_of_cell? w _ hw280_0)).trans hw280_0)⟩ (fun hHeld => ?_)
          clear hK K
          refine Z.nm ?_
          refine Z.pv 15 7 16 65535 HT_.out ?_
          refine done_ (done_of HT_.out (by kernel_rfl)) ?_
          try go_wp2
          go_roundg k1
          case measure => have := HK1.out; omega
          case rel => exact ⟨(y282), (wrap64 (x16_1 + 1)), (by rfl), H', ⟨by have := HK1.out; omega⟩, ⟨by (with_reducible skip); exact HO284.out⟩, ⟨by (with_reducible skip); exact BK273.out⟩, ⟨by repeat ((with_reducible exact HB.out))⟩⟩
         ·rw [if_neg c14] at H
          exact absurd H (by simp)
        ·rw [if_neg c12] at H
         exact absurd H (by simp)
       ·rw [if_neg c11] at H
        exact absurd H (by simp)
      ·rw [if_neg c10] at H
       have c10b0 : (((rd_T48 l1 x16_1).f0) == 0) = false := beq_eq_false_iff_ne.mpr c10
       have c10b1 : (((rd_T48 l1 x16_1).f0) != 0) = true := bne_iff_ne.mpr c10
       obtain ⟨ji21, hji21⟩ : ∃ j_ : Int, (wrap64 ((x7_1.length : Int) - 2)) = j_ := ⟨_, rfl⟩
       replace H : (if 0 ≤ (ji21) then (if (ji21) < (x7_1.length : Int) then (if 0 ≤ (wrap64 ((x7_1.length : Int) - 1)) then (if (wrap64 ((x7_1.length : Int) - 1)) < (x7_1.length : Int) then (if rdOf false x7_1 (ji21) = true then (if ((rd_T48 l1 x16_1).f0) = 2 then (if (ji21) ≤ (x7_1.length : Int) then ((some (x7_1.take ((ji21) : Int).toNat : List Bool)).bind fun y287 => (if y287.length < 140737488355328 then (impl_consents.l0 k1 a2 (y287 ++ [true]) l1 (l1.length : Int) (wrap64 (x16_1 + 1)) a0_0 l0_1) else (none))) else (none)) else (if (ji21) ≤ (x7_1.length : Int) then ((some (x7_1.take ((ji21) : Int).toNat : List Bool)).bind fun y293 => (if y293.length < 140737488355328 then (impl_consents.l0 k1 a2 (y293 ++ [rdOf false x7_1 (wrap64 ((x7_1.length : Int) - 1))]) l1 (l1.length : Int) (wrap64 (x16_1 + 1)) a0_0 l0_1) else (none))) else (none))) else (if ((rd_T48 l1 x16_1).f0) = 2 then (if (ji21) ≤ (x7_1.length : Int) then ((some (x7_1.take ((ji21) : Int).toNat : List Bool)).bind fun y299 => (if y299.length < 140737488355328 then (impl_consents.l0 k1 a2 (y299 ++ [rdOf false x7_1 (wrap64 ((x7_1.length : Int) - 1))]) l1 (l1.length : Int) (wrap64 (x16_1 + 1)) a0_0 l0_1) else (none))) else (none)) else (if (ji21) ≤ (x7_1.length : Int) then ((some (x7_1.take ((ji21) : Int).toNat : List Bool)).bind fun y305 => (if y305.length < 140737488355328 then (impl_consents.l0 k1 a2 (y305 ++ [false]) l1 (l1.length : Int) (wrap64 (x16_1 + 1)) a0_0 l0_1) else (none))) else (none)))) else (none)) else (none)) else (none)) else (none)) = some r := by (rw [hji21] at H; exact H)
       have hji21w : (IntKind.i64.wrap ((x7_1.length : Int) - 2)) = ji21 := (i64_w _).trans hji21
       by_cases c22 : 0 ≤ (ji21)
       ·rw [if_pos c22] at H
        have c22b0 : decide (0 ≤ (ji21)) = true := decide_eq_true c22
        clear c22
        by_cases c23 : (ji21) < (x7_1.length : Int)
        ·rw [if_pos c23] at H
         have c23b0 : decide ((ji21) < (x7_1.length : Int)) = true := decide_eq_true c23
         clear c23
         obtain ⟨ji24, hji24⟩ : ∃ j_ : Int, (wrap64 ((x7_1.length : Int) - 1)) = j_ := ⟨_, rfl⟩
         replace H : (if 0 ≤ (ji24) then (if (ji24) < (x7_1.length : Int) then (if rdOf false x7_1 (ji21) = true then (if ((rd_T48 l1 x16_1).f0) = 2 then (if (ji21) ≤ (x7_1.length : Int) then ((some (x7_1.take ((ji21) : Int).toNat : List Bool)).bind fun y287 => (if y287.length < 140737488355328 then (impl_consents.l0 k1 a2 (y287 ++ [true]) l1 (l1.length : Int) (wrap64 (x16_1 + 1)) a0_0 l0_1) else (none))) else (none)) else (if (ji21) ≤ (x7_1.length : Int) then ((some (x7_1.take ((ji21) : Int).toNat : List Bool)).bind fun y293 => (if y293.length < 140737488355328 then (impl_consents.l0 k1 a2 (y293 ++ [rdOf false x7_1 (ji24)]) l1 (l1.length : Int) (wrap64 (x16_1 + 1)) a0_0 l0_1) else (none))) else (none))) else (if ((rd_T48 l1 x16_1).f0) = 2 then (if (ji21) ≤ (x7_1.length : Int) then ((some (x7_1.take ((ji21) : Int).toNat : List Bool)).bind fun y299 => (if y299.length < 140737488355328 then (impl_consents.l0 k1 a2 (y299 ++ [rdOf false x7_1 (ji24)]) l1 (l1.length : Int) (wrap64 (x16_1 + 1)) a0_0 l0_1) else (none))) else (none)) else (if (ji21) ≤ (x7_1.length : Int) then ((some (x7_1.take ((ji21) : Int).toNat : List Bool)).bind fun y305 => (if y305.length < 140737488355328 then (impl_consents.l0 k1 a2 (y305 ++ [false]) l1 (l1.length : Int) (wrap64 (x16_1 + 1)) a0_0 l0_1) else (none))) else (none)))) else (none)) else (none)) = some r := by (rw [hji24] at H; exact H)
         have hji24w : (IntKind.i64.wrap ((x7_1.length : Int) - 1)) = ji24 := (i64_w _).trans hji24
         by_cases c25 : 0 ≤ (ji24)
         ·rw [if_pos c25] at H
          have c25b0 : decide (0 ≤ (ji24)) = true := decide_eq_true c25
          clear c25
          by_cases c26 : (ji24) < (x7_1.length : Int)
          ·rw [if_pos c26] at H
           have c26b0 : decide ((ji24) < (x7_1.length : Int)) = true := decide_eq_true c26
           clear c26
           obtain ⟨bq27, hbq27⟩ : ∃ b_ : Bool, b_ = (rdOf false x7_1 (ji21)) := ⟨_, rfl⟩
           replace H : (if bq27 = true then (if ((rd_T48 l1 x16_1).f0) = 2 then (if (ji21) ≤ (x7_1.length : Int) then ((some (x7_1.take ((ji21) : Int).toNat : List Bool)).bind fun y287 => (if y287.length < 140737488355328 then (impl_consents.l0 k1 a2 (y287 ++ [true]) l1 (l1.length : Int) (wrap64 (x16_1 + 1)) a0_0 l0_1) else (none))) else (none)) else (if (ji21) ≤ (x7_1.length : Int) then ((some (x7_1.take ((ji21) : Int).toNat : List Bool)).bind fun y293 => (if y293.length < 140737488355328 then (impl_consents.l0 k1 a2 (y293 ++ [rdOf false x7_1 (ji24)]) l1 (l1.length : Int) (wrap64 (x16_1 + 1)) a0_0 l0_1) else (none))) else (none))) else (if ((rd_T48 l1 x16_1).f0) = 2 then (if (ji21) ≤ (x7_1.length : Int) then ((some (x7_1.take ((ji21) : Int).toNat : List Bool)).bind fun y299 => (if y299.length < 140737488355328 then (impl_consents.l0 k1 a2 (y299 ++ [rdOf false x7_1 (ji24)]) l1 (l1.length : Int) (wrap64 (x16_1 + 1)) a0_0 l0_1) else (none))) else (none)) else (if (ji21) ≤ (x7_1.length : Int) then ((some (x7_1.take ((ji21) : Int).toNat : List Bool)).bind fun y305 => (if y305.length < 140737488355328 then (impl_consents.l0 k1 a2 (y305 ++ [false]) l1 (l1.length : Int) (wrap64 (x16_1 + 1)) a0_0 l0_1) else (none))) else (none)))) = some r := by rw [← hbq27] at H; exact H
           have Nbq27 := Aside0.mk hbq27
           clear hbq27
           by_cases c28 : bq27 = true
           ·subst c28
            have H1 : (if ((rd_T48 l1 x16_1).f0) = 2 then (if (ji21) ≤ (x7_1.length : Int) then ((some (x7_1.take ((ji21) : Int).toNat : List Bool)).bind fun y287 => (if y287.length < 140737488355328 then (impl_consents.l0 k1 a2 (y287 ++ [true]) l1 (l1.length : Int) (wrap64 (x16_1 + 1)) a0_0 l0_1) else (none))) else (none)) else (if (ji21) ≤ (x7_1.length : Int) then ((some (x7_1.take ((ji21) : Int).toNat : List Bool)).bind fun y293 => (if y293.length < 140737488355328 then (impl_consents.l0 k1 a2 (y293 ++ [rdOf false x7_1 (ji24)]) l1 (l1.length : Int) (wrap64 (x16_1 + 1)) a0_0 l0_1) else (none))) else (none))) = some r := by rw [if_pos rfl] at H; exact H
            clear H
            have H := H1
            clear H1
            by_cases c29 : ((rd_T48 l1 x16_1).f0) = 2
            ·rw [if_pos c29] at H
             have c29b0 : (((rd_T48 l1 x16_1).f0) == 2) = true := beq_iff_eq.mpr c29
             have c29b1 : (((rd_T48 l1 x16_1).f0) != 2) = false := bne_eq_false_iff_eq.mpr c29
             clear c29
             by_cases c30 : (ji21) ≤ (x7_1.length : Int)
             ·rw [if_pos c30] at H
              have c30b0 := eq_true c30
              have c30b1 : decide ((ji21) ≤ (x7_1.length : Int)) = true := decide_eq_true c30
              clear c30
              obtain ⟨y287, hy287⟩ : ∃ y_ : List Bool, y_ = (x7_1.take ((ji21) : Int).toNat) := ⟨_, rfl⟩
              replace H : (if y287.length < 140737488355328 then (impl_consents.l0 k1 a2 (y287 ++ [true]) l1 (l1.length : Int) (wrap64 (x16_1 + 1)) a0_0 l0_1) else (none)) = some r := by (have H2_ := (Option.bind_some _ _).symm.trans H; rw [hy287]; with_reducible exact H2_)
              have Ny287 := Aside0.mk hy287
              clear hy287
              by_cases c31 : y287.length < 140737488355328
              ·rw [if_pos c31] at H
               have LMc31 := Aside0.mk c31
               clear c31
               obtain ⟨y290, hy290⟩ : ∃ y_ : List Bool, y_ = (y287 ++ [true]) := ⟨_, rfl⟩
               replace H : (impl_consents.l0 k1 a2 y290 l1 (l1.length : Int) (wrap64 (x16_1 + 1)) a0_0 l0_1) = some r := by (rw [hy290]; with_reducible exact H)
               have Ny290 := Aside0.mk hy290
               clear hy290
               have H' := Aside0.mk H
               clear H
               have p278 : 0 ≤ (x16_1 : Int) := Z.od
               have q278 : x16_1 < (l1.length : Int) := Z.od
               obtain ⟨ad278, e278, hx278_0, hx278_1, hx278_2⟩ := at_T48 HR1.out x16_1 p278 q278
               cases e278
               replace hx278_0 := Z.up HB.out hx278_0
               replace hx278_1 := Z.up HB.out hx278_1
               replace hx278_2 := Z.up HB.out hx278_2
               replace p278 := eq_true p278
               replace q278 := eq_true q278
               try go_wp2_with (((with_reducible refine gate_dst (N := 9) rfl ?_); refine box_event ?hg (N := 9) ?hd (cs := #[.int .i64 0, .int .i64 0, .int .i64 0]) (t := 48) ?hr ?_; (case hd => rfl); (case hg => rfl); (case hr => (go_simp; done)); intro gb279 hg w32 hbox hb; have n0_ := Aside0.mk (Kd.R_below (by (with_reducible skip); exact HO_7.out) hb); have n1_ := Aside0.mk (blk_below (g := gb273) (o := .cells #[.int .i64 a0_0, .slice A0_1 l0_1.length c0_1] 35 (0, 0)) (Z.bk BK273.out) hb); have n2_ := Aside0.mk (below_step (Z.bs HB.out GE273.out) hb); have n3_ := Aside0.mk (hbox); have n4_ := Aside0.mk ((by rw [hg]; exact (below_size (Z.bs HB.out GE273.out)) : w.heap.size ≤ gb279)); have n5_ := Aside0.mk ((by rw [hg]; exact (below_size (Z.bs HB.out GE273.out)) : w.heap.size ≤ gb279)); have n6_ := Aside0.mk ((by rw [hg]; exact Nat.ne_of_lt (blk_lt (g := gb273) (o := .cells #[.int .i64 a0_0, .slice A0_1 l0_1.length c0_1] 35 (0, 0)) (Z.bk BK273.out)) : gb273 ≠ gb279)); have n7_ := Aside0.mk ((by rw [hg]; exact Nat.ne_of_gt (blk_lt (g := gb273) (o := .cells #[.int .i64 a0_0, .slice A0_1 l0_1.length c0_1] 35 (0, 0)) (Z.bk BK273.out)) : gb279 ≠ gb273)); clear HO_7; clear BK273; clear HB; have HO_7 := n0_; have BK273 := n1_; have HB := n2_; have BK279 := n3_; have GW279 := n4_; have GE279 := n5_; have NB273_279 := n6_; have NB279_273 := n7_; clear n0_ n1_ n2_ n3_ n4_ n5_ n6_ n7_; clear hb hbox hg; have hnb33 := NB279_273.out; have hnc33 := NB273_279.out; have hcz34_0 : w32.cell? ⟨gb279, 0, none⟩ = some (.int .i64 0) := (blk_cell BK279.out 0).trans rfl; have hcz34_1 : w32.cell? ⟨gb279, 1, none⟩ = some (.int .i64 0) := (blk_cell BK279.out 1).trans rfl; have hcz34_2 : w32.cell? ⟨gb279, 2, none⟩ = some (.int .i64 0) := (blk_cell BK279.out 2).trans rfl; have hfz34_0 := blk_frozen BK279.out 0; have hfz34_1 := blk_frozen BK279.out 1; have hfz34_2 := blk_frozen BK279.out 2))
               have n0_ : Aside0 (Kd.R Kd.bool 4 (((w32.setCell ⟨gb279, 0, none⟩ (.int .i64 ((rd_T48 l1 x16_1).f0))).setCell ⟨gb279, 1, none⟩ (.int .i64 ((rd_T48 l1 x16_1).f1))).setCell ⟨gb279, 2, none⟩ (.int .i64 ((rd_T48 l1 x16_1).f2))) w.heap.size (fun _ => True) u7 x7_1) := ⟨by (with_reducible skip); exact Kd.R_mono (Kd.R_far (p := ⟨gb279, 2, none⟩) (Kd.R_far (p := ⟨gb279, 1, none⟩) (Kd.R_far (p := ⟨gb279, 0, none⟩) (Kd.R_types HO_7.out BK279.out (by decide)) (fun _ hk => hk.2) (.int .i64 ((rd_T48 l1 x16_1).f0))) (fun _ hk => hk.2) (.int .i64 ((rd_T48 l1 x16_1).f1))) (fun _ hk => hk.2) (.int .i64 ((rd_T48 l1 x16_1).f2))) (fun _ hk => trivial)⟩
               have n1_ : Aside0 ((((w32.setCell ⟨gb279, 0, none⟩ (.int .i64 ((rd_T48 l1 x16_1).f0))).setCell ⟨gb279, 1, none⟩ (.int .i64 ((rd_T48 l1 x16_1).f1))).setCell ⟨gb279, 2, none⟩ (.int .i64 ((rd_T48 l1 x16_1).f2))).heap[gb273]? = some (.cells #[.int .i64 a0_0, .slice A0_1 l0_1.length c0_1] 35 (0, 0))) := ⟨by (with_reducible skip); refine blk_far ?_ NB273_279.out _; (with_reducible skip); refine blk_far ?_ NB273_279.out _; (with_reducible skip); refine blk_far ?_ NB273_279.out _; (with_reducible skip); exact BK273.out⟩
               have n2_ : Aside0 ((((w32.setCell ⟨gb279, 0, none⟩ (.int .i64 ((rd_T48 l1 x16_1).f0))).setCell ⟨gb279, 1, none⟩ (.int .i64 ((rd_T48 l1 x16_1).f1))).setCell ⟨gb279, 2, none⟩ (.int .i64 ((rd_T48 l1 x16_1).f2))).heap[gb279]? = some (.cells #[.int .i64 ((rd_T48 l1 x16_1).f0), .int .i64 ((rd_T48 l1 x16_1).f1), .int .i64 ((rd_T48 l1 x16_1).f2)] 48 (0, 0))) := ⟨by (with_reducible skip); refine blk_put (cs := #[.int .i64 ((rd_T48 l1 x16_1).f0), .int .i64 ((rd_T48 l1 x16_1).f1), .int .i64 0]) ?_ 2 _ rfl; (with_reducible skip); refine blk_put (cs := #[.int .i64 ((rd_T48 l1 x16_1).f0), .int .i64 0, .int .i64 0]) ?_ 1 _ rfl; (with_reducible skip); refine blk_put (cs := #[.int .i64 0, .int .i64 0, .int .i64 0]) ?_ 0 _ rfl; (with_reducible skip); exact BK279.out⟩
               have n3_ : Aside0 (Below w.heap.size w (((w32.setCell ⟨gb279, 0, none⟩ (.int .i64 ((rd_T48 l1 x16_1).f0))).setCell ⟨gb279, 1, none⟩ (.int .i64 ((rd_T48 l1 x16_1).f1))).setCell ⟨gb279, 2, none⟩ (.int .i64 ((rd_T48 l1 x16_1).f2)))) := ⟨by repeat ((with_reducible first | exact HB.out | refine below_set ?_ GE279.out))⟩
               (try clear HO_7)
               (try clear BK273)
               (try clear BK279)
               (try clear HB)
               generalize (((w32.setCell ⟨gb279, 0, none⟩ (.int .i64 ((rd_T48 l1 x16_1).f0))).setCell ⟨gb279, 1, none⟩ (.int .i64 ((rd_T48 l1 x16_1).f1))).setCell ⟨gb279, 2, none⟩ (.int .i64 ((rd_T48 l1 x16_1).f2))) = w35 at n0_ n1_ n2_ n3_ ⊢
               have HO_7 := n0_
               have BK273 := n1_
               have BK279 := n2_
               have HB := n3_
               clear n0_ n1_ n2_ n3_
               have n0_ := Aside0.mk (Kd.R_drew HO_7.out)
               have n1_ := Aside0.mk (blk_drew BK273.out)
               have n2_ := Aside0.mk (blk_drew BK279.out)
               have n3_ := Aside0.mk (below_drew1 HB.out)
               clear HO_7
               clear BK273
               clear BK279
               clear HB
               have HO_7 := n0_
               have BK273 := n1_
               have BK279 := n2_
               have HB := n3_
               clear n0_ n1_ n2_ n3_
               obtain ⟨Ao37, co37, eo37⟩ := Kd.R_slice HO_7.out
               (subst eo37)
               have p285 : 0 ≤ ((ji21) : Int) := Z.od
               have q285 : (ji21) < (x7_1.length : Int) := Z.od
               obtain ⟨ad285, e285, hx285_0⟩ := Kd.at_bool (Kd.R_reads' HO_7.out).2.2 (ji21) p285 q285
               (try rw [← Nbq27.out] at hx285_0)
               cases e285
               replace p285 := eq_true p285
               replace q285 := eq_true q285
               have p286 : 0 ≤ ((ji24) : Int) := Z.od
               have q286 : (ji24) < (x7_1.length : Int) := Z.od
               obtain ⟨ad286, e286, hx286_0⟩ := Kd.at_bool (Kd.R_reads' HO_7.out).2.2 (ji24) p286 q286
               obtain rfl : ad285 = ad286 := (by injection e286)
               replace p286 := eq_true p286
               replace q286 := eq_true q286
               refine start_ (n := 14) (S := fun w' => w'.cell? (ad285.add ((ji21)).toNat) = some (.bool true) ∧ w'.cell? (ad285.add ((ji24)).toNat) = some (.bool (rdOf false x7_1 (ji24)))) (ds := []) #[false, false, false, false, false, false, false, false, false, false, false, false, false, false] (by kernel_rfl) rfl rfl ⟨hx285_0, hx286_0⟩ (fun hHeld => ?_); refine with_tabW impl_consents.tab7 impl_consents.bits7 (fun HT_ HW_ => ?_)
               generalize w35.drew = w36 at HO_7 BK273 BK279 HB hx285_0 hx286_0 hHeld ⊢
               refine Z.pv 0 38 14 1 HT_.out ?_
               refine Z.pv 1 39 14 3 HT_.out ?_
               refine Z.pv 2 40 14 7 HT_.out ?_
               refine Z.pv 3 41 14 15 HT_.out ?_
               refine Z.pv 4 42 14 31 HT_.out ?_
               refine Z.pv 6 44 14 95 HT_.out ?_
               refine Z.pv 7 45 14 223 HT_.out ?_
               refine Z.pv 8 46 14 479 HT_.out ?_
               refine Z.pv 9 47 14 991 HT_.out ?_
               refine Z.pv 10 48 14 2015 HT_.out ?_
               refine Z.t2 5 43 14 2047 HT_.out HW_.out hHeld ?_
               refine Z.pv 12 10 14 6143 HT_.out ?_
               refine Z.t2 11 49 14 8191 HT_.out HW_.out hHeld ?_
               refine Z.pv 13 11 14 16383 HT_.out ?_
               refine done_ (done_of HT_.out (by kernel_rfl)) ?_
               have hcz38_0 : w36.cell? ⟨gb279, 0, none⟩ = some (.int .i64 ((rd_T48 l1 x16_1).f0)) := (blk_cell BK279.out 0).trans rfl
               have hcz38_1 : w36.cell? ⟨gb279, 1, none⟩ = some (.int .i64 ((rd_T48 l1 x16_1).f1)) := (blk_cell BK279.out 1).trans rfl
               have hcz38_2 : w36.cell? ⟨gb279, 2, none⟩ = some (.int .i64 ((rd_T48 l1 x16_1).f2)) := (blk_cell BK279.out 2).trans rfl
               have hfz38_0 := blk_frozen BK279.out 0
               have hfz38_1 := blk_frozen BK279.out 1
               have hfz38_2 := blk_frozen BK279.out 2
               have q39 : ((ji21) : Int) ≤ ((x7_1.length : Int) : Int) := Z.od
               obtain ⟨i039, hi039, _, hsz39, _⟩ := info_parts info4
               have hcut39 := cut_to (P := Try.prog) 118 4 .i64 Try.underlying118 hi039 (some ad285) x7_1.length co37 (ji21) (Z.od) q39 (Kd.R_reads' HO_7.out).2.1
               have hr39 := Kd.R_take (m := ((ji21) : Int).toNat) HO_7.out (by omega)
               have hy39 : y287.length = ((ji21) : Int).toNat := (by rw [Ny287.out, List.length_take]; omega)
               rw [← Ny287.out] at hr39
               rw [← hy39] at hr39 hcut39
               clear hy39 hi039 hsz39 HO_7
               have HO289 := Aside0.mk hr39
               clear hr39
               replace q39 := eq_true q39
               try go_wp2_with (((with_reducible refine gate_builtin (b := .append) (xs := #[.tmp 65, .tmp 67]) rfl ?_); at_builtin; refine Kd.R_append Kd.bool (w0 := w) w.heap.size rfl (.tmp 65) (.tmp 67) 118 4 (.bool false) 1 rfl Try.underlying118 info4 rfl (by decide) (by omega) (.slice (some ad285) y287.length co37) y287 true [.bool true] (fun _ => True) (fun _ => False) rfl rfl ?aP (fun _ hk => hk.elim) ?aF ?aO ?aB ?aS ?aL ?_; (case aP => exact rfl); (case aB => exact (by repeat ((with_reducible exact HB.out)))); (case aF => exact (fun _ _ => trivial)); (case aO => exact (by (with_reducible skip); exact HO289.out)); (case aS => exact (below_size (by repeat ((with_reducible exact HB.out))))); (case aL => have := LMc31.out; omega); intro v291 w40 ho hb hg hat; rw [← Ny290.out] at ho; have n0_ := Aside0.mk (blk_grown (g := gb273) (o := .cells #[.int .i64 a0_0, .slice A0_1 l0_1.length c0_1] 35 (0, 0)) (Z.bk BK273.out) hg (Kd.R_ne HO289.out BK273.out (by decide))); have n1_ := Aside0.mk (blk_grown (g := gb279) (o := .cells #[.int .i64 ((rd_T48 l1 x16_1).f0), .int .i64 ((rd_T48 l1 x16_1).f1), .int .i64 ((rd_T48 l1 x16_1).f2)] 48 (0, 0)) (Z.bk BK279.out) hg (Kd.R_ne HO289.out BK279.out (by decide))); have n2_ := Aside0.mk (hb); have n3_ := Aside0.mk (ho); clear BK273; clear BK279; clear HB; clear HO289; have BK273 := n0_; have BK279 := n1_; have HB := n2_; have HO292 := n3_; clear n0_ n1_ n2_ n3_; clear ho hb hg hat))
               go_roundg k1
               case measure => have := HK1.out; omega
               case rel => exact ⟨(y290), (wrap64 (x16_1 + 1)), (by rfl), H', ⟨by have := HK1.out; omega⟩, ⟨by (with_reducible skip); exact HO292.out⟩, ⟨by (with_reducible skip); exact BK273.out⟩, ⟨by repeat ((with_reducible exact HB.out))⟩⟩
              ·rw [if_neg c31] at H
               exact absurd H (by simp)
             ·rw [if_neg c30] at H
              exact absurd H (by simp)
            ·rw [if_neg c29] at H
             have c29b0 : (((rd_T48 l1 x16_1).f0) == 2) = false := beq_eq_false_iff_ne.mpr c29
             have c29b1 : (((rd_T48 l1 x16_1).f0) != 2) = true := bne_iff_ne.mpr c29
             by_cases c41 : (ji21) ≤ (x7_1.length : Int)
             ·rw [if_pos c41] at H
              have c41b0 := eq_true c41
              have c41b1 : decide ((ji21) ≤ (x7_1.length : Int)) = true := decide_eq_true c41
              clear c41
              obtain ⟨y293, hy293⟩ : ∃ y_ : List Bool, y_ = (x7_1.take ((ji21) : Int).toNat) := ⟨_, rfl⟩
              replace H : (if y293.length < 140737488355328 then (impl_consents.l0 k1 a2 (y293 ++ [rdOf false x7_1 (ji24)]) l1 (l1.length : Int) (wrap64 (x16_1 + 1)) a0_0 l0_1) else (none)) = some r := by (have H2_ := (Option.bind_some _ _).symm.trans H; rw [hy293]; with_reducible exact H2_)
              have Ny293 := Aside0.mk hy293
              clear hy293
              by_cases c42 : y293.length < 140737488355328
              ·rw [if_pos c42] at H
               have LMc42 := Aside0.mk c42
               clear c42
               obtain ⟨y296, hy296⟩ : ∃ y_ : List Bool, y_ = (y293 ++ [rdOf false x7_1 (ji24)]) := ⟨_, rfl⟩
               replace H : (impl_consents.l0 k1 a2 y296 l1 (l1.length : Int) (wrap64 (x16_1 + 1)) a0_0 l0_1) = some r := by (rw [hy296]; with_reducible exact H)
               have Ny296 := Aside0.mk hy296
               clear hy296
               have H' := Aside0.mk H
               clear H
               have p278 : 0 ≤ (x16_1 : Int) := Z.od
               have q278 : x16_1 < (l1.length : Int) := Z.od
               obtain ⟨ad278, e278, hx278_0, hx278_1, hx278_2⟩ := at_T48 HR1.out x16_1 p278 q278
               cases e278
               replace hx278_0 := Z.up HB.out hx278_0
               replace hx278_1 := Z.up HB.out hx278_1
               replace hx278_2 := Z.up HB.out hx278_2
               replace p278 := eq_true p278
               replace q278 := eq_true q278
               try go_wp2_with (((with_reducible refine gate_dst (N := 9) rfl ?_); refine box_event ?hg (N := 9) ?hd (cs := #[.int .i64 0, .int .i64 0, .int .i64 0]) (t := 48) ?hr ?_; (case hd => rfl); (case hg => rfl); (case hr => (go_simp; done)); intro gb279 hg w43 hbox hb; have n0_ := Aside0.mk (Kd.R_below (by (with_reducible skip); exact HO_7.out) hb); have n1_ := Aside0.mk (blk_below (g := gb273) (o := .cells #[.int .i64 a0_0, .slice A0_1 l0_1.length c0_1] 35 (0, 0)) (Z.bk BK273.out) hb); have n2_ := Aside0.mk (below_step (Z.bs HB.out GE273.out) hb); have n3_ := Aside0.mk (hbox); have n4_ := Aside0.mk ((by rw [hg]; exact (below_size (Z.bs HB.out GE273.out)) : w.heap.size ≤ gb279)); have n5_ := Aside0.mk ((by rw [hg]; exact (below_size (Z.bs HB.out GE273.out)) : w.heap.size ≤ gb279)); have n6_ := Aside0.mk ((by rw [hg]; exact Nat.ne_of_lt (blk_lt (g := gb273) (o := .cells #[.int .i64 a0_0, .slice A0_1 l0_1.length c0_1] 35 (0, 0)) (Z.bk BK273.out)) : gb273 ≠ gb279)); have n7_ := Aside0.mk ((by rw [hg]; exact Nat.ne_of_gt (blk_lt (g := gb273) (o := .cells #[.int .i64 a0_0, .slice A0_1 l0_1.length c0_1] 35 (0, 0)) (Z.bk BK273.out)) : gb279 ≠ gb273)); clear HO_7; clear BK273; clear HB; have HO_7 := n0_; have BK273 := n1_; have HB := n2_; have BK279 := n3_; have GW279 := n4_; have GE279 := n5_; have NB273_279 := n6_; have NB279_273 := n7_; clear n0_ n1_ n2_ n3_ n4_ n5_ n6_ n7_; clear hb hbox hg; have hnb44 := NB279_273.out; have hnc44 := NB273_279.out; have hcz45_0 : w43.cell? ⟨gb279, 0, none⟩ = some (.int .i64 0) := (blk_cell BK279.out 0).trans rfl; have hcz45_1 : w43.cell? ⟨gb279, 1, none⟩ = some (.int .i64 0) := (blk_cell BK279.out 1).trans rfl; have hcz45_2 : w43.cell? ⟨gb279, 2, none⟩ = some (.int .i64 0) := (blk_cell BK279.out 2).trans rfl; have hfz45_0 := blk_frozen BK279.out 0; have hfz45_1 := blk_frozen BK279.out 1; have hfz45_2 := blk_frozen BK279.out 2))
               have n0_ : Aside0 (Kd.R Kd.bool 4 (((w43.setCell ⟨gb279, 0, none⟩ (.int .i64 ((rd_T48 l1 x16_1).f0))).setCell ⟨gb279, 1, none⟩ (.int .i64 ((rd_T48 l1 x16_1).f1))).setCell ⟨gb279, 2, none⟩ (.int .i64 ((rd_T48 l1 x16_1).f2))) w.heap.size (fun _ => True) u7 x7_1) := ⟨by (with_reducible skip); exact Kd.R_mono (Kd.R_far (p := ⟨gb279, 2, none⟩) (Kd.R_far (p := ⟨gb279, 1, none⟩) (Kd.R_far (p := ⟨gb279, 0, none⟩) (Kd.R_types HO_7.out BK279.out (by decide)) (fun _ hk => hk.2) (.int .i64 ((rd_T48 l1 x16_1).f0))) (fun _ hk => hk.2) (.int .i64 ((rd_T48 l1 x16_1).f1))) (fun _ hk => hk.2) (.int .i64 ((rd_T48 l1 x16_1).f2))) (fun _ hk => trivial)⟩
               have n1_ : Aside0 ((((w43.setCell ⟨gb279, 0, none⟩ (.int .i64 ((rd_T48 l1 x16_1).f0))).setCell ⟨gb279, 1, none⟩ (.int .i64 ((rd_T48 l1 x16_1).f1))).setCell ⟨gb279, 2, none⟩ (.int .i64 ((rd_T48 l1 x16_1).f2))).heap[gb273]? = some (.cells #[.int .i64 a0_0, .slice A0_1 l0_1.length c0_1] 35 (0, 0))) := ⟨by (with_reducible skip); refine blk_far ?_ NB273_279.out _; (with_reducible skip); refine blk_far ?_ NB273_279.out _; (with_reducible skip); refine blk_far ?_ NB273_279.out _; (with_reducible skip); exact BK273.out⟩
               have n2_ : Aside0 ((((w43.setCell ⟨gb279, 0, none⟩ (.int .i64 ((rd_T48 l1 x16_1).f0))).setCell ⟨gb279, 1, none⟩ (.int .i64 ((rd_T48 l1 x16_1).f1))).setCell ⟨gb279, 2, none⟩ (.int .i64 ((rd_T48 l1 x16_1).f2))).heap[gb279]? = some (.cells #[.int .i64 ((rd_T48 l1 x16_1).f0), .int .i64 ((rd_T48 l1 x16_1).f1), .int .i64 ((rd_T48 l1 x16_1).f2)] 48 (0, 0))) := ⟨by (with_reducible skip); refine blk_put (cs := #[.int .i64 ((rd_T48 l1 x16_1).f0), .int .i64 ((rd_T48 l1 x16_1).f1), .int .i64 0]) ?_ 2 _ rfl; (with_reducible skip); refine blk_put (cs := #[.int .i64 ((rd_T48 l1 x16_1).f0), .int .i64 0, .int .i64 0]) ?_ 1 _ rfl; (with_reducible skip); refine blk_put (cs := #[.int .i64 0, .int .i64 0, .int .i64 0]) ?_ 0 _ rfl; (with_reducible skip); exact BK279.out⟩
               have n3_ : Aside0 (Below w.heap.size w (((w43.setCell ⟨gb279, 0, none⟩ (.int .i64 ((rd_T48 l1 x16_1).f0))).setCell ⟨gb279, 1, none⟩ (.int .i64 ((rd_T48 l1 x16_1).f1))).setCell ⟨gb279, 2, none⟩ (.int .i64 ((rd_T48 l1 x16_1).f2)))) := ⟨by repeat ((with_reducible first | exact HB.out | refine below_set ?_ GE279.out))⟩
               (try clear HO_7)
               (try clear BK273)
               (try clear BK279)
               (try clear HB)
               generalize (((w43.setCell ⟨gb279, 0, none⟩ (.int .i64 ((rd_T48 l1 x16_1).f0))).setCell ⟨gb279, 1, none⟩ (.int .i64 ((rd_T48 l1 x16_1).f1))).setCell ⟨gb279, 2, none⟩ (.int .i64 ((rd_T48 l1 x16_1).f2))) = w46 at n0_ n1_ n2_ n3_ ⊢
               have HO_7 := n0_
               have BK273 := n1_
               have BK279 := n2_
               have HB := n3_
               clear n0_ n1_ n2_ n3_
               have n0_ := Aside0.mk (Kd.R_drew HO_7.out)
               have n1_ := Aside0.mk (blk_drew BK273.out)
               have n2_ := Aside0.mk (blk_drew BK279.out)
               have n3_ := Aside0.mk (below_drew1 HB.out)
               clear HO_7
               clear BK273
               clear BK279
               clear HB
               have HO_7 := n0_
               have BK273 := n1_
               have BK279 := n2_
               have HB := n3_
               clear n0_ n1_ n2_ n3_
               obtain ⟨Ao48, co48, eo48⟩ := Kd.R_slice HO_7.out
               (subst eo48)
               have p285 : 0 ≤ ((ji21) : Int) := Z.od
               have q285 : (ji21) < (x7_1.length : Int) := Z.od
               obtain ⟨ad285, e285, hx285_0⟩ := Kd.at_bool (Kd.R_reads' HO_7.out).2.2 (ji21) p285 q285
               (try rw [← Nbq27.out] at hx285_0)
               cases e285
               replace p285 := eq_true p285
               replace q285 := eq_true q285
               have p286 : 0 ≤ ((ji24) : Int) := Z.od
               have q286 : (ji24) < (x7_1.length : Int) := Z.od
               obtain ⟨ad286, e286, hx286_0⟩ := Kd.at_bool (Kd.R_reads' HO_7.out).2.2 (ji24) p286 q286
               obtain rfl : ad285 = ad286 := (by injection e286)
               replace p286 := eq_true p286
               replace q286 := eq_true q286
               refine start_ (n := 14) (S := fun w' => w'.cell? (ad285.add ((ji21)).toNat) = some (.bool true) ∧ w'.cell? (ad285.add ((ji24)).toNat) = some (.bool (rdOf false x7_1 (ji24)))) (ds := []) #[false, false, false, false, false, false, false, false, false, false, false, false, false, false] (by kernel_rfl) rfl rfl ⟨hx285_0, hx286_0⟩ (fun hHeld => ?_); refine with_tabW impl_consents.tab7 impl_consents.bits7 (fun HT_ HW_ => ?_)
               generalize w46.drew = w47 at HO_7 BK273 BK279 HB hx285_0 hx286_0 hHeld ⊢
               refine Z.pv 0 38 14 1 HT_.out ?_
               refine Z.pv 1 39 14 3 HT_.out ?_
               refine Z.pv 2 40 14 7 HT_.out ?_
               refine Z.pv 3 41 14 15 HT_.out ?_
               refine Z.pv 4 42 14 31 HT_.out ?_
               refine Z.pv 6 44 14 95 HT_.out ?_
               refine Z.pv 7 45 14 223 HT_.out ?_
               refine Z.pv 8 46 14 479 HT_.out ?_
               refine Z.pv 9 47 14 991 HT_.out ?_
               refine Z.pv 10 48 14 2015 HT_.out ?_
               refine Z.t2 5 43 14 2047 HT_.out HW_.out hHeld ?_
               refine Z.pv 12 10 14 6143 HT_.out ?_
               refine Z.t2 11 49 14 8191 HT_.out HW_.out hHeld ?_
               refine Z.pv 13 11 14 16383 HT_.out ?_
               refine done_ (done_of HT_.out (by kernel_rfl)) ?_
               have hcz49_0 : w47.cell? ⟨gb279, 0, none⟩ = some (.int .i64 ((rd_T48 l1 x16_1).f0)) := (blk_cell BK279.out 0).trans rfl
               have hcz49_1 : w47.cell? ⟨gb279, 1, none⟩ = some (.int .i64 ((rd_T48 l1 x16_1).f1)) := (blk_cell BK279.out 1).trans rfl
               have hcz49_2 : w47.cell? ⟨gb279, 2, none⟩ = some (.int .i64 ((rd_T48 l1 x16_1).f2)) := (blk_cell BK279.out 2).trans rfl
               have hfz49_0 := blk_frozen BK279.out 0
               have hfz49_1 := blk_frozen BK279.out 1
               have hfz49_2 := blk_frozen BK279.out 2
               have q50 : ((ji21) : Int) ≤ ((x7_1.length : Int) : Int) := Z.od
               obtain ⟨i050, hi050, _, hsz50, _⟩ := info_parts info4
               have hcut50 := cut_to (P := Try.prog) 118 4 .i64 Try.underlying118 hi050 (some ad285) x7_1.length co48 (ji21) (Z.od) q50 (Kd.R_reads' HO_7.out).2.1
               have hr50 := Kd.R_take (m := ((ji21) : Int).toNat) HO_7.out (by omega)
               have hy50 : y293.length = ((ji21) : Int).toNat := (by rw [Ny293.out, List.length_take]; omega)
               rw [← Ny293.out] at hr50
               rw [← hy50] at hr50 hcut50
               clear hy50 hi050 hsz50 HO_7
               have HO295 := Aside0.mk hr50
               clear hr50
               replace q50 := eq_true q50
               try go_wp2_with (((with_reducible refine gate_builtin (b := .append) (xs := #[.tmp 65, .tmp 67]) rfl ?_); at_builtin; refine Kd.R_append Kd.bool (w0 := w) w.heap.size rfl (.tmp 65) (.tmp 67) 118 4 (.bool false) 1 rfl Try.underlying118 info4 rfl (by decide) (by omega) (.slice (some ad285) y293.length co48) y293 (rdOf false x7_1 (ji24)) [.bool (rdOf false x7_1 (ji24))] (fun _ => True) (fun _ => False) rfl rfl ?aP (fun _ hk => hk.elim) ?aF ?aO ?aB ?aS ?aL ?_; (case aP => exact rfl); (case aB => exact (by repeat ((with_reducible exact HB.out)))); (case aF => exact (fun _ _ => trivial)); (case aO => exact (by (with_reducible skip); exact HO295.out)); (case aS => exact (below_size (by repeat ((with_reducible exact HB.out))))); (case aL => have := LMc42.out; omega); intro v297 w51 ho hb hg hat; rw [← Ny296.out] at ho; have n0_ := Aside0.mk (blk_grown (g := gb273) (o := .cells #[.int .i64 a0_0, .slice A0_1 l0_1.length c0_1] 35 (0, 0)) (Z.bk BK273.out) hg (Kd.R_ne HO295.out BK273.out (by decide))); have n1_ := Aside0.mk (blk_grown (g := gb279) (o := .cells #[.int .i64 ((rd_T48 l1 x16_1).f0), .int .i64 ((rd_T48 l1 x16_1).f1), .int .i64 ((rd_T48 l1 x16_1).f2)] 48 (0, 0)) (Z.bk BK279.out) hg (Kd.R_ne HO295.out BK279.out (by decide))); have n2_ := Aside0.mk (hb); have n3_ := Aside0.mk (ho); clear BK273; clear BK279; clear HB; clear HO295; have BK273 := n0_; have BK279 := n1_; have HB := n2_; have HO298 := n3_; clear n0_ n1_ n2_ n3_; clear ho hb hg hat))
               go_roundg k1
               case measure => have := HK1.out; omega
               case rel => exact ⟨(y296), (wrap64 (x16_1 + 1)), (by rfl), H', ⟨by have := HK1.out; omega⟩, ⟨by (with_reducible skip); exact HO298.out⟩, ⟨by (with_reducible skip); exact BK273.out⟩, ⟨by repeat ((with_reducible exact HB.out))⟩⟩
              ·rw [if_neg c42] at H
               exact absurd H (by simp)
             ·rw [if_neg c41] at H
              exact absurd H (by simp)
           ·replace c28 := Bool.eq_false_iff.mpr c28
            subst c28
            have H1 : (if ((rd_T48 l1 x16_1).f0) = 2 then (if (ji21) ≤ (x7_1.length : Int) then ((some (x7_1.take ((ji21) : Int).toNat : List Bool)).bind fun y299 => (if y299.length < 140737488355328 then (impl_consents.l0 k1 a2 (y299 ++ [rdOf false x7_1 (ji24)]) l1 (l1.length : Int) (wrap64 (x16_1 + 1)) a0_0 l0_1) else (none))) else (none)) else (if (ji21) ≤ (x7_1.length : Int) then ((some (x7_1.take ((ji21) : Int).toNat : List Bool)).bind fun y305 => (if y305.length < 140737488355328 then (impl_consents.l0 k1 a2 (y305 ++ [false]) l1 (l1.length : Int) (wrap64 (x16_1 + 1)) a0_0 l0_1) else (none))) else (none))) = some r := by rw [if_neg (show ¬ (false = true) by decide)] at H; exact H
            clear H
            have H := H1
            clear H1
            by_cases c52 : ((rd_T48 l1 x16_1).f0) = 2
            ·rw [if_pos c52] at H
             have c52b0 : (((rd_T48 l1 x16_1).f0) == 2) = true := beq_iff_eq.mpr c52
             have c52b1 : (((rd_T48 l1 x16_1).f0) != 2) = false := bne_eq_false_iff_eq.mpr c52
             clear c52
             by_cases c53 : (ji21) ≤ (x7_1.length : Int)
             ·rw [if_pos c53] at H
              have c53b0 := eq_true c53
              have c53b1 : decide ((ji21) ≤ (x7_1.length : Int)) = true := decide_eq_true c53
              clear c53
              obtain ⟨y299, hy299⟩ : ∃ y_ : List Bool, y_ = (x7_1.take ((ji21) : Int).toNat) := ⟨_, rfl⟩
              replace H : (if y299.length < 140737488355328 then (impl_consents.l0 k1 a2 (y299 ++ [rdOf false x7_1 (ji24)]) l1 (l1.length : Int) (wrap64 (x16_1 + 1)) a0_0 l0_1) else (none)) = some r := by (have H2_ := (Option.bind_some _ _).symm.trans H; rw [hy299]; with_reducible exact H2_)
              have Ny299 := Aside0.mk hy299
              clear hy299
              by_cases c54 : y299.length < 140737488355328
              ·rw [if_pos c54] at H
               have LMc54 := Aside0.mk c54
               clear c54
               obtain ⟨y302, hy302⟩ : ∃ y_ : List Bool, y_ = (y299 ++ [rdOf false x7_1 (ji24)]) := ⟨_, rfl⟩
               replace H : (impl_consents.l0 k1 a2 y302 l1 (l1.length : Int) (wrap64 (x16_1 + 1)) a0_0 l0_1) = some r := by (rw [hy302]; with_reducible exact H)
               have Ny302 := Aside0.mk hy302
               clear hy302
               have H' := Aside0.mk H
               clear H
               have p278 : 0 ≤ (x16_1 : Int) := Z.od
               have q278 : x16_1 < (l1.length : Int) := Z.od
               obtain ⟨ad278, e278, hx278_0, hx278_1, hx278_2⟩ := at_T48 HR1.out x16_1 p278 q278
               cases e278
               replace hx278_0 := Z.up HB.out hx278_0
               replace hx278_1 := Z.up HB.out hx278_1
               replace hx278_2 := Z.up HB.out hx278_2
               replace p278 := eq_true p278
               replace q278 := eq_true q278
               try go_wp2_with (((with_reducible refine gate_dst (N := 9) rfl ?_); refine box_event ?hg (N := 9) ?hd (cs := #[.int .i64 0, .int .i64 0, .int .i64 0]) (t := 48) ?hr ?_; (case hd => rfl); (case hg => rfl); (case hr => (go_simp; done)); intro gb279 hg w55 hbox hb; have n0_ := Aside0.mk (Kd.R_below (by (with_reducible skip); exact HO_7.out) hb); have n1_ := Aside0.mk (blk_below (g := gb273) (o := .cells #[.int .i64 a0_0, .slice A0_1 l0_1.length c0_1] 35 (0, 0)) (Z.bk BK273.out) hb); have n2_ := Aside0.mk (below_step (Z.bs HB.out GE273.out) hb); have n3_ := Aside0.mk (hbox); have n4_ := Aside0.mk ((by rw [hg]; exact (below_size (Z.bs HB.out GE273.out)) : w.heap.size ≤ gb279)); have n5_ := Aside0.mk ((by rw [hg]; exact (below_size (Z.bs HB.out GE273.out)) : w.heap.size ≤ gb279)); have n6_ := Aside0.mk ((by rw [hg]; exact Nat.ne_of_lt (blk_lt (g := gb273) (o := .cells #[.int .i64 a0_0, .slice A0_1 l0_1.length c0_1] 35 (0, 0)) (Z.bk BK273.out)) : gb273 ≠ gb279)); have n7_ := Aside0.mk ((by rw [hg]; exact Nat.ne_of_gt (blk_lt (g := gb273) (o := .cells #[.int .i64 a0_0, .slice A0_1 l0_1.length c0_1] 35 (0, 0)) (Z.bk BK273.out)) : gb279 ≠ gb273)); clear HO_7; clear BK273; clear HB; have HO_7 := n0_; have BK273 := n1_; have HB := n2_; have BK279 := n3_; have GW279 := n4_; have GE279 := n5_; have NB273_279 := n6_; have NB279_273 := n7_; clear n0_ n1_ n2_ n3_ n4_ n5_ n6_ n7_; clear hb hbox hg; have hnb56 := NB279_273.out; have hnc56 := NB273_279.out; have hcz57_0 : w55.cell? ⟨gb279, 0, none⟩ = some (.int .i64 0) := (blk_cell BK279.out 0).trans rfl; have hcz57_1 : w55.cell? ⟨gb279, 1, none⟩ = some (.int .i64 0) := (blk_cell BK279.out 1).trans rfl; have hcz57_2 : w55.cell? ⟨gb279, 2, none⟩ = some (.int .i64 0) := (blk_cell BK279.out 2).trans rfl; have hfz57_0 := blk_frozen BK279.out 0; have hfz57_1 := blk_frozen BK279.out 1; have hfz57_2 := blk_frozen BK279.out 2))
               have n0_ : Aside0 (Kd.R Kd.bool 4 (((w55.setCell ⟨gb279, 0, none⟩ (.int .i64 ((rd_T48 l1 x16_1).f0))).setCell ⟨gb279, 1, none⟩ (.int .i64 ((rd_T48 l1 x16_1).f1))).setCell ⟨gb279, 2, none⟩ (.int .i64 ((rd_T48 l1 x16_1).f2))) w.heap.size (fun _ => True) u7 x7_1) := ⟨by (with_reducible skip); exact Kd.R_mono (Kd.R_far (p := ⟨gb279, 2, none⟩) (Kd.R_far (p := ⟨gb279, 1, none⟩) (Kd.R_far (p := ⟨gb279, 0, none⟩) (Kd.R_types HO_7.out BK279.out (by decide)) (fun _ hk => hk.2) (.int .i64 ((rd_T48 l1 x16_1).f0))) (fun _ hk => hk.2) (.int .i64 ((rd_T48 l1 x16_1).f1))) (fun _ hk => hk.2) (.int .i64 ((rd_T48 l1 x16_1).f2))) (fun _ hk => trivial)⟩
               have n1_ : Aside0 ((((w55.setCell ⟨gb279, 0, none⟩ (.int .i64 ((rd_T48 l1 x16_1).f0))).setCell ⟨gb279, 1, none⟩ (.int .i64 ((rd_T48 l1 x16_1).f1))).setCell ⟨gb279, 2, none⟩ (.int .i64 ((rd_T48 l1 x16_1).f2))).heap[gb273]? = some (.cells #[.int .i64 a0_0, .slice A0_1 l0_1.length c0_1] 35 (0, 0))) := ⟨by (with_reducible skip); refine blk_far ?_ NB273_279.out _; (with_reducible skip); refine blk_far ?_ NB273_279.out _; (with_reducible skip); refine blk_far ?_ NB273_279.out _; (with_reducible skip); exact BK273.out⟩
               have n2_ : Aside0 ((((w55.setCell ⟨gb279, 0, none⟩ (.int .i64 ((rd_T48 l1 x16_1).f0))).setCell ⟨gb279, 1, none⟩ (.int .i64 ((rd_T48 l1 x16_1).f1))).setCell ⟨gb279, 2, none⟩ (.int .i64 ((rd_T48 l1 x16_1).f2))).heap[gb279]? = some (.cells #[.int .i64 ((rd_T48 l1 x16_1).f0), .int .i64 ((rd_T48 l1 x16_1).f1), .int .i64 ((rd_T48 l1 x16_1).f2)] 48 (0, 0))) := ⟨by (with_reducible skip); refine blk_put (cs := #[.int .i64 ((rd_T48 l1 x16_1).f0), .int .i64 ((rd_T48 l1 x16_1).f1), .int .i64 0]) ?_ 2 _ rfl; (with_reducible skip); refine blk_put (cs := #[.int .i64 ((rd_T48 l1 x16_1).f0), .int .i64 0, .int .i64 0]) ?_ 1 _ rfl; (with_reducible skip); refine blk_put (cs := #[.int .i64 0, .int .i64 0, .int .i64 0]) ?_ 0 _ rfl; (with_reducible skip); exact BK279.out⟩
               have n3_ : Aside0 (Below w.heap.size w (((w55.setCell ⟨gb279, 0, none⟩ (.int .i64 ((rd_T48 l1 x16_1).f0))).setCell ⟨gb279, 1, none⟩ (.int .i64 ((rd_T48 l1 x16_1).f1))).setCell ⟨gb279, 2, none⟩ (.int .i64 ((rd_T48 l1 x16_1).f2)))) := ⟨by repeat ((with_reducible first | exact HB.out | refine below_set ?_ GE279.out))⟩
               (try clear HO_7)
               (try clear BK273)
               (try clear BK279)
               (try clear HB)
               generalize (((w55.setCell ⟨gb279, 0, none⟩ (.int .i64 ((rd_T48 l1 x16_1).f0))).setCell ⟨gb279, 1, none⟩ (.int .i64 ((rd_T48 l1 x16_1).f1))).setCell ⟨gb279, 2, none⟩ (.int .i64 ((rd_T48 l1 x16_1).f2))) = w58 at n0_ n1_ n2_ n3_ ⊢
               have HO_7 := n0_
               have BK273 := n1_
               have BK279 := n2_
               have HB := n3_
               clear n0_ n1_ n2_ n3_
               have n0_ := Aside0.mk (Kd.R_drew HO_7.out)
               have n1_ := Aside0.mk (blk_drew BK273.out)
               have n2_ := Aside0.mk (blk_drew BK279.out)
               have n3_ := Aside0.mk (below_drew1 HB.out)
               clear HO_7
               clear BK273
               clear BK279
               clear HB
               have HO_7 := n0_
               have BK273 := n1_
               have BK279 := n2_
               have HB := n3_
               clear n0_ n1_ n2_ n3_
               obtain ⟨Ao60, co60, eo60⟩ := Kd.R_slice HO_7.out
               (subst eo60)
               have p285 : 0 ≤ ((ji21) : Int) := Z.od
               have q285 : (ji21) < (x7_1.length : Int) := Z.od
               obtain ⟨ad285, e285, hx285_0⟩ := Kd.at_bool (Kd.R_reads' HO_7.out).2.2 (ji21) p285 q285
               (try rw [← Nbq27.out] at hx285_0)
               cases e285
               replace p285 := eq_true p285
               replace q285 := eq_true q285
               have p286 : 0 ≤ ((ji24) : Int) := Z.od
               have q286 : (ji24) < (x7_1.length : Int) := Z.od
               obtain ⟨ad286, e286, hx286_0⟩ := Kd.at_bool (Kd.R_reads' HO_7.out).2.2 (ji24) p286 q286
               obtain rfl : ad285 = ad286 := (by injection e286)
               replace p286 := eq_true p286
               replace q286 := eq_true q286
               refine start_ (n := 14) (S := fun w' => w'.cell? (ad285.add ((ji21)).toNat) = some (.bool false) ∧ w'.cell? (ad285.add ((ji24)).toNat) = some (.bool (rdOf false x7_1 (ji24)))) (ds := []) #[false, false, false, false, false, false, false, false, false, false, false, false, false, false] (by kernel_rfl) rfl rfl ⟨hx285_0, hx286_0⟩ (fun hHeld => ?_); refine with_tabW impl_consents.tab7 impl_consents.bits7 (fun HT_ HW_ => ?_)
               generalize w58.drew = w59 at HO_7 BK273 BK279 HB hx285_0 hx286_0 hHeld ⊢
               refine Z.pv 0 38 14 1 HT_.out ?_
               refine Z.pv 1 39 14 3 HT_.out ?_
               refine Z.pv 2 40 14 7 HT_.out ?_
               refine Z.pv 3 41 14 15 HT_.out ?_
               refine Z.pv 4 42 14 31 HT_.out ?_
               refine Z.pv 6 44 14 95 HT_.out ?_
               refine Z.pv 7 45 14 223 HT_.out ?_
               refine Z.pv 8 46 14 479 HT_.out ?_
               refine Z.pv 9 47 14 991 HT_.out ?_
               refine Z.pv 10 48 14 2015 HT_.out ?_
               refine Z.t2 5 43 14 2047 HT_.out HW_.out hHeld ?_
               refine Z.pv 12 10 14 6143 HT_.out ?_
               refine Z.t2 11 49 14 8191 HT_.out HW_.out hHeld ?_
               refine Z.pv 13 11 14 16383 HT_.out ?_
               refine done_ (done_of HT_.out (by kernel_rfl)) ?_
               have hcz61_0 : w59.cell? ⟨gb279, 0, none⟩ = some (.int .i64 ((rd_T48 l1 x16_1).f0)) := (blk_cell BK279.out 0).trans rfl
               have hcz61_1 : w59.cell? ⟨gb279, 1, none⟩ = some (.int .i64 ((rd_T48 l1 x16_1).f1)) := (blk_cell BK279.out 1).trans rfl
               have hcz61_2 : w59.cell? ⟨gb279, 2, none⟩ = some (.int .i64 ((rd_T48 l1 x16_1).f2)) := (blk_cell BK279.out 2).trans rfl
               have hfz61_0 := blk_frozen BK279.out 0
               have hfz61_1 := blk_frozen BK279.out 1
               have hfz61_2 := blk_frozen BK279.out 2
               have q62 : ((ji21) : Int) ≤ ((x7_1.length : Int) : Int) := Z.od
               obtain ⟨i062, hi062, _, hsz62, _⟩ := info_parts info4
               have hcut62 := cut_to (P := Try.prog) 118 4 .i64 Try.underlying118 hi062 (some ad285) x7_1.length co60 (ji21) (Z.od) q62 (Kd.R_reads' HO_7.out).2.1
               have hr62 := Kd.R_take (m := ((ji21) : Int).toNat) HO_7.out (by omega)
               have hy62 : y299.length = ((ji21) : Int).toNat := (by rw [Ny299.out, List.length_take]; omega)
               rw [← Ny299.out] at hr62
               rw [← hy62] at hr62 hcut62
               clear hy62 hi062 hsz62 HO_7
               have HO301 := Aside0.mk hr62
               clear hr62
               replace q62 := eq_true q62
               try go_wp2_with (((with_reducible refine gate_builtin (b := .append) (xs := #[.tmp 65, .tmp 67]) rfl ?_); at_builtin; refine Kd.R_append Kd.bool (w0 := w) w.heap.size rfl (.tmp 65) (.tmp 67) 118 4 (.bool false) 1 rfl Try.underlying118 info4 rfl (by decide) (by omega) (.slice (some ad285) y299.length co60) y299 (rdOf false x7_1 (ji24)) [.bool (rdOf false x7_1 (ji24))] (fun _ => True) (fun _ => False) rfl rfl ?aP (fun _ hk => hk.elim) ?aF ?aO ?aB ?aS ?aL ?_; (case aP => exact rfl); (case aB => exact (by repeat ((with_reducible exact HB.out)))); (case aF => exact (fun _ _ => trivial)); (case aO => exact (by (with_reducible skip); exact HO301.out)); (case aS => exact (below_size (by repeat ((with_reducible exact HB.out))))); (case aL => have := LMc54.out; omega); intro v303 w63 ho hb hg hat; rw [← Ny302.out] at ho; have n0_ := Aside0.mk (blk_grown (g := gb273) (o := .cells #[.int .i64 a0_0, .slice A0_1 l0_1.length c0_1] 35 (0, 0)) (Z.bk BK273.out) hg (Kd.R_ne HO301.out BK273.out (by decide))); have n1_ := Aside0.mk (blk_grown (g := gb279) (o := .cells #[.int .i64 ((rd_T48 l1 x16_1).f0), .int .i64 ((rd_T48 l1 x16_1).f1), .int .i64 ((rd_T48 l1 x16_1).f2)] 48 (0, 0)) (Z.bk BK279.out) hg (Kd.R_ne HO301.out BK279.out (by decide))); have n2_ := Aside0.mk (hb); have n3_ := Aside0.mk (ho); clear BK273; clear BK279; clear HB; clear HO301; have BK273 := n0_; have BK279 := n1_; have HB := n2_; have HO304 := n3_; clear n0_ n1_ n2_ n3_; clear ho hb hg hat))
               go_roundg k1
               case measure => have := HK1.out; omega
               case rel => exact ⟨(y302), (wrap64 (x16_1 + 1)), (by rfl), H', ⟨by have := HK1.out; omega⟩, ⟨by (with_reducible skip); exact HO304.out⟩, ⟨by (with_reducible skip); exact BK273.out⟩, ⟨by repeat ((with_reducible exact HB.out))⟩⟩
              ·rw [if_neg c54] at H
               exact absurd H (by simp)
             ·rw [if_neg c53] at H
              exact absurd H (by simp)
            ·rw [if_neg c52] at H
             have c52b0 : (((rd_T48 l1 x16_1).f0) == 2) = false := beq_eq_false_iff_ne.mpr c52
             have c52b1 : (((rd_T48 l1 x16_1).f0) != 2) = true := bne_iff_ne.mpr c52
             by_cases c64 : (ji21) ≤ (x7_1.length : Int)
             ·rw [if_pos c64] at H
              have c64b0 := eq_true c64
              have c64b1 : decide ((ji21) ≤ (x7_1.length : Int)) = true := decide_eq_true c64
              clear c64
              obtain ⟨y305, hy305⟩ : ∃ y_ : List Bool, y_ = (x7_1.take ((ji21) : Int).toNat) := ⟨_, rfl⟩
              replace H : (if y305.length < 140737488355328 then (impl_consents.l0 k1 a2 (y305 ++ [false]) l1 (l1.length : Int) (wrap64 (x16_1 + 1)) a0_0 l0_1) else (none)) = some r := by (have H2_ := (Option.bind_some _ _).symm.trans H; rw [hy305]; with_reducible exact H2_)
              have Ny305 := Aside0.mk hy305
              clear hy305
              by_cases c65 : y305.length < 140737488355328
              ·rw [if_pos c65] at H
               have LMc65 := Aside0.mk c65
               clear c65
               obtain ⟨y308, hy308⟩ : ∃ y_ : List Bool, y_ = (y305 ++ [false]) := ⟨_, rfl⟩
               replace H : (impl_consents.l0 k1 a2 y308 l1 (l1.length : Int) (wrap64 (x16_1 + 1)) a0_0 l0_1) = some r := by (rw [hy308]; with_reducible exact H)
               have Ny308 := Aside0.mk hy308
               clear hy308
               have H' := Aside0.mk H
               clear H
               have p278 : 0 ≤ (x16_1 : Int) := Z.od
               have q278 : x16_1 < (l1.length : Int) := Z.od
               obtain ⟨ad278, e278, hx278_0, hx278_1, hx278_2⟩ := at_T48 HR1.out x16_1 p278 q278
               cases e278
               replace hx278_0 := Z.up HB.out hx278_0
               replace hx278_1 := Z.up HB.out hx278_1
               replace hx278_2 := Z.up HB.out hx278_2
               replace p278 := eq_true p278
               replace q278 := eq_true q278
               try go_wp2_with (((with_reducible refine gate_dst (N := 9) rfl ?_); refine box_event ?hg (N := 9) ?hd (cs := #[.int .i64 0, .int .i64 0, .int .i64 0]) (t := 48) ?hr ?_; (case hd => rfl); (case hg => rfl); (case hr => (go_simp; done)); intro gb279 hg w66 hbox hb; have n0_ := Aside0.mk (Kd.R_below (by (with_reducible skip); exact HO_7.out) hb); have n1_ := Aside0.mk (blk_below (g := gb273) (o := .cells #[.int .i64 a0_0, .slice A0_1 l0_1.length c0_1] 35 (0, 0)) (Z.bk BK273.out) hb); have n2_ := Aside0.mk (below_step (Z.bs HB.out GE273.out) hb); have n3_ := Aside0.mk (hbox); have n4_ := Aside0.mk ((by rw [hg]; exact (below_size (Z.bs HB.out GE273.out)) : w.heap.size ≤ gb279)); have n5_ := Aside0.mk ((by rw [hg]; exact (below_size (Z.bs HB.out GE273.out)) : w.heap.size ≤ gb279)); have n6_ := Aside0.mk ((by rw [hg]; exact Nat.ne_of_lt (blk_lt (g := gb273) (o := .cells #[.int .i64 a0_0, .slice A0_1 l0_1.length c0_1] 35 (0, 0)) (Z.bk BK273.out)) : gb273 ≠ gb279)); have n7_ := Aside0.mk ((by rw [hg]; exact Nat.ne_of_gt (blk_lt (g := gb273) (o := .cells #[.int .i64 a0_0, .slice A0_1 l0_1.length c0_1] 35 (0, 0)) (Z.bk BK273.out)) : gb279 ≠ gb273)); clear HO_7; clear BK273; clear HB; have HO_7 := n0_; have BK273 := n1_; have HB := n2_; have BK279 := n3_; have GW279 := n4_; have GE279 := n5_; have NB273_279 := n6_; have NB279_273 := n7_; clear n0_ n1_ n2_ n3_ n4_ n5_ n6_ n7_; clear hb hbox hg; have hnb67 := NB279_273.out; have hnc67 := NB273_279.out; have hcz68_0 : w66.cell? ⟨gb279, 0, none⟩ = some (.int .i64 0) := (blk_cell BK279.out 0).trans rfl; have hcz68_1 : w66.cell? ⟨gb279, 1, none⟩ = some (.int .i64 0) := (blk_cell BK279.out 1).trans rfl; have hcz68_2 : w66.cell? ⟨gb279, 2, none⟩ = some (.int .i64 0) := (blk_cell BK279.out 2).trans rfl; have hfz68_0 := blk_frozen BK279.out 0; have hfz68_1 := blk_frozen BK279.out 1; have hfz68_2 := blk_frozen BK279.out 2))
               have n0_ : Aside0 (Kd.R Kd.bool 4 (((w66.setCell ⟨gb279, 0, none⟩ (.int .i64 ((rd_T48 l1 x16_1).f0))).setCell ⟨gb279, 1, none⟩ (.int .i64 ((rd_T48 l1 x16_1).f1))).setCell ⟨gb279, 2, none⟩ (.int .i64 ((rd_T48 l1 x16_1).f2))) w.heap.size (fun _ => True) u7 x7_1) := ⟨by (with_reducible skip); exact Kd.R_mono (Kd.R_far (p := ⟨gb279, 2, none⟩) (Kd.R_far (p := ⟨gb279, 1, none⟩) (Kd.R_far (p := ⟨gb279, 0, none⟩) (Kd.R_types HO_7.out BK279.out (by decide)) (fun _ hk => hk.2) (.int .i64 ((rd_T48 l1 x16_1).f0))) (fun _ hk => hk.2) (.int .i64 ((rd_T48 l1 x16_1).f1))) (fun _ hk => hk.2) (.int .i64 ((rd_T48 l1 x16_1).f2))) (fun _ hk => trivial)⟩
               have n1_ : Aside0 ((((w66.setCell ⟨gb279, 0, none⟩ (.int .i64 ((rd_T48 l1 x16_1).f0))).setCell ⟨gb279, 1, none⟩ (.int .i64 ((rd_T48 l1 x16_1).f1))).setCell ⟨gb279, 2, none⟩ (.int .i64 ((rd_T48 l1 x16_1).f2))).heap[gb273]? = some (.cells #[.int .i64 a0_0, .slice A0_1 l0_1.length c0_1] 35 (0, 0))) := ⟨by (with_reducible skip); refine blk_far ?_ NB273_279.out _; (with_reducible skip); refine blk_far ?_ NB273_279.out _; (with_reducible skip); refine blk_far ?_ NB273_279.out _; (with_reducible skip); exact BK273.out⟩
               have n2_ : Aside0 ((((w66.setCell ⟨gb279, 0, none⟩ (.int .i64 ((rd_T48 l1 x16_1).f0))).setCell ⟨gb279, 1, none⟩ (.int .i64 ((rd_T48 l1 x16_1).f1))).setCell ⟨gb279, 2, none⟩ (.int .i64 ((rd_T48 l1 x16_1).f2))).heap[gb279]? = some (.cells #[.int .i64 ((rd_T48 l1 x16_1).f0), .int .i64 ((rd_T48 l1 x16_1).f1), .int .i64 ((rd_T48 l1 x16_1).f2)] 48 (0, 0))) := ⟨by (with_reducible skip); refine blk_put (cs := #[.int .i64 ((rd_T48 l1 x16_1).f0), .int .i64 ((rd_T48 l1 x16_1).f1), .int .i64 0]) ?_ 2 _ rfl; (with_reducible skip); refine blk_put (cs := #[.int .i64 ((rd_T48 l1 x16_1).f0), .int .i64 0, .int .i64 0]) ?_ 1 _ rfl; (with_reducible skip); refine blk_put (cs := #[.int .i64 0, .int .i64 0, .int .i64 0]) ?_ 0 _ rfl; (with_reducible skip); exact BK279.out⟩
               have n3_ : Aside0 (Below w.heap.size w (((w66.setCell ⟨gb279, 0, none⟩ (.int .i64 ((rd_T48 l1 x16_1).f0))).setCell ⟨gb279, 1, none⟩ (.int .i64 ((rd_T48 l1 x16_1).f1))).setCell ⟨gb279, 2, none⟩ (.int .i64 ((rd_T48 l1 x16_1).f2)))) := ⟨by repeat ((with_reducible first | exact HB.out | refine below_set ?_ GE279.out))⟩
               (try clear HO_7)
               (try clear BK273)
               (try clear BK279)
               (try clear HB)
               generalize (((w66.setCell ⟨gb279, 0, none⟩ (.int .i64 ((rd_T48 l1 x16_1).f0))).setCell ⟨gb279, 1, none⟩ (.int .i64 ((rd_T48 l1 x16_1).f1))).setCell ⟨gb279, 2, none⟩ (.int .i64 ((rd_T48 l1 x16_1).f2))) = w69 at n0_ n1_ n2_ n3_ ⊢
               have HO_7 := n0_
               have BK273 := n1_
               have BK279 := n2_
               have HB := n3_
               clear n0_ n1_ n2_ n3_
               have n0_ := Aside0.mk (Kd.R_drew HO_7.out)
               have n1_ := Aside0.mk (blk_drew BK273.out)
               have n2_ := Aside0.mk (blk_drew BK279.out)
               have n3_ := Aside0.mk (below_drew1 HB.out)
               clear HO_7
               clear BK273
               clear BK279
               clear HB
               have HO_7 := n0_
               have BK273 := n1_
               have BK279 := n2_
               have HB := n3_
               clear n0_ n1_ n2_ n3_
               obtain ⟨Ao71, co71, eo71⟩ := Kd.R_slice HO_7.out
               (subst eo71)
               have p285 : 0 ≤ ((ji21) : Int) := Z.od
               have q285 : (ji21) < (x7_1.length : Int) := Z.od
               obtain ⟨ad285, e285, hx285_0⟩ := Kd.at_bool (Kd.R_reads' HO_7.out).2.2 (ji21) p285 q285
               (try rw [← Nbq27.out] at hx285_0)
               cases e285
               replace p285 := eq_true p285
               replace q285 := eq_true q285
               have p286 : 0 ≤ ((ji24) : Int) := Z.od
               have q286 : (ji24) < (x7_1.length : Int) := Z.od
               obtain ⟨ad286, e286, hx286_0⟩ := Kd.at_bool (Kd.R_reads' HO_7.out).2.2 (ji24) p286 q286
               obtain rfl : ad285 = ad286 := (by injection e286)
               replace p286 := eq_true p286
               replace q286 := eq_true q286
               refine start_ (n := 14) (S := fun w' => w'.cell? (ad285.add ((ji21)).toNat) = some (.bool false) ∧ w'.cell? (ad285.add ((ji24)).toNat) = some (.bool (rdOf false x7_1 (ji24)))) (ds := []) #[false, false, false, false, false, false, false, false, false, false, false, false, false, false] (by kernel_rfl) rfl rfl ⟨hx285_0, hx286_0⟩ (fun hHeld => ?_); refine with_tabW impl_consents.tab7 impl_consents.bits7 (fun HT_ HW_ => ?_)
               generalize w69.drew = w70 at HO_7 BK273 BK279 HB hx285_0 hx286_0 hHeld ⊢
               refine Z.pv 0 38 14 1 HT_.out ?_
               refine Z.pv 1 39 14 3 HT_.out ?_
               refine Z.pv 2 40 14 7 HT_.out ?_
               refine Z.pv 3 41 14 15 HT_.out ?_
               refine Z.pv 4 42 14 31 HT_.out ?_
               refine Z.pv 6 44 14 95 HT_.out ?_
               refine Z.pv 7 45 14 223 HT_.out ?_
               refine Z.pv 8 46 14 479 HT_.out ?_
               refine Z.pv 9 47 14 991 HT_.out ?_
               refine Z.pv 10 48 14 2015 HT_.out ?_
               refine Z.t2 5 43 14 2047 HT_.out HW_.out hHeld ?_
               refine Z.pv 12 10 14 6143 HT_.out ?_
               refine Z.t2 11 49 14 8191 HT_.out HW_.out hHeld ?_
               refine Z.pv 13 11 14 16383 HT_.out ?_
               refine done_ (done_of HT_.out (by kernel_rfl)) ?_
               have hcz72_0 : w70.cell? ⟨gb279, 0, none⟩ = some (.int .i64 ((rd_T48 l1 x16_1).f0)) := (blk_cell BK279.out 0).trans rfl
               have hcz72_1 : w70.cell? ⟨gb279, 1, none⟩ = some (.int .i64 ((rd_T48 l1 x16_1).f1)) := (blk_cell BK279.out 1).trans rfl
               have hcz72_2 : w70.cell? ⟨gb279, 2, none⟩ = some (.int .i64 ((rd_T48 l1 x16_1).f2)) := (blk_cell BK279.out 2).trans rfl
               have hfz72_0 := blk_frozen BK279.out 0
               have hfz72_1 := blk_frozen BK279.out 1
               have hfz72_2 := blk_frozen BK279.out 2
               have q73 : ((ji21) : Int) ≤ ((x7_1.length : Int) : Int) := Z.od
               obtain ⟨i073, hi073, _, hsz73, _⟩ := info_parts info4
               have hcut73 := cut_to (P := Try.prog) 118 4 .i64 Try.underlying118 hi073 (some ad285) x7_1.length co71 (ji21) (Z.od) q73 (Kd.R_reads' HO_7.out).2.1
               have hr73 := Kd.R_take (m := ((ji21) : Int).toNat) HO_7.out (by omega)
               have hy73 : y305.length = ((ji21) : Int).toNat := (by rw [Ny305.out, List.length_take]; omega)
               rw [← Ny305.out] at hr73
               rw [← hy73] at hr73 hcut73
               clear hy73 hi073 hsz73 HO_7
               have HO307 := Aside0.mk hr73
               clear hr73
               replace q73 := eq_true q73
               try go_wp2_with (((with_reducible refine gate_builtin (b := .append) (xs := #[.tmp 65, .tmp 67]) rfl ?_); at_builtin; refine Kd.R_append Kd.bool (w0 := w) w.heap.size rfl (.tmp 65) (.tmp 67) 118 4 (.bool false) 1 rfl Try.underlying118 info4 rfl (by decide) (by omega) (.slice (some ad285) y305.length co71) y305 false [.bool false] (fun _ => True) (fun _ => False) rfl rfl ?aP (fun _ hk => hk.elim) ?aF ?aO ?aB ?aS ?aL ?_; (case aP => exact rfl); (case aB => exact (by repeat ((with_reducible exact HB.out)))); (case aF => exact (fun _ _ => trivial)); (case aO => exact (by (with_reducible skip); exact HO307.out)); (case aS => exact (below_size (by repeat ((with_reducible exact HB.out))))); (case aL => have := LMc65.out; omega); intro v309 w74 ho hb hg hat; rw [← Ny308.out] at ho; have n0_ := Aside0.mk (blk_grown (g := gb273) (o := .cells #[.int .i64 a0_0, .slice A0_1 l0_1.length c0_1] 35 (0, 0)) (Z.bk BK273.out) hg (Kd.R_ne HO307.out BK273.out (by decide))); have n1_ := Aside0.mk (blk_grown (g := gb279) (o := .cells #[.int .i64 ((rd_T48 l1 x16_1).f0), .int .i64 ((rd_T48 l1 x16_1).f1), .int .i64 ((rd_T48 l1 x16_1).f2)] 48 (0, 0)) (Z.bk BK279.out) hg (Kd.R_ne HO307.out BK279.out (by decide))); have n2_ := Aside0.mk (hb); have n3_ := Aside0.mk (ho); clear BK273; clear BK279; clear HB; clear HO307; have BK273 := n0_; have BK279 := n1_; have HB := n2_; have HO310 := n3_; clear n0_ n1_ n2_ n3_; clear ho hb hg hat))
               go_roundg k1
               case measure => have := HK1.out; omega
               case rel => exact ⟨(y308), (wrap64 (x16_1 + 1)), (by rfl), H', ⟨by have := HK1.out; omega⟩, ⟨by (with_reducible skip); exact HO310.out⟩, ⟨by (with_reducible skip); exact BK273.out⟩, ⟨by repeat ((with_reducible exact HB.out))⟩⟩
              ·rw [if_neg c65] at H
               exact absurd H (by simp)
             ·rw [if_neg c64] at H
              exact absurd H (by simp)
          ·rw [if_neg c26] at H
           exact absurd H (by simp)
         ·rw [if_neg c25] at H
          exact absurd H (by simp)
        ·rw [if_neg c23] at H
         exact absurd H (by simp)
       ·rw [if_neg c22] at H
        exact absurd H (by simp)
     ·rw [if_neg c9] at H
      exact absurd H (by simp)
    ·rw [if_neg c8] at H
     exact absurd H (by simp)
   ·rw [if_neg c7] at H
    have c7b0 : decide (x16_1 < (l1.length : Int)) = false := decide_eq_false c7
    clear c7
    by_cases c75 : 0 < (x7_1.length : Int)
    ·rw [if_pos c75] at H
     have c75b0 : decide (0 < (x7_1.length : Int)) = true := decide_eq_true c75
     have c75b1 : decide (0 < x7_1.length) = true := decide_eq_true (by omega)
     clear c75
     obtain rfl := Option.some.inj H
     obtain ⟨Ao76, co76, eo76⟩ := Kd.R_slice HO_7.out
     subst eo76
     have p277 : 0 ≤ (0 : Int) := (by omega)
     have q277 : 0 < (x7_1.length : Int) := Z.od
     obtain ⟨ad277, e277, hx277_0⟩ := Kd.at_bool (Kd.R_reads' HO_7.out).2.2 0 p277 q277
     cases e277
     have qi277 : (0 < x7_1.length) = True := eq_true (by omega)
     (try rw [show ((0 : Int)).toNat = 0 from rfl] at hx277_0)
     (try rw [Addr.add_zero'] at hx277_0)
     replace p277 := eq_true p277
     replace q277 := eq_true q277
     go_wp2
     go_ret
     exact ⟨by rfl, Z.bs HB.out GE273.out⟩
    ·rw [if_neg c75] at H
     exact absurd H (by simp)

end Go.Proofs.Ytiiddglmoffonaa.PFnExactMayChange

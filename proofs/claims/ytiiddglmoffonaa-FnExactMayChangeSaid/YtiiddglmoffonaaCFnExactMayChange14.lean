/- Walks of functions that FnExactMayChange reaches, in the form of the print. -/
import Derived.Test.YtiiddglmoffonaaCFnExactMayChange0
import Derived.Test.YtiiddglmoffonaaCFnExactMayChange13
import Derived.Test.YtiiddglmoffonaaZ
namespace Go.Proofs.Ytiiddglmoffonaa.PFnExactMayChange
open Go.RowKit Go.Proofs.YtiiddglmoffonaaW.PrintWords Go.Proofs.YtiiddglmoffonaaW.PrintLast Go.Proofs.YtiiddglmoffonaaW.PrintMore

set_option linter.unusedVariables false
set_option linter.unusedSimpArgs false

/-! ### impl_mayChange: function 96 -/
def impl_mayChange.f (k : Nat) (a0_0 : Int) (l0_1 : List Int) (l0_2 : List (List (S124))) (l1 : List Int) (a2 : Int) (a3 : Int) (a4 : Int) : Option (Bool) := if a2 < 0 then (some false) else (if a2 ≥ (l1.length : Int) then (some false) else (if a3 < 0 then (some false) else (if 0 ≤ a2 then (if a2 < (l0_2.length : Int) then (if a3 ≥ ((rd_L8 l0_2 a2).length : Int) then (some false) else (if a2 < (l1.length : Int) then (if a3 = (rd l1 a2) then (some false) else (if 0 ≤ (rd l1 a2) then (if (rd l1 a2) < ((rd_L8 l0_2 a2).length : Int) then ((impl_consents.f k a0_0 l0_1 ((rd_T124 (rd_L8 l0_2 a2) (rd l1 a2)).f0) a4).bind fun t318 => (if t318 = true then (if ((rd_T124 (rd_L8 l0_2 a2) (rd l1 a2)).f1) = (-1) then (some true) else (if 0 ≤ ((rd_T124 (rd_L8 l0_2 a2) (rd l1 a2)).f1) then (if ((rd_T124 (rd_L8 l0_2 a2) (rd l1 a2)).f1) < (l1.length : Int) then (some ((rd l1 ((rd_T124 (rd_L8 l0_2 a2) (rd l1 a2)).f1)) == ((rd_T124 (rd_L8 l0_2 a2) (rd l1 a2)).f2))) else (none)) else (none))) else (some false))) else (none)) else (none))) else (none))) else (none)) else (none))))
theorem impl_mayChange.mono : ∀ a0 a1 a2 a3 a4 a5 a6 k, LeO (impl_mayChange.f k a0 a1 a2 a3 a4 a5 a6) (impl_mayChange.f (k + 1) a0 a1 a2 a3 a4 a5 a6) := by
 intro a0 a1 a2 a3 a4 a5 a6 k
 unfold impl_mayChange.f
 repeat' first
   | (with_reducible exact impl_consents.mono _ _ _ _ _)
   | (with_reducible exact LeO.refl _)
   | (with_reducible exact LeO.none _)
   | (with_reducible refine LeO.ite ?_ ?_)
   | (with_reducible refine LeO.bind ?_ (fun _ => ?_))
   | exact impl_consents.mono _ _ _ _ _
   | exact LeO.none _
   | refine LeO.ite ?_ ?_
   | refine LeO.bind ?_ (fun _ => ?_)
def impl_mayChange.T3 : Bool × List (List Nat × List Nat) := (true, [([], []), ([0], [0]), ([], []), ([1, 2], [1, 2]), ([3], [3]), ([], []), ([], []), ([5, 6], [5, 6]), ([7], [7]), ([4, 8], [4, 8]), ([9], [9]), ([], []), ([11, 10, 0, 1, 2, 3, 4, 5, 6, 7, 8, 9, 10, 11], [10, 11])])
def impl_mayChange.B3 : List Nat := [0, 1, 0, 7, 15, 0, 0, 96, 224, 511, 1023, 0, 4095]
theorem impl_mayChange.tab3 : rtab .any (opsOf Try.f96 3) = impl_mayChange.T3 := by kernel_rfl
theorem impl_mayChange.bits3 : waitsOk impl_mayChange.T3.2 impl_mayChange.B3 = true := by kernel_rfl
def impl_mayChange.T4 : Bool × List (List Nat × List Nat) := (true, [([], []), ([0], [0]), ([], []), ([2], [2]), ([], []), ([1, 3, 4], [1, 3, 4]), ([5, 5], [5]), ([6], [6]), ([7, 6], [6, 7]), ([8, 6], [6, 8]), ([9, 6, 6], [6, 9]), ([10], [10]), ([10], [10]), ([12, 10], [10, 12]), ([11, 13, 10], [10, 11, 13]), ([14, 10], [10, 14]), ([10], [10]), ([16, 10], [10, 16]), ([15, 17, 10], [10, 15, 17]), ([10, 18, 6], [6, 10, 18]), ([6, 19], [6, 19]), ([20, 10, 0, 1, 2, 3, 4, 5, 6, 7, 8, 9, 10, 11, 12, 13, 14, 15, 16, 17, 18, 19, 20], [20])])
def impl_mayChange.B4 : List Nat := [0, 1, 0, 4, 0, 31, 63, 127, 255, 511, 1023, 2047, 2047, 6143, 16383, 32767, 2047, 67583, 262143, 524287, 1048575, 2097151]
theorem impl_mayChange.tab4 : rtab .any (opsOf Try.f96 4) = impl_mayChange.T4 := by kernel_rfl
theorem impl_mayChange.bits4 : waitsOk impl_mayChange.T4.2 impl_mayChange.B4 = true := by kernel_rfl
set_option maxHeartbeats 8000000 in
set_option maxRecDepth 100000 in
theorem impl_mayChange.calls (k : Nat) (a0_0 : Int) (A0_1 : Option Addr) (c0_1 : Nat) (l0_1 : List Int) (A0_2 : Option Addr) (c0_2 : Nat) (l0_2 : List (List (S124))) (A1 : Option Addr) (c1 : Nat) (l1 : List Int) (a2 : Int) (a3 : Int) (a4 : Int) (r : Bool) (w : World) (hr0_1 : Kd.C (Kd.int .i64) w A0_1 l0_1.length l0_1) (hc0_1 : l0_1.length ≤ c0_1) (hr0_2 : Kd.C (Kd.slice 124 k124) w A0_2 l0_2.length l0_2) (hc0_2 : l0_2.length ≤ c0_2) (hr1 : Kd.C (Kd.int .i64) w A1 l1.length l1) (hc1 : l1.length ≤ c1) (h : impl_mayChange.f k a0_0 l0_1 l0_2 l1 a2 a3 a4 = some r) :
  Calls Try.prog 96 #[.agg #[.int .i64 a0_0, .slice A0_1 l0_1.length c0_1, .slice A0_2 l0_2.length c0_2], .slice A1 l1.length c1, .int .i64 a2, .int .i64 a3, .int .i64 a4] w fun e w' => e = .returned (.bool r) ∧ Below w.heap.size w w' := by
 have hu67 := Try.underlying67
 have hu124 := Try.underlying124
 have hu35 := Try.underlying35
 have HR0_1 := Aside0.mk hr0_1
 have HC0_1 := Aside0.mk hc0_1
 clear hr0_1 hc0_1
 have HR0_2 := Aside0.mk hr0_2
 have HC0_2 := Aside0.mk hc0_2
 clear hr0_2 hc0_2
 have HR1 := Aside0.mk hr1
 have HC1 := Aside0.mk hc1
 clear hr1 hc1
 have HB := Aside0.mk (Below.refl w.heap.size w)
 have H : (if a2 < 0 then (some false) else (if a2 ≥ (l1.length : Int) then (some false) else (if a3 < 0 then (some false) else (if 0 ≤ a2 then (if a2 < (l0_2.length : Int) then (if a3 ≥ ((rd_L8 l0_2 a2).length : Int) then (some false) else (if a2 < (l1.length : Int) then (if a3 = (rd l1 a2) then (some false) else (if 0 ≤ (rd l1 a2) then (if (rd l1 a2) < ((rd_L8 l0_2 a2).length : Int) then ((impl_consents.f k a0_0 l0_1 ((rd_T124 (rd_L8 l0_2 a2) (rd l1 a2)).f0) a4).bind fun t318 => (if t318 = true then (if ((rd_T124 (rd_L8 l0_2 a2) (rd l1 a2)).f1) = (-1) then (some true) else (if 0 ≤ ((rd_T124 (rd_L8 l0_2 a2) (rd l1 a2)).f1) then (if ((rd_T124 (rd_L8 l0_2 a2) (rd l1 a2)).f1) < (l1.length : Int) then (some ((rd l1 ((rd_T124 (rd_L8 l0_2 a2) (rd l1 a2)).f1)) == ((rd_T124 (rd_L8 l0_2 a2) (rd l1 a2)).f2))) else (none)) else (none))) else (some false))) else (none)) else (none))) else (none))) else (none)) else (none))))) = some r := h
 clear h
 by_cases c6 : a2 < 0
 ·rw [if_pos c6] at H
  have c6b0 : decide (a2 < 0) = true := decide_eq_true c6
  clear c6
  obtain rfl := Option.some.inj H
  go_enter Try.func96, Try.ntmps96
  go_wp2_with (((with_reducible refine gate_dst (N := 5) rfl ?_); (try (refine gate_guard (by rfl) ?_; dsimp only)); refine box_event ?hg (N := 5) ?hd (cs := #[.int .i64 a0_0, .slice A0_1 l0_1.length c0_1, .slice A0_2 l0_2.length c0_2]) (t := 67) ?hr ?_; (case hd => rfl); (case hg => rfl); (case hr => (go_simp; done)); intro gb311 hg w7 hbox hb; have n0_ := Aside0.mk (below_step (Z.bl HB.out) hb); have n1_ := Aside0.mk (hbox); have n2_ := Aside0.mk ((by rw [hg]; exact (below_size (Z.bl HB.out)) : w.heap.size ≤ gb311)); have n3_ := Aside0.mk ((by rw [hg]; exact (below_size (Z.bl HB.out)) : w.heap.size ≤ gb311)); clear HB; have HB := n0_; have BK311 := n1_; have GW311 := n2_; have GE311 := n3_; clear n0_ n1_ n2_ n3_; clear hb hbox hg))
  go_ret
  exact ⟨by rfl, Z.bs HB.out GE311.out⟩
 ·rw [if_neg c6] at H
  have c6b0 : decide (a2 < 0) = false := decide_eq_false c6
  clear c6
  by_cases c8 : a2 ≥ (l1.length : Int)
  ·rw [if_pos c8] at H
   have c8b0 : decide ((l1.length : Int) ≤ a2) = true := decide_eq_true c8
   clear c8
   obtain rfl := Option.some.inj H
   go_enter Try.func96, Try.ntmps96
   go_wp2_with (((with_reducible refine gate_dst (N := 5) rfl ?_); (try (refine gate_guard (by rfl) ?_; dsimp only)); refine box_event ?hg (N := 5) ?hd (cs := #[.int .i64 a0_0, .slice A0_1 l0_1.length c0_1, .slice A0_2 l0_2.length c0_2]) (t := 67) ?hr ?_; (case hd => rfl); (case hg => rfl); (case hr => (go_simp; done)); intro gb311 hg w9 hbox hb; have n0_ := Aside0.mk (below_step (Z.bl HB.out) hb); have n1_ := Aside0.mk (hbox); have n2_ := Aside0.mk ((by rw [hg]; exact (below_size (Z.bl HB.out)) : w.heap.size ≤ gb311)); have n3_ := Aside0.mk ((by rw [hg]; exact (below_size (Z.bl HB.out)) : w.heap.size ≤ gb311)); clear HB; have HB := n0_; have BK311 := n1_; have GW311 := n2_; have GE311 := n3_; clear n0_ n1_ n2_ n3_; clear hb hbox hg))
   go_ret
   exact ⟨by rfl, Z.bs HB.out GE311.out⟩
  ·rw [if_neg c8] at H
   have c8b0 : decide ((l1.length : Int) ≤ a2) = false := decide_eq_false c8
   clear c8
   by_cases c10 : a3 < 0
   ·rw [if_pos c10] at H
    have c10b0 : decide (a3 < 0) = true := decide_eq_true c10
    clear c10
    obtain rfl := Option.some.inj H
    go_enter Try.func96, Try.ntmps96
    go_wp2_with (((with_reducible refine gate_dst (N := 5) rfl ?_); (try (refine gate_guard (by rfl) ?_; dsimp only)); refine box_event ?hg (N := 5) ?hd (cs := #[.int .i64 a0_0, .slice A0_1 l0_1.length c0_1, .slice A0_2 l0_2.length c0_2]) (t := 67) ?hr ?_; (case hd => rfl); (case hg => rfl); (case hr => (go_simp; done)); intro gb311 hg w11 hbox hb; have n0_ := Aside0.mk (below_step (Z.bl HB.out) hb); have n1_ := Aside0.mk (hbox); have n2_ := Aside0.mk ((by rw [hg]; exact (below_size (Z.bl HB.out)) : w.heap.size ≤ gb311)); have n3_ := Aside0.mk ((by rw [hg]; exact (below_size (Z.bl HB.out)) : w.heap.size ≤ gb311)); clear HB; have HB := n0_; have BK311 := n1_; have GW311 := n2_; have GE311 := n3_; clear n0_ n1_ n2_ n3_; clear hb hbox hg))
    go_ret
    exact ⟨by rfl, Z.bs HB.out GE311.out⟩
   ·rw [if_neg c10] at H
    have c10b0 : decide (a3 < 0) = false := decide_eq_false c10
    clear c10
    by_cases c12 : 0 ≤ a2
    ·rw [if_pos c12] at H
     have c12b0 : decide (0 ≤ a2) = true := decide_eq_true c12
     clear c12
     by_cases c13 : a2 < (l0_2.length : Int)
     ·rw [if_pos c13] at H
      have c13b0 : decide (a2 < (l0_2.length : Int)) = true := decide_eq_true c13
      clear c13
      by_cases c14 : a3 ≥ ((rd_L8 l0_2 a2).length : Int)
      ·rw [if_pos c14] at H
       have c14b0 : decide (((rd_L8 l0_2 a2).length : Int) ≤ a3) = true := decide_eq_true c14
       clear c14
       obtain rfl := Option.some.inj H
       go_enter Try.func96, Try.ntmps96
       go_wp2_with (((with_reducible refine gate_dst (N := 5) rfl ?_); (try (refine gate_guard (by rfl) ?_; dsimp only)); refine box_event ?hg (N := 5) ?hd (cs := #[.int .i64 a0_0, .slice A0_1 l0_1.length c0_1, .slice A0_2 l0_2.length c0_2]) (t := 67) ?hr ?_; (case hd => rfl); (case hg => rfl); (case hr => (go_simp; done)); intro gb311 hg w15 hbox hb; have n0_ := Aside0.mk (below_step (Z.bl HB.out) hb); have n1_ := Aside0.mk (hbox); have n2_ := Aside0.mk ((by rw [hg]; exact (below_size (Z.bl HB.out)) : w.heap.size ≤ gb311)); have n3_ := Aside0.mk ((by rw [hg]; exact (below_size (Z.bl HB.out)) : w.heap.size ≤ gb311)); clear HB; have HB := n0_; have BK311 := n1_; have GW311 := n2_; have GE311 := n3_; clear n0_ n1_ n2_ n3_; clear hb hbox hg; have hcz16_0 : w15.cell? ⟨gb311, 0, none⟩ = some (.int .i64 a0_0) := (blk_cell BK311.out 0).trans rfl; have hcz16_1 : w15.cell? ⟨gb311, 1, none⟩ = some (.slice A0_1 l0_1.length c0_1) := (blk_cell BK311.out 1).trans rfl; have hcz16_2 : w15.cell? ⟨gb311, 2, none⟩ = some (.slice A0_2 l0_2.length c0_2) := (blk_cell BK311.out 2).trans rfl; have hfz16_0 := blk_frozen BK311.out 0; have hfz16_1 := blk_frozen BK311.out 1; have hfz16_2 := blk_frozen BK311.out 2; have p312 : 0 ≤ (a2 : Int) := Z.od; have q312 : a2 < (l0_2.length : Int) := Z.od; obtain ⟨ad312, A312_0, c312_0, e312, hx312_0, hl312_0, hi312_0⟩ := at_L8 HR0_2.out a2 p312 q312; cases e312; replace hx312_0 := Z.up HB.out hx312_0; have HR312_0 := Aside0.mk hi312_0; have HC312_0 := Aside0.mk hl312_0; clear hi312_0 hl312_0; replace p312 := eq_true p312; replace q312 := eq_true q312))
       go_ret
       exact ⟨by rfl, Z.bs HB.out GE311.out⟩
      ·rw [if_neg c14] at H
       have c14b0 : decide (((rd_L8 l0_2 a2).length : Int) ≤ a3) = false := decide_eq_false c14
       clear c14
       by_cases c17 : a2 < (l1.length : Int)
       ·rw [if_pos c17] at H
        have c17b0 : decide (a2 < (l1.length : Int)) = true := decide_eq_true c17
        clear c17
        by_cases c18 : a3 = (rd l1 a2)
        ·rw [if_pos c18] at H
         have c18b0 : (a3 == (rd l1 a2)) = true := beq_iff_eq.mpr c18
         have c18b1 : (a3 != (rd l1 a2)) = false := bne_eq_false_iff_eq.mpr c18
         clear c18
         obtain rfl := Option.some.inj H
         go_enter Try.func96, Try.ntmps96
         go_wp2_with (((with_reducible refine gate_dst (N := 5) rfl ?_); (try (refine gate_guard (by rfl) ?_; dsimp only)); refine box_event ?hg (N := 5) ?hd (cs := #[.int .i64 a0_0, .slice A0_1 l0_1.length c0_1, .slice A0_2 l0_2.length c0_2]) (t := 67) ?hr ?_; (case hd => rfl); (case hg => rfl); (case hr => (go_simp; done)); intro gb311 hg w19 hbox hb; have n0_ := Aside0.mk (below_step (Z.bl HB.out) hb); have n1_ := Aside0.mk (hbox); have n2_ := Aside0.mk ((by rw [hg]; exact (below_size (Z.bl HB.out)) : w.heap.size ≤ gb311)); have n3_ := Aside0.mk ((by rw [hg]; exact (below_size (Z.bl HB.out)) : w.heap.size ≤ gb311)); clear HB; have HB := n0_; have BK311 := n1_; have GW311 := n2_; have GE311 := n3_; clear n0_ n1_ n2_ n3_; clear hb hbox hg; have hcz20_0 : w19.cell? ⟨gb311, 0, none⟩ = some (.int .i64 a0_0) := (blk_cell BK311.out 0).trans rfl; have hcz20_1 : w19.cell? ⟨gb311, 1, none⟩ = some (.slice A0_1 l0_1.length c0_1) := (blk_cell BK311.out 1).trans rfl; have hcz20_2 : w19.cell? ⟨gb311, 2, none⟩ = some (.slice A0_2 l0_2.length c0_2) := (blk_cell BK311.out 2).trans rfl; have hfz20_0 := blk_frozen BK311.out 0; have hfz20_1 := blk_frozen BK311.out 1; have hfz20_2 := blk_frozen BK311.out 2; have p312 : 0 ≤ (a2 : Int) := Z.od; have q312 : a2 < (l0_2.length : Int) := Z.od; obtain ⟨ad312, A312_0, c312_0, e312, hx312_0, hl312_0, hi312_0⟩ := at_L8 HR0_2.out a2 p312 q312; cases e312; replace hx312_0 := Z.up HB.out hx312_0; have HR312_0 := Aside0.mk hi312_0; have HC312_0 := Aside0.mk hl312_0; clear hi312_0 hl312_0; replace p312 := eq_true p312; replace q312 := eq_true q312; have p313 : 0 ≤ (a2 : Int) := Z.od; have q313 : a2 < (l1.length : Int) := Z.od; obtain ⟨ad313, e313, hx313_0⟩ := Kd.at_int HR1.out a2 p313 q313; cases e313; replace hx313_0 := Z.up HB.out hx313_0; replace p313 := eq_true p313; replace q313 := eq_true q313))
         go_ret
         exact ⟨by rfl, Z.bs HB.out GE311.out⟩
        ·rw [if_neg c18] at H
         have c18b0 : (a3 == (rd l1 a2)) = false := beq_eq_false_iff_ne.mpr c18
         have c18b1 : (a3 != (rd l1 a2)) = true := bne_iff_ne.mpr c18
         by_cases c21 : 0 ≤ (rd l1 a2)
         ·rw [if_pos c21] at H
          have c21b0 : decide (0 ≤ (rd l1 a2)) = true := decide_eq_true c21
          clear c21
          by_cases c22 : (rd l1 a2) < ((rd_L8 l0_2 a2).length : Int)
          ·rw [if_pos c22] at H
           have c22b0 : decide ((rd l1 a2) < ((rd_L8 l0_2 a2).length : Int)) = true := decide_eq_true c22
           clear c22
           replace H := Option.bind_eq_some_iff.mp H
           obtain ⟨t318, A230, H⟩ := H
           replace H : (if t318 = true then (if ((rd_T124 (rd_L8 l0_2 a2) (rd l1 a2)).f1) = (-1) then (some true) else (if 0 ≤ ((rd_T124 (rd_L8 l0_2 a2) (rd l1 a2)).f1) then (if ((rd_T124 (rd_L8 l0_2 a2) (rd l1 a2)).f1) < (l1.length : Int) then (some ((rd l1 ((rd_T124 (rd_L8 l0_2 a2) (rd l1 a2)).f1)) == ((rd_T124 (rd_L8 l0_2 a2) (rd l1 a2)).f2))) else (none)) else (none))) else (some false)) = some r := H
           have A23 := Aside0.mk A230
           clear A230
           by_cases c24 : t318 = true
           ·subst c24
            have H1 : (if ((rd_T124 (rd_L8 l0_2 a2) (rd l1 a2)).f1) = (-1) then (some true) else (if 0 ≤ ((rd_T124 (rd_L8 l0_2 a2) (rd l1 a2)).f1) then (if ((rd_T124 (rd_L8 l0_2 a2) (rd l1 a2)).f1) < (l1.length : Int) then (some ((rd l1 ((rd_T124 (rd_L8 l0_2 a2) (rd l1 a2)).f1)) == ((rd_T124 (rd_L8 l0_2 a2) (rd l1 a2)).f2))) else (none)) else (none))) = some r := by rw [if_pos rfl] at H; exact H
            clear H
            have H := H1
            clear H1
            by_cases c25 : ((rd_T124 (rd_L8 l0_2 a2) (rd l1 a2)).f1) = (-1)
            ·rw [if_pos c25] at H
             have c25b0 : (((rd_T124 (rd_L8 l0_2 a2) (rd l1 a2)).f1) == (-1)) = true := beq_iff_eq.mpr c25
             have c25b1 : (((rd_T124 (rd_L8 l0_2 a2) (rd l1 a2)).f1) != (-1)) = false := bne_eq_false_iff_eq.mpr c25
             clear c25
             obtain rfl := Option.some.inj H
             go_enter Try.func96, Try.ntmps96
             try go_wp2_with (((with_reducible refine gate_dst (N := 5) rfl ?_); (try (refine gate_guard (by rfl) ?_; dsimp only)); refine box_event ?hg (N := 5) ?hd (cs := #[.int .i64 a0_0, .slice A0_1 l0_1.length c0_1, .slice A0_2 l0_2.length c0_2]) (t := 67) ?hr ?_; (case hd => rfl); (case hg => rfl); (case hr => (go_simp; done)); intro gb311 hg w26 hbox hb; have n0_ := Aside0.mk (below_step (Z.bl HB.out) hb); have n1_ := Aside0.mk (hbox); have n2_ := Aside0.mk ((by rw [hg]; exact (below_size (Z.bl HB.out)) : w.heap.size ≤ gb311)); have n3_ := Aside0.mk ((by rw [hg]; exact (below_size (Z.bl HB.out)) : w.heap.size ≤ gb311)); clear HB; have HB := n0_; have BK311 := n1_; have GW311 := n2_; have GE311 := n3_; clear n0_ n1_ n2_ n3_; clear hb hbox hg; have hcz27_0 : w26.cell? ⟨gb311, 0, none⟩ = some (.int .i64 a0_0) := (blk_cell BK311.out 0).trans rfl; have hcz27_1 : w26.cell? ⟨gb311, 1, none⟩ = some (.slice A0_1 l0_1.length c0_1) := (blk_cell BK311.out 1).trans rfl; have hcz27_2 : w26.cell? ⟨gb311, 2, none⟩ = some (.slice A0_2 l0_2.length c0_2) := (blk_cell BK311.out 2).trans rfl; have hfz27_0 := blk_frozen BK311.out 0; have hfz27_1 := blk_frozen BK311.out 1; have hfz27_2 := blk_frozen BK311.out 2; have p312 : 0 ≤ (a2 : Int) := Z.od; have q312 : a2 < (l0_2.length : Int) := Z.od; obtain ⟨ad312, A312_0, c312_0, e312, hx312_0, hl312_0, hi312_0⟩ := at_L8 HR0_2.out a2 p312 q312; cases e312; replace hx312_0 := Z.up HB.out hx312_0; have HR312_0 := Aside0.mk hi312_0; have HC312_0 := Aside0.mk hl312_0; clear hi312_0 hl312_0; replace p312 := eq_true p312; replace q312 := eq_true q312; have p313 : 0 ≤ (a2 : Int) := Z.od; have q313 : a2 < (l1.length : Int) := Z.od; obtain ⟨ad313, e313, hx313_0⟩ := Kd.at_int HR1.out a2 p313 q313; cases e313; replace hx313_0 := Z.up HB.out hx313_0; replace p313 := eq_true p313; replace q313 := eq_true q313))
             have n0_ := Aside0.mk (blk_drew BK311.out)
             have n1_ := Aside0.mk (below_drew1 HB.out)
             clear BK311
             clear HB
             have BK311 := n0_
             have HB := n1_
             clear n0_ n1_
             have p314 : 0 ≤ (a2 : Int) := Z.od
             have q314 : a2 < (l0_2.length : Int) := Z.od
             obtain ⟨ad314, A314_0, c314_0, e314, hx314_0, hl314_0, hi314_0⟩ := at_L8 HR0_2.out a2 p314 q314
             have hw314_0 := hx314_0
             obtain rfl : ad312 = ad314 := (by injection e314)
             replace hx314_0 := Z.up HB.out hx314_0
             have HR314_0 := Aside0.mk hi314_0
             have HC314_0 := Aside0.mk hl314_0
             clear hi314_0 hl314_0
             replace p314 := eq_true p314
             replace q314 := eq_true q314
             have p315 : 0 ≤ (a2 : Int) := Z.od
             have q315 : a2 < (l1.length : Int) := Z.od
             obtain ⟨ad315, e315, hx315_0⟩ := Kd.at_int HR1.out a2 p315 q315
             have hw315_0 := hx315_0
             obtain rfl : ad313 = ad315 := (by injection e315)
             replace hx315_0 := Z.up HB.out hx315_0
             replace p315 := eq_true p315
             replace q315 := eq_true q315
             have p316 : 0 ≤ ((rd l1 a2) : Int) := Z.od
             have q316 : (rd l1 a2) < ((rd_L8 l0_2 a2).length : Int) := Z.od
             obtain ⟨ad316, A316_0, c316_0, e316, hx316_0, hx316_1, hx316_2, hl316_0, hi316_0⟩ := at_T124 HR314_0.out (rd l1 a2) p316 q316
             have hw316_2 := hx316_2
             have hw316_1 := hx316_1
             have hw316_0 := hx316_0
             cases e316
             replace hx316_0 := Z.up HB.out hx316_0
             replace hx316_1 := Z.up HB.out hx316_1
             replace hx316_2 := Z.up HB.out hx316_2
             have HR316_0 := Aside0.mk hi316_0
             have HC316_0 := Aside0.mk hl316_0
             clear hi316_0 hl316_0
             replace p316 := eq_true p316
             replace q316 := eq_true q316
             refine start_ (n := 13) (S := fun w' => w'.cell? ⟨gb311, 0, none⟩ = some (.int .i64 a0_0) ∧ w'.cell? ⟨gb311, 1, none⟩ = some (.slice A0_1 l0_1.length c0_1) ∧ w'.cell? ⟨gb311, 2, none⟩ = some (.slice (some ad312) l0_2.length c0_2) ∧ w'.cell? (ad312.add (a2).toNat) = some (.slice (some ad316) (rd_L8 l0_2 a2).length c314_0) ∧ w'.cell? (ad313.add (a2).toNat) = some (.int .i64 (rd l1 a2)) ∧ w'.cell? (ad316.add (((rd l1 a2)).toNat * 3)) = some (.slice A316_0 ((rd_T124 (rd_L8 l0_2 a2) (rd l1 a2)).f0).length c316_0) ∧ w'.cell? ⟨(ad316.add (((rd l1 a2)).toNat * 3)).block, (ad316.add (((rd l1 a2)).toNat * 3)).off + 1, none⟩ = some (.int .i64 ((rd_T124 (rd_L8 l0_2 a2) (rd l1 a2)).f1)) ∧ w'.cell? ⟨(ad316.add (((rd l1 a2)).toNat * 3)).block, (ad316.add (((rd l1 a2)).toNat * 3)).off + 2, none⟩ = some (.int .i64 ((rd_T124 (rd_L8 l0_2 a2) (rd l1 a2)).f2))) (ds := []) #[false, false, false, false, false, false, false, false, false, false, false, false, false] (by kernel_rfl) rfl rfl ⟨(blk_cell BK311.out 0).trans rfl, (blk_cell BK311.out 1).trans rfl, (blk_cell BK311.out 2).trans rfl, ((HB.out.cell (World.block_lt_of_cell? w _ hw314_0)).trans hw314_0), ((HB.out.cell (World.block_lt_of_cell? w _ hw315_0)).trans hw315_0), ((HB.out.cell (World.block_lt_of_cell? w _ hw316_0)).trans hw316_0), ((HB.out.cell (World.block_lt_of_cell? w _ hw316_1)).trans hw316_1), ((HB.out.cell (World.block_lt_of_cell? w _ hw316_2)).trans hw316_2)⟩ (fun hHeld => ?_); refine with_tabW impl_mayChange.tab3 impl_mayChange.bits3 (fun HT_ HW_ => ?_)
             generalize w26.drew = w28 at BK311 HB HR314_0 HR316_0 hx314_0 hx315_0 hx316_0 hx316_1 hx316_2 hHeld ⊢
             refine Z.pv 0 42 13 1 HT_.out ?_
             refine Z.pv 2 44 13 5 HT_.out ?_
             refine Z.pv 5 47 13 37 HT_.out ?_
             refine Z.pv 6 48 13 101 HT_.out ?_
             refine Z.pv 7 49 13 229 HT_.out ?_
             refine Z.t8 1 43 13 231 HT_.out HW_.out hHeld ?_
             refine Z.pv 3 45 13 239 HT_.out ?_
             refine Z.t8 4 46 13 255 HT_.out HW_.out hHeld ?_
             refine Z.t8 8 50 13 511 HT_.out HW_.out hHeld ?_
             refine Z.pv 9 51 13 1023 HT_.out ?_
             refine Z.t8 10 52 13 2047 HT_.out HW_.out hHeld ?_
             refine one_ (i := 11) (N := some 11) (Z.mb 13 4095) rfl rfl (one_of HT_.out (by kernel_rfl)) (by decide) (fun K hK => ?_)
             refine box_step ?hg (N := 11) ?hd (cs := #[.slice none 0 0, .int .i64 0, .int .i64 0]) (t := 124) ?hr ?_; (case hd => rfl); (case hg => rfl); (case hr => (go_simp; done))
             intro gb317 hg w29 hbox hb
             have n0_ := Aside0.mk (blk_below (g := gb311) (o := .cells #[.int .i64 a0_0, .slice A0_1 l0_1.length c0_1, .slice (some ad312) l0_2.length c0_2] 67 (0, 0)) (Z.bk BK311.out) hb)
             have n1_ := Aside0.mk (below_step (Z.bs HB.out GE311.out) hb)
             have n2_ := Aside0.mk (hbox)
             have n3_ := Aside0.mk ((by rw [hg]; exact (below_size (Z.bs HB.out GE311.out)) : w.heap.size ≤ gb317))
             have n4_ := Aside0.mk ((by rw [hg]; exact (below_size (Z.bs HB.out GE311.out)) : w.heap.size ≤ gb317))
             have n5_ := Aside0.mk ((by rw [hg]; exact Nat.ne_of_lt (blk_lt (g := gb311) (o := .cells #[.int .i64 a0_0, .slice A0_1 l0_1.length c0_1, .slice (some ad312) l0_2.length c0_2] 67 (0, 0)) (Z.bk BK311.out)) : gb311 ≠ gb317))
             have n6_ := Aside0.mk ((by rw [hg]; exact Nat.ne_of_gt (blk_lt (g := gb311) (o := .cells #[.int .i64 a0_0, .slice A0_1 l0_1.length c0_1, .slice (some ad312) l0_2.length c0_2] 67 (0, 0)) (Z.bk BK311.out)) : gb317 ≠ gb311))
             clear BK311
             clear HB
             have BK311 := n0_
             have HB := n1_
             have BK317 := n2_
             have GW317 := n3_
             have GE317 := n4_
             have NB311_317 := n5_
             have NB317_311 := n6_
             clear n0_ n1_ n2_ n3_ n4_ n5_ n6_
             clear hb hbox hg
             refine hK.out _ _ ⟨(blk_cell BK311.out 0).trans rfl, (blk_cell BK311.out 1).trans rfl, (blk_cell BK311.out 2).trans rfl, ((HB.out.cell (World.block_lt_of_cell? w _ hw314_0)).trans hw314_0), ((HB.out.cell (World.block_lt_of_cell? w _ hw315_0)).trans hw315_0), ((HB.out.cell (World.block_lt_of_cell? w _ hw316_0)).trans hw316_0), ((HB.out.cell (World.block_lt_of_cell? w _ hw316_1)).trans hw316_1), ((HB.out.cell (World.block_lt_of_cell? w _ hw316_2)).trans hw316_2)⟩ (fun hHeld => ?_)
             clear hK K
             refine Z.nm ?_
             refine one_ (i := 12) (N := none) #[true, true, true, true, true, true, true, true, true, true, true, true, true] rfl rfl (one_of HT_.out (by kernel_rfl)) (by decide) (fun K hK => ?_)
             have hs30 : w29.cell? ⟨gb317, 0, none⟩ = some (.slice none 0 0) := (blk_cell BK317.out 0).trans rfl
             have hfs30 := blk_frozen BK317.out 0
             have hns30_0 := NB311_317.out
             have hms30_0 := NB317_311.out
             have hs31 : w29.cell? ⟨gb317, 1, none⟩ = some (.int .i64 0) := (blk_cell BK317.out 1).trans rfl
             have hfs31 := blk_frozen BK317.out 1
             have hns31_0 := NB311_317.out
             have hms31_0 := NB317_311.out
             have hs32 : w29.cell? ⟨gb317, 2, none⟩ = some (.int .i64 0) := (blk_cell BK317.out 2).trans rfl
             have hfs32 := blk_frozen BK317.out 2
             have hns32_0 := NB311_317.out
             have hms32_0 := NB317_311.out
             refine skip_ (w1 := ?_) (by rfl) rfl ?_ ?_
             rotate_left
             ·go_simp
              rfl
             refine hK.out _ _ ⟨((cell_far (p := ⟨gb317, _, none⟩) NB311_317.out _).trans (((cell_far (p := ⟨gb317, _, none⟩) NB311_317.out _).trans (((cell_far (p := ⟨gb317, _, none⟩) NB311_317.out _).trans (hHeld.1)))))), ((cell_far (p := ⟨gb317, _, none⟩) NB311_317.out _).trans (((cell_far (p := ⟨gb317, _, none⟩) NB311_317.out _).trans (((cell_far (p := ⟨gb317, _, none⟩) NB311_317.out _).trans (hHeld.2.1)))))), ((cell_far (p := ⟨gb317, _, none⟩) NB311_317.out _).trans (((cell_far (p := ⟨gb317, _, none⟩) NB311_317.out _).trans (((cell_far (p := ⟨gb317, _, none⟩) NB311_317.out _).trans (hHeld.2.2.1)))))), ((cell_far (p := ⟨gb317, _, none⟩) (by exact Nat.ne_of_lt (Nat.lt_of_lt_of_le (by have := World.block_lt_of_cell? _ _ hw314_0; exact this) GW317.out)) _).trans (((cell_far (p := ⟨gb317, _, none⟩) (by exact Nat.ne_of_lt (Nat.lt_of_lt_of_le (by have := World.block_lt_of_cell? _ _ hw314_0; exact this) GW317.out)) _).trans (((cell_far (p := ⟨gb317, _, none⟩) (by exact Nat.ne_of_lt (Nat.lt_of_lt_of_le (by have := World.block_lt_of_cell? _ _ hw314_0; exact this) GW317.out)) _).trans (hHeld.2.2.2.1)))))), ((cell_far (p := ⟨gb317, _, none⟩) (by exact Nat.ne_of_lt (Nat.lt_of_lt_of_le (by have := World.block_lt_of_cell? _ _ hw315_0; exact this) GW317.out)) _).trans (((cell_far (p := ⟨gb317, _, none⟩) (by exact Nat.ne_of_lt (Nat.lt_of_lt_of_le (by have := World.block_lt_of_cell? _ _ hw315_0; exact this) GW317.out)) _).trans (((cell_far (p := ⟨gb317, _, none⟩) (by exact Nat.ne_of_lt (Nat.lt_of_lt_of_le (by have := World.block_lt_of_cell? _ _ hw315_0; exact this) GW317.out)) _).trans (hHeld.2.2.2.2.1)))))), ((cell_far (p := ⟨gb317, _, none⟩) (by exact Nat.ne_of_lt (Nat.lt_of_lt_of_le (by have := World.block_lt_of_cell? _ _ hw316_0; exact this) GW317.out)) _).trans (((cell_far (p := ⟨gb317, _, none⟩) (by exact Nat.ne_of_lt (Nat.lt_of_lt_of_le (by have := World.block_lt_of_cell? _ _ hw316_0; exact this) GW317.out)) _).trans (((cell_far (p := ⟨gb317, _, none⟩) (by exact Nat.ne_of_lt (Nat.lt_of_lt_of_le (by have := World.block_lt_of_cell? _ _ hw316_0; exact this) GW317.out)) _).trans (hHeld.2.2.2.2.2.1)))))), ((cell_far (p := ⟨gb317, _, none⟩) (by exact Nat.ne_of_lt (Nat.lt_of_lt_of_le (by have := World.block_lt_of_cell? _ _ hw316_1; exact this) GW317.out)) _).trans (((cell_far (p := ⟨gb317, _, none⟩) (by exact Nat.ne_of_lt (Nat.lt_of_lt_of_le (by have := World.block_lt_of_cell? _ _ hw316_1; exact this) GW317.out)) _).trans (((cell_far (p := ⟨gb317, _, none⟩) (by exact Nat.ne_of_lt (Nat.lt_of_lt_of_le (by have := World.block_lt_of_cell? _ _ hw316_1; exact this) GW317.out)) _).trans (hHeld.2.2.2.2.2.2.1)))))), ((cell_far (p := ⟨gb317, _, none⟩) (by exact Nat.ne_of_lt (Nat.lt_of_lt_of_le (by have := World.block_lt_of_cell? _ _ hw316_2; exact this) GW317.out)) _).trans (((cell_far (p := ⟨gb317, _, none⟩) (by exact Nat.ne_of_lt (Nat.lt_of_lt_of_le (by have := World.block_lt_of_cell? _ _ hw316_2; exact this) GW317.out)) _).trans (((cell_far (p := ⟨gb317, _, none⟩) (by exact Nat.ne_of_lt (Nat.lt_of_lt_of_le (by have := World.block_lt_of_cell? _ _ hw316_2; exact this) GW317.out)) _).trans (hHeld.2.2.2.2.2.2.2))))))⟩ (fun hHeld => ?_)
             clear hK K
             refine done_ (done_of HT_.out (by kernel_rfl)) ?_
             try go_wp2
             have n0_ : Aside0 ((((w29.setCell ⟨gb317, 0, none⟩ (.slice A316_0 ((rd_T124 (rd_L8 l0_2 a2) (rd l1 a2)).f0).length c316_0)).setCell ⟨gb317, 1, none⟩ (.int .i64 ((rd_T124 (rd_L8 l0_2 a2) (rd l1 a2)).f1))).setCell ⟨gb317, 2, none⟩ (.int .i64 ((rd_T124 (rd_L8 l0_2 a2) (rd l1 a2)).f2))).heap[gb311]? = some (.cells #[.int .i64 a0_0, .slice A0_1 l0_1.length c0_1, .slice (some ad312) l0_2.length c0_2] 67 (0, 0))) := ⟨by (with_reducible skip); refine blk_far ?_ NB311_317.out _; (with_reducible skip); refine blk_far ?_ NB311_317.out _; (with_reducible skip); refine blk_far ?_ NB311_317.out _; (with_reducible skip); exact BK311.out⟩
             have n1_ : Aside0 ((((w29.setCell ⟨gb317, 0, none⟩ (.slice A316_0 ((rd_T124 (rd_L8 l0_2 a2) (rd l1 a2)).f0).length c316_0)).setCell ⟨gb317, 1, none⟩ (.int .i64 ((rd_T124 (rd_L8 l0_2 a2) (rd l1 a2)).f1))).setCell ⟨gb317, 2, none⟩ (.int .i64 ((rd_T124 (rd_L8 l0_2 a2) (rd l1 a2)).f2))).heap[gb317]? = some (.cells #[.slice A316_0 ((rd_T124 (rd_L8 l0_2 a2) (rd l1 a2)).f0).length c316_0, .int .i64 ((rd_T124 (rd_L8 l0_2 a2) (rd l1 a2)).f1), .int .i64 ((rd_T124 (rd_L8 l0_2 a2) (rd l1 a2)).f2)] 124 (0, 0))) := ⟨by (with_reducible skip); refine blk_put (cs := #[.slice A316_0 ((rd_T124 (rd_L8 l0_2 a2) (rd l1 a2)).f0).length c316_0, .int .i64 ((rd_T124 (rd_L8 l0_2 a2) (rd l1 a2)).f1), .int .i64 0]) ?_ 2 _ rfl; (with_reducible skip); refine blk_put (cs := #[.slice A316_0 ((rd_T124 (rd_L8 l0_2 a2) (rd l1 a2)).f0).length c316_0, .int .i64 0, .int .i64 0]) ?_ 1 _ rfl; (with_reducible skip); refine blk_put (cs := #[.slice none 0 0, .int .i64 0, .int .i64 0]) ?_ 0 _ rfl; (with_reducible skip); exact BK317.out⟩
             have n2_ : Aside0 (Below w.heap.size w (((w29.setCell ⟨gb317, 0, none⟩ (.slice A316_0 ((rd_T124 (rd_L8 l0_2 a2) (rd l1 a2)).f0).length c316_0)).setCell ⟨gb317, 1, none⟩ (.int .i64 ((rd_T124 (rd_L8 l0_2 a2) (rd l1 a2)).f1))).setCell ⟨gb317, 2, none⟩ (.int .i64 ((rd_T124 (rd_L8 l0_2 a2) (rd l1 a2)).f2)))) := ⟨by repeat ((with_reducible first | exact HB.out | refine below_set ?_ GE317.out))⟩
             (try clear BK311)
             (try clear BK317)
             (try clear HB)
             generalize (((w29.setCell ⟨gb317, 0, none⟩ (.slice A316_0 ((rd_T124 (rd_L8 l0_2 a2) (rd l1 a2)).f0).length c316_0)).setCell ⟨gb317, 1, none⟩ (.int .i64 ((rd_T124 (rd_L8 l0_2 a2) (rd l1 a2)).f1))).setCell ⟨gb317, 2, none⟩ (.int .i64 ((rd_T124 (rd_L8 l0_2 a2) (rd l1 a2)).f2))) = w33 at n0_ n1_ n2_ ⊢
             have BK311 := n0_
             have BK317 := n1_
             have HB := n2_
             clear n0_ n1_ n2_
             have n0_ := Aside0.mk (blk_drew BK311.out)
             have n1_ := Aside0.mk (blk_drew BK317.out)
             have n2_ := Aside0.mk (below_drew1 HB.out)
             clear BK311
             clear BK317
             clear HB
             have BK311 := n0_
             have BK317 := n1_
             have HB := n2_
             clear n0_ n1_ n2_
             refine start_ (n := 22) (S := fun w' => w'.cell? ⟨gb311, 0, none⟩ = some (.int .i64 a0_0) ∧ w'.cell? ⟨gb311, 1, none⟩ = some (.slice A0_1 l0_1.length c0_1) ∧ w'.cell? ⟨gb311, 2, none⟩ = some (.slice (some ad312) l0_2.length c0_2) ∧ w'.cell? ⟨gb317, 0, none⟩ = some (.slice A316_0 ((rd_T124 (rd_L8 l0_2 a2) (rd l1 a2)).f0).length c316_0) ∧ w'.cell? ⟨gb317, 1, none⟩ = some (.int .i64 ((rd_T124 (rd_L8 l0_2 a2) (rd l1 a2)).f1)) ∧ w'.cell? ⟨gb317, 2, none⟩ = some (.int .i64 ((rd_T124 (rd_L8 l0_2 a2) (rd l1 a2)).f2))) (ds := []) #[false, false, false, false, false, false, false, false, false, false, false, false, false, false, false, false, false, false, false, false, false, false] (by kernel_rfl) rfl rfl ⟨(blk_cell BK311.out 0).trans rfl, (blk_cell BK311.out 1).trans rfl, (blk_cell BK311.out 2).trans rfl, (blk_cell BK317.out 0).trans rfl, (blk_cell BK317.out 1).trans rfl, (blk_cell BK317.out 2).trans rfl⟩ (fun hHeld => ?_); refine with_tabW impl_mayChange.tab4 impl_mayChange.bits4 (fun HT_ HW_ => ?_)
             generalize w33.drew = w34 at BK311 BK317 HB hHeld ⊢
             refine Z.pv 0 53 22 1 HT_.out ?_
             refine Z.pv 2 55 22 5 HT_.out ?_
             refine Z.pv 4 57 22 21 HT_.out ?_
             refine Z.t6 1 54 22 23 HT_.out HW_.out hHeld ?_
             refine Z.t6 3 56 22 31 HT_.out HW_.out hHeld ?_
             refine one_ (i := 5) (N := some 58) (Z.mb 22 63) rfl rfl (one_of HT_.out (by kernel_rfl)) (by decide) (fun K hK => ?_)
             refine goes_ Try.func81 (by kernel_rfl) rfl #[.agg #[.int .i64 a0_0, .slice A0_1 l0_1.length c0_1], .slice A316_0 ((rd_T124 (rd_L8 l0_2 a2) (rd l1 a2)).f0).length c316_0, .int .i64 a4] (by rfl) rfl rfl Z.ar ?_
             with_reducible refine (impl_consents.calls k a0_0 _ _ l0_1 _ _ ((rd_T124 (rd_L8 l0_2 a2) (rd l1 a2)).f0) a4 true _ ?side1 ?side2 ?side3 ?side4 A23.out).mono ?_
             (case side1 => exact Z.cb (Kd.C_below HR0_1.out HB.out))
             (case side2 => exact HC0_1.out)
             (case side3 => exact Z.cb (Kd.C_below HR316_0.out HB.out))
             (case side4 => exact HC316_0.out)
             rintro e w35 ⟨rfl, hb⟩
             refine ⟨_, rfl, ?_⟩
             have n0_ := Aside0.mk (blk_below (g := gb311) (o := .cells #[.int .i64 a0_0, .slice A0_1 l0_1.length c0_1, .slice (some ad312) l0_2.length c0_2] 67 (0, 0)) (Z.bk BK311.out) hb)
             have n1_ := Aside0.mk (blk_below (g := gb317) (o := .cells #[.slice A316_0 ((rd_T124 (rd_L8 l0_2 a2) (rd l1 a2)).f0).length c316_0, .int .i64 ((rd_T124 (rd_L8 l0_2 a2) (rd l1 a2)).f1), .int .i64 ((rd_T124 (rd_L8 l0_2 a2) (rd l1 a2)).f2)] 124 (0, 0)) (Z.bk BK317.out) hb)
             have n2_ := Aside0.mk (below_step (by repeat ((with_reducible exact HB.out))) hb)
             clear BK311
             clear BK317
             clear HB
             have BK311 := n0_
             have BK317 := n1_
             have HB := n2_
             clear n0_ n1_ n2_
             (try clear hb)
             refine hK.out _ _ ⟨(blk_cell BK311.out 0).trans rfl, (blk_cell BK311.out 1).trans rfl, (blk_cell BK311.out 2).trans rfl, (blk_cell BK317.out 0).trans rfl, (blk_cell BK317.out 1).trans rfl, (blk_cell BK317.out 2).trans rfl⟩ (fun hHeld => ?_)
             clear hK K
             refine Z.nm ?_
             refine Z.pv 6 59 22 127 HT_.out ?_
             refine Z.pv 7 60 22 255 HT_.out ?_
             refine Z.t6 8 61 22 511 HT_.out HW_.out hHeld ?_
             refine Z.pv 9 62 22 1023 HT_.out ?_
             refine Z.pv 10 63 22 2047 HT_.out ?_
             refine Z.pu 11 64 22 4095 HT_.out ?_
             refine Z.pu 12 65 22 8191 HT_.out ?_
             refine Z.pu 13 66 22 16383 HT_.out ?_
             refine Z.pu 14 67 22 32767 HT_.out ?_
             refine Z.pu 15 68 22 65535 HT_.out ?_
             refine Z.pu 16 69 22 131071 HT_.out ?_
             refine Z.pu 17 70 22 262143 HT_.out ?_
             refine Z.pu 18 71 22 524287 HT_.out ?_
             refine Z.pv 19 72 22 1048575 HT_.out ?_
             refine Z.pv 20 73 22 2097151 HT_.out ?_
             refine Z.pv 21 10 22 4194303 HT_.out ?_
             refine done_ (done_of HT_.out (by kernel_rfl)) ?_
             try go_wp2
             go_ret
             exact ⟨by rfl, by repeat ((with_reducible exact HB.out))⟩
            ·rw [if_neg c25] at H
             have c25b0 : (((rd_T124 (rd_L8 l0_2 a2) (rd l1 a2)).f1) == (-1)) = false := beq_eq_false_iff_ne.mpr c25
             have c25b1 : (((rd_T124 (rd_L8 l0_2 a2) (rd l1 a2)).f1) != (-1)) = true := bne_iff_ne.mpr c25
             by_cases c36 : 0 ≤ ((rd_T124 (rd_L8 l0_2 a2) (rd l1 a2)).f1)
             ·rw [if_pos c36] at H
              have c36b0 : decide (0 ≤ ((rd_T124 (rd_L8 l0_2 a2) (rd l1 a2)).f1)) = true := decide_eq_true c36
              clear c36
              by_cases c37 : ((rd_T124 (rd_L8 l0_2 a2) (rd l1 a2)).f1) < (l1.length : Int)
              ·rw [if_pos c37] at H
               have c37b0 : decide (((rd_T124 (rd_L8 l0_2 a2) (rd l1 a2)).f1) < (l1.length : Int)) = true := decide_eq_true c37
               clear c37
               obtain rfl := Option.some.inj H
               go_enter Try.func96, Try.ntmps96
               try go_wp2_with (((with_reducible refine gate_dst (N := 5) rfl ?_); (try (refine gate_guard (by rfl) ?_; dsimp only)); refine box_event ?hg (N := 5) ?hd (cs := #[.int .i64 a0_0, .slice A0_1 l0_1.length c0_1, .slice A0_2 l0_2.length c0_2]) (t := 67) ?hr ?_; (case hd => rfl); (case hg => rfl); (case hr => (go_simp; done)); intro gb311 hg w38 hbox hb; have n0_ := Aside0.mk (below_step (Z.bl HB.out) hb); have n1_ := Aside0.mk (hbox); have n2_ := Aside0.mk ((by rw [hg]; exact (below_size (Z.bl HB.out)) : w.heap.size ≤ gb311)); have n3_ := Aside0.mk ((by rw [hg]; exact (below_size (Z.bl HB.out)) : w.heap.size ≤ gb311)); clear HB; have HB := n0_; have BK311 := n1_; have GW311 := n2_; have GE311 := n3_; clear n0_ n1_ n2_ n3_; clear hb hbox hg; have hcz39_0 : w38.cell? ⟨gb311, 0, none⟩ = some (.int .i64 a0_0) := (blk_cell BK311.out 0).trans rfl; have hcz39_1 : w38.cell? ⟨gb311, 1, none⟩ = some (.slice A0_1 l0_1.length c0_1) := (blk_cell BK311.out 1).trans rfl; have hcz39_2 : w38.cell? ⟨gb311, 2, none⟩ = some (.slice A0_2 l0_2.length c0_2) := (blk_cell BK311.out 2).trans rfl; have hfz39_0 := blk_frozen BK311.out 0; have hfz39_1 := blk_frozen BK311.out 1; have hfz39_2 := blk_frozen BK311.out 2; have p312 : 0 ≤ (a2 : Int) := Z.od; have q312 : a2 < (l0_2.length : Int) := Z.od; obtain ⟨ad312, A312_0, c312_0, e312, hx312_0, hl312_0, hi312_0⟩ := at_L8 HR0_2.out a2 p312 q312; cases e312; replace hx312_0 := Z.up HB.out hx312_0; have HR312_0 := Aside0.mk hi312_0; have HC312_0 := Aside0.mk hl312_0; clear hi312_0 hl312_0; replace p312 := eq_true p312; replace q312 := eq_true q312; have p313 : 0 ≤ (a2 : Int) := Z.od; have q313 : a2 < (l1.length : Int) := Z.od; obtain ⟨ad313, e313, hx313_0⟩ := Kd.at_int HR1.out a2 p313 q313; cases e313; replace hx313_0 := Z.up HB.out hx313_0; replace p313 := eq_true p313; replace q313 := eq_true q313))
               have n0_ := Aside0.mk (blk_drew BK311.out)
               have n1_ := Aside0.mk (below_drew1 HB.out)
               clear BK311
               clear HB
               have BK311 := n0_
               have HB := n1_
               clear n0_ n1_
               have p314 : 0 ≤ (a2 : Int) := Z.od
               have q314 : a2 < (l0_2.length : Int) := Z.od
               obtain ⟨ad314, A314_0, c314_0, e314, hx314_0, hl314_0, hi314_0⟩ := at_L8 HR0_2.out a2 p314 q314
               have hw314_0 := hx314_0
               obtain rfl : ad312 = ad314 := (by injection e314)
               replace hx314_0 := Z.up HB.out hx314_0
               have HR314_0 := Aside0.mk hi314_0
               have HC314_0 := Aside0.mk hl314_0
               clear hi314_0 hl314_0
               replace p314 := eq_true p314
               replace q314 := eq_true q314
               have p315 : 0 ≤ (a2 : Int) := Z.od
               have q315 : a2 < (l1.length : Int) := Z.od
               obtain ⟨ad315, e315, hx315_0⟩ := Kd.at_int HR1.out a2 p315 q315
               have hw315_0 := hx315_0
               obtain rfl : ad313 = ad315 := (by injection e315)
               replace hx315_0 := Z.up HB.out hx315_0
               replace p315 := eq_true p315
               replace q315 := eq_true q315
               have p316 : 0 ≤ ((rd l1 a2) : Int) := Z.od
               have q316 : (rd l1 a2) < ((rd_L8 l0_2 a2).length : Int) := Z.od
               obtain ⟨ad316, A316_0, c316_0, e316, hx316_0, hx316_1, hx316_2, hl316_0, hi316_0⟩ := at_T124 HR314_0.out (rd l1 a2) p316 q316
               have hw316_2 := hx316_2
               have hw316_1 := hx316_1
               have hw316_0 := hx316_0
               cases e316
               replace hx316_0 := Z.up HB.out hx316_0
               replace hx316_1 := Z.up HB.out hx316_1
               replace hx316_2 := Z.up HB.out hx316_2
               have HR316_0 := Aside0.mk hi316_0
               have HC316_0 := Aside0.mk hl316_0
               clear hi316_0 hl316_0
               replace p316 := eq_true p316
               replace q316 := eq_true q316
               refine start_ (n := 13) (S := fun w' => w'.cell? ⟨gb311, 0, none⟩ = some (.int .i64 a0_0) ∧ w'.cell? ⟨gb311, 1, none⟩ = some (.slice A0_1 l0_1.length c0_1) ∧ w'.cell? ⟨gb311, 2, none⟩ = some (.slice (some ad312) l0_2.length c0_2) ∧ w'.cell? (ad312.add (a2).toNat) = some (.slice (some ad316) (rd_L8 l0_2 a2).length c314_0) ∧ w'.cell? (ad313.add (a2).toNat) = some (.int .i64 (rd l1 a2)) ∧ w'.cell? (ad316.add (((rd l1 a2)).toNat * 3)) = some (.slice A316_0 ((rd_T124 (rd_L8 l0_2 a2) (rd l1 a2)).f0).length c316_0) ∧ w'.cell? ⟨(ad316.add (((rd l1 a2)).toNat * 3)).block, (ad316.add (((rd l1 a2)).toNat * 3)).off + 1, none⟩ = some (.int .i64 ((rd_T124 (rd_L8 l0_2 a2) (rd l1 a2)).f1)) ∧ w'.cell? ⟨(ad316.add (((rd l1 a2)).toNat * 3)).block, (ad316.add (((rd l1 a2)).toNat * 3)).off + 2, none⟩ = some (.int .i64 ((rd_T124 (rd_L8 l0_2 a2) (rd l1 a2)).f2))) (ds := []) #[false, false, false, false, false, false, false, false, false, false, false, false, false] (by kernel_rfl) rfl rfl ⟨(blk_cell BK311.out 0).trans rfl, (blk_cell BK311.out 1).trans rfl, (blk_cell BK311.out 2).trans rfl, ((HB.out.cell (World.block_lt_of_cell? w _ hw314_0)).trans hw314_0), ((HB.out.cell (World.block_lt_of_cell? w _ hw315_0)).trans hw315_0), ((HB.out.cell (World.block_lt_of_cell? w _ hw316_0)).trans hw316_0), ((HB.out.cell (World.block_lt_of_cell? w _ hw316_1)).trans hw316_1), ((HB.out.cell (World.block_lt_of_cell? w _ hw316_2)).trans hw316_2)⟩ (fun hHeld => ?_); refine with_tabW impl_mayChange.tab3 impl_mayChange.bits3 (fun HT_ HW_ => ?_)
               generalize w38.drew = w40 at BK311 HB HR314_0 HR316_0 hx314_0 hx315_0 hx316_0 hx316_1 hx316_2 hHeld ⊢
               refine Z.pv 0 42 13 1 HT_.out ?_
               refine Z.pv 2 44 13 5 HT_.out ?_
               refine Z.pv 5 47 13 37 HT_.out ?_
               refine Z.pv 6 48 13 101 HT_.out ?_
               refine Z.pv 7 49 13 229 HT_.out ?_
               refine Z.t8 1 43 13 231 HT_.out HW_.out hHeld ?_
               refine Z.pv 3 45 13 239 HT_.out ?_
               refine Z.t8 4 46 13 255 HT_.out HW_.out hHeld ?_
               refine Z.t8 8 50 13 511 HT_.out HW_.out hHeld ?_
               refine Z.pv 9 51 13 1023 HT_.out ?_
               refine Z.t8 10 52 13 2047 HT_.out HW_.out hHeld ?_
               refine one_ (i := 11) (N := some 11) (Z.mb 13 4095) rfl rfl (one_of HT_.out (by kernel_rfl)) (by decide) (fun K hK => ?_)
               refine box_step ?hg (N := 11) ?hd (cs := #[.slice none 0 0, .int .i64 0, .int .i64 0]) (t := 124) ?hr ?_; (case hd => rfl); (case hg => rfl); (case hr => (go_simp; done))
               intro gb317 hg w41 hbox hb
               have n0_ := Aside0.mk (blk_below (g := gb311) (o := .cells #[.int .i64 a0_0, .slice A0_1 l0_1.length c0_1, .slice (some ad312) l0_2.length c0_2] 67 (0, 0)) (Z.bk BK311.out) hb)
               have n1_ := Aside0.mk (below_step (Z.bs HB.out GE311.out) hb)
               have n2_ := Aside0.mk (hbox)
               have n3_ := Aside0.mk ((by rw [hg]; exact (below_size (Z.bs HB.out GE311.out)) : w.heap.size ≤ gb317))
               have n4_ := Aside0.mk ((by rw [hg]; exact (below_size (Z.bs HB.out GE311.out)) : w.heap.size ≤ gb317))
               have n5_ := Aside0.mk ((by rw [hg]; exact Nat.ne_of_lt (blk_lt (g := gb311) (o := .cells #[.int .i64 a0_0, .slice A0_1 l0_1.length c0_1, .slice (some ad312) l0_2.length c0_2] 67 (0, 0)) (Z.bk BK311.out)) : gb311 ≠ gb317))
               have n6_ := Aside0.mk ((by rw [hg]; exact Nat.ne_of_gt (blk_lt (g := gb311) (o := .cells #[.int .i64 a0_0, .slice A0_1 l0_1.length c0_1, .slice (some ad312) l0_2.length c0_2] 67 (0, 0)) (Z.bk BK311.out)) : gb317 ≠ gb311))
               clear BK311
               clear HB
               have BK311 := n0_
               have HB := n1_
               have BK317 := n2_
               have GW317 := n3_
               have GE317 := n4_
               have NB311_317 := n5_
               have NB317_311 := n6_
               clear n0_ n1_ n2_ n3_ n4_ n5_ n6_
               clear hb hbox hg
               refine hK.out _ _ ⟨(blk_cell BK311.out 0).trans rfl, (blk_cell BK311.out 1).trans rfl, (blk_cell BK311.out 2).trans rfl, ((HB.out.cell (World.block_lt_of_cell? w _ hw314_0)).trans hw314_0), ((HB.out.cell (World.block_lt_of_cell? w _ hw315_0)).trans hw315_0), ((HB.out.cell (World.block_lt_of_cell? w _ hw316_0)).trans hw316_0), ((HB.out.cell (World.block_lt_of_cell? w _ hw316_1)).trans hw316_1), ((HB.out.cell (World.block_lt_of_cell? w _ hw316_2)).trans hw316_2)⟩ (fun hHeld => ?_)
               clear hK K
               refine Z.nm ?_
               refine one_ (i := 12) (N := none) #[true, true, true, true, true, true, true, true, true, true, true, true, true] rfl rfl (one_of HT_.out (by kernel_rfl)) (by decide) (fun K hK => ?_)
               have hs42 : w41.cell? ⟨gb317, 0, none⟩ = some (.slice none 0 0) := (blk_cell BK317.out 0).trans rfl
               have hfs42 := blk_frozen BK317.out 0
               have hns42_0 := NB311_317.out
               have hms42_0 := NB317_311.out
               have hs43 : w41.cell? ⟨gb317, 1, none⟩ = some (.int .i64 0) := (blk_cell BK317.out 1).trans rfl
               have hfs43 := blk_frozen BK317.out 1
               have hns43_0 := NB311_317.out
               have hms43_0 := NB317_311.out
               have hs44 : w41.cell? ⟨gb317, 2, none⟩ = some (.int .i64 0) := (blk_cell BK317.out 2).trans rfl
               have hfs44 := blk_frozen BK317.out 2
               have hns44_0 := NB311_317.out
               have hms44_0 := NB317_311.out
               refine skip_ (w1 := ?_) (by rfl) rfl ?_ ?_
               rotate_left
               ·go_simp
                rfl
               refine hK.out _ _ ⟨((cell_far (p := ⟨gb317, _, none⟩) NB311_317.out _).trans (((cell_far (p := ⟨gb317, _, none⟩) NB311_317.out _).trans (((cell_far (p := ⟨gb317, _, none⟩) NB311_317.out _).trans (hHeld.1)))))), ((cell_far (p := ⟨gb317, _, none⟩) NB311_317.out _).trans (((cell_far (p := ⟨gb317, _, none⟩) NB311_317.out _).trans (((cell_far (p := ⟨gb317, _, none⟩) NB311_317.out _).trans (hHeld.2.1)))))), ((cell_far (p := ⟨gb317, _, none⟩) NB311_317.out _).trans (((cell_far (p := ⟨gb317, _, none⟩) NB311_317.out _).trans (((cell_far (p := ⟨gb317, _, none⟩) NB311_317.out _).trans (hHeld.2.2.1)))))), ((cell_far (p := ⟨gb317, _, none⟩) (by exact Nat.ne_of_lt (Nat.lt_of_lt_of_le (by have := World.block_lt_of_cell? _ _ hw314_0; exact this) GW317.out)) _).trans (((cell_far (p := ⟨gb317, _, none⟩) (by exact Nat.ne_of_lt (Nat.lt_of_lt_of_le (by have := World.block_lt_of_cell? _ _ hw314_0; exact this) GW317.out)) _).trans (((cell_far (p := ⟨gb317, _, none⟩) (by exact Nat.ne_of_lt (Nat.lt_of_lt_of_le (by have := World.block_lt_of_cell? _ _ hw314_0; exact this) GW317.out)) _).trans (hHeld.2.2.2.1)))))), ((cell_far (p := ⟨gb317, _, none⟩) (by exact Nat.ne_of_lt (Nat.lt_of_lt_of_le (by have := World.block_lt_of_cell? _ _ hw315_0; exact this) GW317.out)) _).trans (((cell_far (p := ⟨gb317, _, none⟩) (by exact Nat.ne_of_lt (Nat.lt_of_lt_of_le (by have := World.block_lt_of_cell? _ _ hw315_0; exact this) GW317.out)) _).trans (((cell_far (p := ⟨gb317, _, none⟩) (by exact Nat.ne_of_lt (Nat.lt_of_lt_of_le (by have := World.block_lt_of_cell? _ _ hw315_0; exact this) GW317.out)) _).trans (hHeld.2.2.2.2.1)))))), ((cell_far (p := ⟨gb317, _, none⟩) (by exact Nat.ne_of_lt (Nat.lt_of_lt_of_le (by have := World.block_lt_of_cell? _ _ hw316_0; exact this) GW317.out)) _).trans (((cell_far (p := ⟨gb317, _, none⟩) (by exact Nat.ne_of_lt (Nat.lt_of_lt_of_le (by have := World.block_lt_of_cell? _ _ hw316_0; exact this) GW317.out)) _).trans (((cell_far (p := ⟨gb317, _, none⟩) (by exact Nat.ne_of_lt (Nat.lt_of_lt_of_le (by have := World.block_lt_of_cell? _ _ hw316_0; exact this) GW317.out)) _).trans (hHeld.2.2.2.2.2.1)))))), ((cell_far (p := ⟨gb317, _, none⟩) (by exact Nat.ne_of_lt (Nat.lt_of_lt_of_le (by have := World.block_lt_of_cell? _ _ hw316_1; exact this) GW317.out)) _).trans (((cell_far (p := ⟨gb317, _, none⟩) (by exact Nat.ne_of_lt (Nat.lt_of_lt_of_le (by have := World.block_lt_of_cell? _ _ hw316_1; exact this) GW317.out)) _).trans (((cell_far (p := ⟨gb317, _, none⟩) (by exact Nat.ne_of_lt (Nat.lt_of_lt_of_le (by have := World.block_lt_of_cell? _ _ hw316_1; exact this) GW317.out)) _).trans (hHeld.2.2.2.2.2.2.1)))))), ((cell_far (p := ⟨gb317, _, none⟩) (by exact Nat.ne_of_lt (Nat.lt_of_lt_of_le (by have := World.block_lt_of_cell? _ _ hw316_2; exact this) GW317.out)) _).trans (((cell_far (p := ⟨gb317, _, none⟩) (by exact Nat.ne_of_lt (Nat.lt_of_lt_of_le (by have := World.block_lt_of_cell? _ _ hw316_2; exact this) GW317.out)) _).trans (((cell_far (p := ⟨gb317, _, none⟩) (by exact Nat.ne_of_lt (Nat.lt_of_lt_of_le (by have := World.block_lt_of_cell? _ _ hw316_2; exact this) GW317.out)) _).trans (hHeld.2.2.2.2.2.2.2))))))⟩ (fun hHeld => ?_)
               clear hK K
               refine done_ (done_of HT_.out (by kernel_rfl)) ?_
               try go_wp2
               have n0_ : Aside0 ((((w41.setCell ⟨gb317, 0, none⟩ (.slice A316_0 ((rd_T124 (rd_L8 l0_2 a2) (rd l1 a2)).f0).length c316_0)).setCell ⟨gb317, 1, none⟩ (.int .i64 ((rd_T124 (rd_L8 l0_2 a2) (rd l1 a2)).f1))).setCell ⟨gb317, 2, none⟩ (.int .i64 ((rd_T124 (rd_L8 l0_2 a2) (rd l1 a2)).f2))).heap[gb311]? = some (.cells #[.int .i64 a0_0, .slice A0_1 l0_1.length c0_1, .slice (some ad312) l0_2.length c0_2] 67 (0, 0))) := ⟨by (with_reducible skip); refine blk_far ?_ NB311_317.out _; (with_reducible skip); refine blk_far ?_ NB311_317.out _; (with_reducible skip); refine blk_far ?_ NB311_317.out _; (with_reducible skip); exact BK311.out⟩
               have n1_ : Aside0 ((((w41.setCell ⟨gb317, 0, none⟩ (.slice A316_0 ((rd_T124 (rd_L8 l0_2 a2) (rd l1 a2)).f0).length c316_0)).setCell ⟨gb317, 1, none⟩ (.int .i64 ((rd_T124 (rd_L8 l0_2 a2) (rd l1 a2)).f1))).setCell ⟨gb317, 2, none⟩ (.int .i64 ((rd_T124 (rd_L8 l0_2 a2) (rd l1 a2)).f2))).heap[gb317]? = some (.cells #[.slice A316_0 ((rd_T124 (rd_L8 l0_2 a2) (rd l1 a2)).f0).length c316_0, .int .i64 ((rd_T124 (rd_L8 l0_2 a2) (rd l1 a2)).f1), .int .i64 ((rd_T124 (rd_L8 l0_2 a2) (rd l1 a2)).f2)] 124 (0, 0))) := ⟨by (with_reducible skip); refine blk_put (cs := #[.slice A316_0 ((rd_T124 (rd_L8 l0_2 a2) (rd l1 a2)).f0).length c316_0, .int .i64 ((rd_T124 (rd_L8 l0_2 a2) (rd l1 a2)).f1), .int .i64 0]) ?_ 2 _ rfl; (with_reducible skip); refine blk_put (cs := #[.slice A316_0 ((rd_T124 (rd_L8 l0_2 a2) (rd l1 a2)).f0).length c316_0, .int .i64 0, .int .i64 0]) ?_ 1 _ rfl; (with_reducible skip); refine blk_put (cs := #[.slice none 0 0, .int .i64 0, .int .i64 0]) ?_ 0 _ rfl; (with_reducible skip); exact BK317.out⟩
               have n2_ : Aside0 (Below w.heap.size w (((w41.setCell ⟨gb317, 0, none⟩ (.slice A316_0 ((rd_T124 (rd_L8 l0_2 a2) (rd l1 a2)).f0).length c316_0)).setCell ⟨gb317, 1, none⟩ (.int .i64 ((rd_T124 (rd_L8 l0_2 a2) (rd l1 a2)).f1))).setCell ⟨gb317, 2, none⟩ (.int .i64 ((rd_T124 (rd_L8 l0_2 a2) (rd l1 a2)).f2)))) := ⟨by repeat ((with_reducible first | exact HB.out | refine below_set ?_ GE317.out))⟩
               (try clear BK311)
               (try clear BK317)
               (try clear HB)
               generalize (((w41.setCell ⟨gb317, 0, none⟩ (.slice A316_0 ((rd_T124 (rd_L8 l0_2 a2) (rd l1 a2)).f0).length c316_0)).setCell ⟨gb317, 1, none⟩ (.int .i64 ((rd_T124 (rd_L8 l0_2 a2) (rd l1 a2)).f1))).setCell ⟨gb317, 2, none⟩ (.int .i64 ((rd_T124 (rd_L8 l0_2 a2) (rd l1 a2)).f2))) = w45 at n0_ n1_ n2_ ⊢
               have BK311 := n0_
               have BK317 := n1_
               have HB := n2_
               clear n0_ n1_ n2_
               have n0_ := Aside0.mk (blk_drew BK311.out)
               have n1_ := Aside0.mk (blk_drew BK317.out)
               have n2_ := Aside0.mk (below_drew1 HB.out)
               clear BK311
               clear BK317
               clear HB
               have BK311 := n0_
               have BK317 := n1_
               have HB := n2_
               clear n0_ n1_ n2_
               have p319 : 0 ≤ (((rd_T124 (rd_L8 l0_2 a2) (rd l1 a2)).f1) : Int) := Z.od
               have q319 : ((rd_T124 (rd_L8 l0_2 a2) (rd l1 a2)).f1) < (l1.length : Int) := Z.od
               obtain ⟨ad319, e319, hx319_0⟩ := Kd.at_int HR1.out ((rd_T124 (rd_L8 l0_2 a2) (rd l1 a2)).f1) p319 q319
               have hw319_0 := hx319_0
               obtain rfl : ad313 = ad319 := (by injection e319)
               replace hx319_0 := Z.up HB.out hx319_0
               replace p319 := eq_true p319
               replace q319 := eq_true q319
               refine start_ (n := 22) (S := fun w' => w'.cell? ⟨gb311, 0, none⟩ = some (.int .i64 a0_0) ∧ w'.cell? ⟨gb311, 1, none⟩ = some (.slice A0_1 l0_1.length c0_1) ∧ w'.cell? ⟨gb311, 2, none⟩ = some (.slice (some ad312) l0_2.length c0_2) ∧ w'.cell? ⟨gb317, 0, none⟩ = some (.slice A316_0 ((rd_T124 (rd_L8 l0_2 a2) (rd l1 a2)).f0).length c316_0) ∧ w'.cell? ⟨gb317, 1, none⟩ = some (.int .i64 ((rd_T124 (rd_L8 l0_2 a2) (rd l1 a2)).f1)) ∧ w'.cell? ⟨gb317, 2, none⟩ = some (.int .i64 ((rd_T124 (rd_L8 l0_2 a2) (rd l1 a2)).f2)) ∧ w'.cell? (ad313.add (((rd_T124 (rd_L8 l0_2 a2) (rd l1 a2)).f1)).toNat) = some (.int .i64 (rd l1 ((rd_T124 (rd_L8 l0_2 a2) (rd l1 a2)).f1)))) (ds := []) #[false, false, false, false, false, false, false, false, false, false, false, false, false, false, false, false, false, false, false, false, false, false] (by kernel_rfl) rfl rfl ⟨(blk_cell BK311.out 0).trans rfl, (blk_cell BK311.out 1).trans rfl, (blk_cell BK311.out 2).trans rfl, (blk_cell BK317.out 0).trans rfl, (blk_cell BK317.out 1).trans rfl, (blk_cell BK317.out 2).trans rfl, ((HB.out.cell (World.block_lt_of_cell? w _ hw319_0)).trans hw319_0)⟩ (fun hHeld => ?_); refine with_tabW impl_mayChange.tab4 impl_mayChange.bits4 (fun HT_ HW_ => ?_)
               generalize w45.drew = w46 at BK311 BK317 HB hx319_0 hHeld ⊢
               refine Z.pv 0 53 22 1 HT_.out ?_
               refine Z.pv 2 55 22 5 HT_.out ?_
               refine Z.pv 4 57 22 21 HT_.out ?_
               refine Z.t7 1 54 22 23 HT_.out HW_.out hHeld ?_
               refine Z.t7 3 56 22 31 HT_.out HW_.out hHeld ?_
               refine one_ (i := 5) (N := some 58) (Z.mb 22 63) rfl rfl (one_of HT_.out (by kernel_rfl)) (by decide) (fun K hK => ?_)
               refine goes_ Try.func81 (by kernel_rfl) rfl #[.agg #[.int .i64 a0_0, .slice A0_1 l0_1.length c0_1], .slice A316_0 ((rd_T124 (rd_L8 l0_2 a2) (rd l1 a2)).f0).length c316_0, .int .i64 a4] (by rfl) rfl rfl Z.ar ?_
               with_reducible refine (impl_consents.calls k a0_0 _ _ l0_1 _ _ ((rd_T124 (rd_L8 l0_2 a2) (rd l1 a2)).f0) a4 true _ ?side1 ?side2 ?side3 ?side4 A23.out).mono ?_
               (case side1 => exact Z.cb (Kd.C_below HR0_1.out HB.out))
               (case side2 => exact HC0_1.out)
               (case side3 => exact Z.cb (Kd.C_below HR316_0.out HB.out))
               (case side4 => exact HC316_0.out)
               rintro e w47 ⟨rfl, hb⟩
               refine ⟨_, rfl, ?_⟩
               have n0_ := Aside0.mk (blk_below (g := gb311) (o := .cells #[.int .i64 a0_0, .slice A0_1 l0_1.length c0_1, .slice (some ad312) l0_2.length c0_2] 67 (0, 0)) (Z.bk BK311.out) hb)
               have n1_ := Aside0.mk (blk_below (g := gb317) (o := .cells #[.slice A316_0 ((rd_T124 (rd_L8 l0_2 a2) (rd l1 a2)).f0).length c316_0, .int .i64 ((rd_T124 (rd_L8 l0_2 a2) (rd l1 a2)).f1), .int .i64 ((rd_T124 (rd_L8 l0_2 a2) (rd l1 a2)).f2)] 124 (0, 0)) (Z.bk BK317.out) hb)
               have n2_ := Aside0.mk (below_step (by repeat ((with_reducible exact HB.out))) hb)
               clear BK311
               clear BK317
               clear HB
               have BK311 := n0_
               have BK317 := n1_
               have HB := n2_
               clear n0_ n1_ n2_
               (try clear hb)
               refine hK.out _ _ ⟨(blk_cell BK311.out 0).trans rfl, (blk_cell BK311.out 1).trans rfl, (blk_cell BK311.out 2).trans rfl, (blk_cell BK317.out 0).trans rfl, (blk_cell BK317.out 1).trans rfl, (blk_cell BK317.out 2).trans rfl, ((HB.out.cell (World.block_lt_of_cell? w _ hw319_0)).trans hw319_0)⟩ (fun hHeld => ?_)
               clear hK K
               refine Z.nm ?_
               refine Z.pv 6 59 22 127 HT_.out ?_
               refine Z.pv 7 60 22 255 HT_.out ?_
               refine Z.t7 8 61 22 511 HT_.out HW_.out hHeld ?_
               refine Z.pv 9 62 22 1023 HT_.out ?_
               refine Z.pv 10 63 22 2047 HT_.out ?_
               refine Z.pv 11 64 22 4095 HT_.out ?_
               refine Z.pv 12 65 22 8191 HT_.out ?_
               refine Z.pv 16 69 22 73727 HT_.out ?_
               refine Z.t7 13 66 22 81919 HT_.out HW_.out hHeld ?_
               refine Z.pv 14 67 22 98303 HT_.out ?_
               refine Z.t7 15 68 22 131071 HT_.out HW_.out hHeld ?_
               refine Z.t7 17 70 22 262143 HT_.out HW_.out hHeld ?_
               refine Z.pv 18 71 22 524287 HT_.out ?_
               refine Z.pv 19 72 22 1048575 HT_.out ?_
               refine Z.pv 20 73 22 2097151 HT_.out ?_
               refine Z.pv 21 10 22 4194303 HT_.out ?_
               refine done_ (done_of HT_.out (by kernel_rfl)) ?_
               try go_wp2
               go_ret
               exact ⟨by rfl, by repeat ((with_reducible exact HB.out))⟩
              ·rw [if_neg c37] at H
               exact absurd H (by simp)
             ·rw [if_neg c36] at H
              exact absurd H (by simp)
           ·replace c24 := Bool.eq_false_iff.mpr c24
            subst c24
            have H1 : (some false) = some r := by rw [if_neg (show ¬ (false = true) by decide)] at H; exact H
            clear H
            have H := H1
            clear H1
            obtain rfl := Option.some.inj H
            go_enter Try.func96, Try.ntmps96
            try go_wp2_with (((with_reducible refine gate_dst (N := 5) rfl ?_); (try (refine gate_guard (by rfl) ?_; dsimp only)); refine box_event ?hg (N := 5) ?hd (cs := #[.int .i64 a0_0, .slice A0_1 l0_1.length c0_1, .slice A0_2 l0_2.length c0_2]) (t := 67) ?hr ?_; (case hd => rfl); (case hg => rfl); (case hr => (go_simp; done)); intro gb311 hg w48 hbox hb; have n0_ := Aside0.mk (below_step (Z.bl HB.out) hb); have n1_ := Aside0.mk (hbox); have n2_ := Aside0.mk ((by rw [hg]; exact (below_size (Z.bl HB.out)) : w.heap.size ≤ gb311)); have n3_ := Aside0.mk ((by rw [hg]; exact (below_size (Z.bl HB.out)) : w.heap.size ≤ gb311)); clear HB; have HB := n0_; have BK311 := n1_; have GW311 := n2_; have GE311 := n3_; clear n0_ n1_ n2_ n3_; clear hb hbox hg; have hcz49_0 : w48.cell? ⟨gb311, 0, none⟩ = some (.int .i64 a0_0) := (blk_cell BK311.out 0).trans rfl; have hcz49_1 : w48.cell? ⟨gb311, 1, none⟩ = some (.slice A0_1 l0_1.length c0_1) := (blk_cell BK311.out 1).trans rfl; have hcz49_2 : w48.cell? ⟨gb311, 2, none⟩ = some (.slice A0_2 l0_2.length c0_2) := (blk_cell BK311.out 2).trans rfl; have hfz49_0 := blk_frozen BK311.out 0; have hfz49_1 := blk_frozen BK311.out 1; have hfz49_2 := blk_frozen BK311.out 2; have p312 : 0 ≤ (a2 : Int) := Z.od; have q312 : a2 < (l0_2.length : Int) := Z.od; obtain ⟨ad312, A312_0, c312_0, e312, hx312_0, hl312_0, hi312_0⟩ := at_L8 HR0_2.out a2 p312 q312; cases e312; replace hx312_0 := Z.up HB.out hx312_0; have HR312_0 := Aside0.mk hi312_0; have HC312_0 := Aside0.mk hl312_0; clear hi312_0 hl312_0; replace p312 := eq_true p312; replace q312 := eq_true q312; have p313 : 0 ≤ (a2 : Int) := Z.od; have q313 : a2 < (l1.length : Int) := Z.od; obtain ⟨ad313, e313, hx313_0⟩ := Kd.at_int HR1.out a2 p313 q313; cases e313; replace hx313_0 := Z.up HB.out hx313_0; replace p313 := eq_true p313; replace q313 := eq_true q313))
            have n0_ := Aside0.mk (blk_drew BK311.out)
            have n1_ := Aside0.mk (below_drew1 HB.out)
            clear BK311
            clear HB
            have BK311 := n0_
            have HB := n1_
            clear n0_ n1_
            have p314 : 0 ≤ (a2 : Int) := Z.od
            have q314 : a2 < (l0_2.length : Int) := Z.od
            obtain ⟨ad314, A314_0, c314_0, e314, hx314_0, hl314_0, hi314_0⟩ := at_L8 HR0_2.out a2 p314 q314
            have hw314_0 := hx314_0
            obtain rfl : ad312 = ad314 := (by injection e314)
            replace hx314_0 := Z.up HB.out hx314_0
            have HR314_0 := Aside0.mk hi314_0
            have HC314_0 := Aside0.mk hl314_0
            clear hi314_0 hl314_0
            replace p314 := eq_true p314
            replace q314 := eq_true q314
            have p315 : 0 ≤ (a2 : Int) := Z.od
            have q315 : a2 < (l1.length : Int) := Z.od
            obtain ⟨ad315, e315, hx315_0⟩ := Kd.at_int HR1.out a2 p315 q315
            have hw315_0 := hx315_0
            obtain rfl : ad313 = ad315 := (by injection e315)
            replace hx315_0 := Z.up HB.out hx315_0
            replace p315 := eq_true p315
            replace q315 := eq_true q315
            have p316 : 0 ≤ ((rd l1 a2) : Int) := Z.od
            have q316 : (rd l1 a2) < ((rd_L8 l0_2 a2).length : Int) := Z.od
            obtain ⟨ad316, A316_0, c316_0, e316, hx316_0, hx316_1, hx316_2, hl316_0, hi316_0⟩ := at_T124 HR314_0.out (rd l1 a2) p316 q316
            have hw316_2 := hx316_2
            have hw316_1 := hx316_1
            have hw316_0 := hx316_0
            cases e316
            replace hx316_0 := Z.up HB.out hx316_0
            replace hx316_1 := Z.up HB.out hx316_1
            replace hx316_2 := Z.up HB.out hx316_2
            have HR316_0 := Aside0.mk hi316_0
            have HC316_0 := Aside0.mk hl316_0
            clear hi316_0 hl316_0
            replace p316 := eq_true p316
            replace q316 := eq_true q316
            refine start_ (n := 13) (S := fun w' => w'.cell? ⟨gb311, 0, none⟩ = some (.int .i64 a0_0) ∧ w'.cell? ⟨gb311, 1, none⟩ = some (.slice A0_1 l0_1.length c0_1) ∧ w'.cell? ⟨gb311, 2, none⟩ = some (.slice (some ad312) l0_2.length c0_2) ∧ w'.cell? (ad312.add (a2).toNat) = some (.slice (some ad316) (rd_L8 l0_2 a2).length c314_0) ∧ w'.cell? (ad313.add (a2).toNat) = some (.int .i64 (rd l1 a2)) ∧ w'.cell? (ad316.add (((rd l1 a2)).toNat * 3)) = some (.slice A316_0 ((rd_T124 (rd_L8 l0_2 a2) (rd l1 a2)).f0).length c316_0) ∧ w'.cell? ⟨(ad316.add (((rd l1 a2)).toNat * 3)).block, (ad316.add (((rd l1 a2)).toNat * 3)).off + 1, none⟩ = some (.int .i64 ((rd_T124 (rd_L8 l0_2 a2) (rd l1 a2)).f1)) ∧ w'.cell? ⟨(ad316.add (((rd l1 a2)).toNat * 3)).block, (ad316.add (((rd l1 a2)).toNat * 3)).off + 2, none⟩ = some (.int .i64 ((rd_T124 (rd_L8 l0_2 a2) (rd l1 a2)).f2))) (ds := []) #[false, false, false, false, false, false, false, false, false, false, false, false, false] (by kernel_rfl) rfl rfl ⟨(blk_cell BK311.out 0).trans rfl, (blk_cell BK311.out 1).trans rfl, (blk_cell BK311.out 2).trans rfl, ((HB.out.cell (World.block_lt_of_cell? w _ hw314_0)).trans hw314_0), ((HB.out.cell (World.block_lt_of_cell? w _ hw315_0)).trans hw315_0), ((HB.out.cell (World.block_lt_of_cell? w _ hw316_0)).trans hw316_0), ((HB.out.cell (World.block_lt_of_cell? w _ hw316_1)).trans hw316_1), ((HB.out.cell (World.block_lt_of_cell? w _ hw316_2)).trans hw316_2)⟩ (fun hHeld => ?_); refine with_tabW impl_mayChange.tab3 impl_mayChange.bits3 (fun HT_ HW_ => ?_)
            generalize w48.drew = w50 at BK311 HB HR314_0 HR316_0 hx314_0 hx315_0 hx316_0 hx316_1 hx316_2 hHeld ⊢
            refine Z.pv 0 42 13 1 HT_.out ?_
            refine Z.pv 2 44 13 5 HT_.out ?_
            refine Z.pv 5 47 13 37 HT_.out ?_
            refine Z.pv 6 48 13 101 HT_.out ?_
            refine Z.pv 7 49 13 229 HT_.out ?_
            refine Z.t8 1 43 13 231 HT_.out HW_.out hHeld ?_
            refine Z.pv 3 45 13 239 HT_.out ?_
            refine Z.t8 4 46 13 255 HT_.out HW_.out hHeld ?_
            refine Z.t8 8 50 13 511 HT_.out HW_.out hHeld ?_
            refine Z.pv 9 51 13 1023 HT_.out ?_
            refine Z.t8 10 52 13 2047 HT_.out HW_.out hHeld ?_
            refine one_ (i := 11) (N := some 11) (Z.mb 13 4095) rfl rfl (one_of HT_.out (by kernel_rfl)) (by decide) (fun K hK => ?_)
            refine box_step ?hg (N := 11) ?hd (cs := #[.slice none 0 0, .int .i64 0, .int .i64 0]) (t := 124) ?hr ?_; (case hd => rfl); (case hg => rfl); (case hr => (go_simp; done))
            intro gb317 hg w51 hbox hb
            have n0_ := Aside0.mk (blk_below (g := gb311) (o := .cells #[.int .i64 a0_0, .slice A0_1 l0_1.length c0_1, .slice (some ad312) l0_2.length c0_2] 67 (0, 0)) (Z.bk BK311.out) hb)
            have n1_ := Aside0.mk (below_step (Z.bs HB.out GE311.out) hb)
            have n2_ := Aside0.mk (hbox)
            have n3_ := Aside0.mk ((by rw [hg]; exact (below_size (Z.bs HB.out GE311.out)) : w.heap.size ≤ gb317))
            have n4_ := Aside0.mk ((by rw [hg]; exact (below_size (Z.bs HB.out GE311.out)) : w.heap.size ≤ gb317))
            have n5_ := Aside0.mk ((by rw [hg]; exact Nat.ne_of_lt (blk_lt (g := gb311) (o := .cells #[.int .i64 a0_0, .slice A0_1 l0_1.length c0_1, .slice (some ad312) l0_2.length c0_2] 67 (0, 0)) (Z.bk BK311.out)) : gb311 ≠ gb317))
            have n6_ := Aside0.mk ((by rw [hg]; exact Nat.ne_of_gt (blk_lt (g := gb311) (o := .cells #[.int .i64 a0_0, .slice A0_1 l0_1.length c0_1, .slice (some ad312) l0_2.length c0_2] 67 (0, 0)) (Z.bk BK311.out)) : gb317 ≠ gb311))
            clear BK311
            clear HB
            have BK311 := n0_
            have HB := n1_
            have BK317 := n2_
            have GW317 := n3_
            have GE317 := n4_
            have NB311_317 := n5_
            have NB317_311 := n6_
            clear n0_ n1_ n2_ n3_ n4_ n5_ n6_
            clear hb hbox hg
            refine hK.out _ _ ⟨(blk_cell BK311.out 0).trans rfl, (blk_cell BK311.out 1).trans rfl, (blk_cell BK311.out 2).trans rfl, ((HB.out.cell (World.block_lt_of_cell? w _ hw314_0)).trans hw314_0), ((HB.out.cell (World.block_lt_of_cell? w _ hw315_0)).trans hw315_0), ((HB.out.cell (World.block_lt_of_cell? w _ hw316_0)).trans hw316_0), ((HB.out.cell (World.block_lt_of_cell? w _ hw316_1)).trans hw316_1), ((HB.out.cell (World.block_lt_of_cell? w _ hw316_2)).trans hw316_2)⟩ (fun hHeld => ?_)
            clear hK K
            refine Z.nm ?_
            refine one_ (i := 12) (N := none) #[true, true, true, true, true, true, true, true, true, true, true, true, true] rfl rfl (one_of HT_.out (by kernel_rfl)) (by decide) (fun K hK => ?_)
            have hs52 : w51.cell? ⟨gb317, 0, none⟩ = some (.slice none 0 0) := (blk_cell BK317.out 0).trans rfl
            have hfs52 := blk_frozen BK317.out 0
            have hns52_0 := NB311_317.out
            have hms52_0 := NB317_311.out
            have hs53 : w51.cell? ⟨gb317, 1, none⟩ = some (.int .i64 0) := (blk_cell BK317.out 1).trans rfl
            have hfs53 := blk_frozen BK317.out 1
            have hns53_0 := NB311_317.out
            have hms53_0 := NB317_311.out
            have hs54 : w51.cell? ⟨gb317, 2, none⟩ = some (.int .i64 0) := (blk_cell BK317.out 2).trans rfl
            have hfs54 := blk_frozen BK317.out 2
            have hns54_0 := NB311_317.out
            have hms54_0 := NB317_311.out
            refine skip_ (w1 := ?_) (by rfl) rfl ?_ ?_
            rotate_left
            ·go_simp
             rfl
            refine hK.out _ _ ⟨((cell_far (p := ⟨gb317, _, none⟩) NB311_317.out _).trans (((cell_far (p := ⟨gb317, _, none⟩) NB311_317.out _).trans (((cell_far (p := ⟨gb317, _, none⟩) NB311_317.out _).trans (hHeld.1)))))), ((cell_far (p := ⟨gb317, _, none⟩) NB311_317.out _).trans (((cell_far (p := ⟨gb317, _, none⟩) NB311_317.out _).trans (((cell_far (p := ⟨gb317, _, none⟩) NB311_317.out _).trans (hHeld.2.1)))))), ((cell_far (p := ⟨gb317, _, none⟩) NB311_317.out _).trans (((cell_far (p := ⟨gb317, _, none⟩) NB311_317.out _).trans (((cell_far (p := ⟨gb317, _, none⟩) NB311_317.out _).trans (hHeld.2.2.1)))))), ((cell_far (p := ⟨gb317, _, none⟩) (by exact Nat.ne_of_lt (Nat.lt_of_lt_of_le (by have := World.block_lt_of_cell? _ _ hw314_0; exact this) GW317.out)) _).trans (((cell_far (p := ⟨gb317, _, none⟩) (by exact Nat.ne_of_lt (Nat.lt_of_lt_of_le (by have := World.block_lt_of_cell? _ _ hw314_0; exact this) GW317.out)) _).trans (((cell_far (p := ⟨gb317, _, none⟩) (by exact Nat.ne_of_lt (Nat.lt_of_lt_of_le (by have := World.block_lt_of_cell? _ _ hw314_0; exact this) GW317.out)) _).trans (hHeld.2.2.2.1)))))), ((cell_far (p := ⟨gb317, _, none⟩) (by exact Nat.ne_of_lt (Nat.lt_of_lt_of_le (by have := World.block_lt_of_cell? _ _ hw315_0; exact this) GW317.out)) _).trans (((cell_far (p := ⟨gb317, _, none⟩) (by exact Nat.ne_of_lt (Nat.lt_of_lt_of_le (by have := World.block_lt_of_cell? _ _ hw315_0; exact this) GW317.out)) _).trans (((cell_far (p := ⟨gb317, _, none⟩) (by exact Nat.ne_of_lt (Nat.lt_of_lt_of_le (by have := World.block_lt_of_cell? _ _ hw315_0; exact this) GW317.out)) _).trans (hHeld.2.2.2.2.1)))))), ((cell_far (p := ⟨gb317, _, none⟩) (by exact Nat.ne_of_lt (Nat.lt_of_lt_of_le (by have := World.block_lt_of_cell? _ _ hw316_0; exact this) GW317.out)) _).trans (((cell_far (p := ⟨gb317, _, none⟩) (by exact Nat.ne_of_lt (Nat.lt_of_lt_of_le (by have := World.block_lt_of_cell? _ _ hw316_0; exact this) GW317.out)) _).trans (((cell_far (p := ⟨gb317, _, none⟩) (by exact Nat.ne_of_lt (Nat.lt_of_lt_of_le (by have := World.block_lt_of_cell? _ _ hw316_0; exact this) GW317.out)) _).trans (hHeld.2.2.2.2.2.1)))))), ((cell_far (p := ⟨gb317, _, none⟩) (by exact Nat.ne_of_lt (Nat.lt_of_lt_of_le (by have := World.block_lt_of_cell? _ _ hw316_1; exact this) GW317.out)) _).trans (((cell_far (p := ⟨gb317, _, none⟩) (by exact Nat.ne_of_lt (Nat.lt_of_lt_of_le (by have := World.block_lt_of_cell? _ _ hw316_1; exact this) GW317.out)) _).trans (((cell_far (p := ⟨gb317, _, none⟩) (by exact Nat.ne_of_lt (Nat.lt_of_lt_of_le (by have := World.block_lt_of_cell? _ _ hw316_1; exact this) GW317.out)) _).trans (hHeld.2.2.2.2.2.2.1)))))), ((cell_far (p := ⟨gb317, _, none⟩) (by exact Nat.ne_of_lt (Nat.lt_of_lt_of_le (by have := World.block_lt_of_cell? _ _ hw316_2; exact this) GW317.out)) _).trans (((cell_far (p := ⟨gb317, _, none⟩) (by exact Nat.ne_of_lt (Nat.lt_of_lt_of_le (by have := World.block_lt_of_cell? _ _ hw316_2; exact this) GW317.out)) _).trans (((cell_far (p := ⟨gb317, _, none⟩) (by exact Nat.ne_of_lt (Nat.lt_of_lt_of_le (by have := World.block_lt_of_cell? _ _ hw316_2; exact this) GW317.out)) _).trans (hHeld.2.2.2.2.2.2.2))))))⟩ (fun hHeld => ?_)
            clear hK K
            refine done_ (done_of HT_.out (by kernel_rfl)) ?_
            try go_wp2
            have n0_ : Aside0 ((((w51.setCell ⟨gb317, 0, none⟩ (.slice A316_0 ((rd_T124 (rd_L8 l0_2 a2) (rd l1 a2)).f0).length c316_0)).setCell ⟨gb317, 1, none⟩ (.int .i64 ((rd_T124 (rd_L8 l0_2 a2) (rd l1 a2)).f1))).setCell ⟨gb317, 2, none⟩ (.int .i64 ((rd_T124 (rd_L8 l0_2 a2) (rd l1 a2)).f2))).heap[gb311]? = some (.cells #[.int .i64 a0_0, .slice A0_1 l0_1.length c0_1, .slice (some ad312) l0_2.length c0_2] 67 (0, 0))) := ⟨by (with_reducible skip); refine blk_far ?_ NB311_317.out _; (with_reducible skip); refine blk_far ?_ NB311_317.out _; (with_reducible skip); refine blk_far ?_ NB311_317.out _; (with_reducible skip); exact BK311.out⟩
            have n1_ : Aside0 ((((w51.setCell ⟨gb317, 0, none⟩ (.slice A316_0 ((rd_T124 (rd_L8 l0_2 a2) (rd l1 a2)).f0).length c316_0)).setCell ⟨gb317, 1, none⟩ (.int .i64 ((rd_T124 (rd_L8 l0_2 a2) (rd l1 a2)).f1))).setCell ⟨gb317, 2, none⟩ (.int .i64 ((rd_T124 (rd_L8 l0_2 a2) (rd l1 a2)).f2))).heap[gb317]? = some (.cells #[.slice A316_0 ((rd_T124 (rd_L8 l0_2 a2) (rd l1 a2)).f0).length c316_0, .int .i64 ((rd_T124 (rd_L8 l0_2 a2) (rd l1 a2)).f1), .int .i64 ((rd_T124 (rd_L8 l0_2 a2) (rd l1 a2)).f2)] 124 (0, 0))) := ⟨by (with_reducible skip); refine blk_put (cs := #[.slice A316_0 ((rd_T124 (rd_L8 l0_2 a2) (rd l1 a2)).f0).length c316_0, .int .i64 ((rd_T124 (rd_L8 l0_2 a2) (rd l1 a2)).f1), .int .i64 0]) ?_ 2 _ rfl; (with_reducible skip); refine blk_put (cs := #[.slice A316_0 ((rd_T124 (rd_L8 l0_2 a2) (rd l1 a2)).f0).length c316_0, .int .i64 0, .int .i64 0]) ?_ 1 _ rfl; (with_reducible skip); refine blk_put (cs := #[.slice none 0 0, .int .i64 0, .int .i64 0]) ?_ 0 _ rfl; (with_reducible skip); exact BK317.out⟩
            have n2_ : Aside0 (Below w.heap.size w (((w51.setCell ⟨gb317, 0, none⟩ (.slice A316_0 ((rd_T124 (rd_L8 l0_2 a2) (rd l1 a2)).f0).length c316_0)).setCell ⟨gb317, 1, none⟩ (.int .i64 ((rd_T124 (rd_L8 l0_2 a2) (rd l1 a2)).f1))).setCell ⟨gb317, 2, none⟩ (.int .i64 ((rd_T124 (rd_L8 l0_2 a2) (rd l1 a2)).f2)))) := ⟨by repeat ((with_reducible first | exact HB.out | refine below_set ?_ GE317.out))⟩
            (try clear BK311)
            (try clear BK317)
            (try clear HB)
            generalize (((w51.setCell ⟨gb317, 0, none⟩ (.slice A316_0 ((rd_T124 (rd_L8 l0_2 a2) (rd l1 a2)).f0).length c316_0)).setCell ⟨gb317, 1, none⟩ (.int .i64 ((rd_T124 (rd_L8 l0_2 a2) (rd l1 a2)).f1))).setCell ⟨gb317, 2, none⟩ (.int .i64 ((rd_T124 (rd_L8 l0_2 a2) (rd l1 a2)).f2))) = w55 at n0_ n1_ n2_ ⊢
            have BK311 := n0_
            have BK317 := n1_
            have HB := n2_
            clear n0_ n1_ n2_
            have n0_ := Aside0.mk (blk_drew BK311.out)
            have n1_ := Aside0.mk (blk_drew BK317.out)
            have n2_ := Aside0.mk (below_drew1 HB.out)
            clear BK311
            clear BK317
            clear HB
            have BK311 := n0_
            have BK317 := n1_
            have HB := n2_
            clear n0_ n1_ n2_
            refine start_ (n := 22) (S := fun w' => w'.cell? ⟨gb311, 0, none⟩ = some (.int .i64 a0_0) ∧ w'.cell? ⟨gb311, 1, none⟩ = some (.slice A0_1 l0_1.length c0_1) ∧ w'.cell? ⟨gb311, 2, none⟩ = some (.slice (some ad312) l0_2.length c0_2) ∧ w'.cell? ⟨gb317, 0, none⟩ = some (.slice A316_0 ((rd_T124 (rd_L8 l0_2 a2) (rd l1 a2)).f0).length c316_0) ∧ w'.cell? ⟨gb317, 1, none⟩ = some (.int .i64 ((rd_T124 (rd_L8 l0_2 a2) (rd l1 a2)).f1)) ∧ w'.cell? ⟨gb317, 2, none⟩ = some (.int .i64 ((rd_T124 (rd_L8 l0_2 a2) (rd l1 a2)).f2))) (ds := []) #[false, false, false, false, false, false, false, false, false, false, false, false, false, false, false, false, false, false, false, false, false, false] (by kernel_rfl) rfl rfl ⟨(blk_cell BK311.out 0).trans rfl, (blk_cell BK311.out 1).trans rfl, (blk_cell BK311.out 2).trans rfl, (blk_cell BK317.out 0).trans rfl, (blk_cell BK317.out 1).trans rfl, (blk_cell BK317.out 2).trans rfl⟩ (fun hHeld => ?_); refine with_tabW impl_mayChange.tab4 impl_mayChange.bits4 (fun HT_ HW_ => ?_)
            generalize w55.drew = w56 at BK311 BK317 HB hHeld ⊢
            refine Z.pv 0 53 22 1 HT_.out ?_
            refine Z.pv 2 55 22 5 HT_.out ?_
            refine Z.pv 4 57 22 21 HT_.out ?_
            refine Z.t6 1 54 22 23 HT_.out HW_.out hHeld ?_
            refine Z.t6 3 56 22 31 HT_.out HW_.out hHeld ?_
            refine one_ (i := 5) (N := some 58) (Z.mb 22 63) rfl rfl (one_of HT_.out (by kernel_rfl)) (by decide) (fun K hK => ?_)
            refine goes_ Try.func81 (by kernel_rfl) rfl #[.agg #[.int .i64 a0_0, .slice A0_1 l0_1.length c0_1], .slice A316_0 ((rd_T124 (rd_L8 l0_2 a2) (rd l1 a2)).f0).length c316_0, .int .i64 a4] (by rfl) rfl rfl Z.ar ?_
            with_reducible refine (impl_consents.calls k a0_0 _ _ l0_1 _ _ ((rd_T124 (rd_L8 l0_2 a2) (rd l1 a2)).f0) a4 false _ ?side1 ?side2 ?side3 ?side4 A23.out).mono ?_
            (case side1 => exact Z.cb (Kd.C_below HR0_1.out HB.out))
            (case side2 => exact HC0_1.out)
            (case side3 => exact Z.cb (Kd.C_below HR316_0.out HB.out))
            (case side4 => exact HC316_0.out)
            rintro e w57 ⟨rfl, hb⟩
            refine ⟨_, rfl, ?_⟩
            have n0_ := Aside0.mk (blk_below (g := gb311) (o := .cells #[.int .i64 a0_0, .slice A0_1 l0_1.length c0_1, .slice (some ad312) l0_2.length c0_2] 67 (0, 0)) (Z.bk BK311.out) hb)
            have n1_ := Aside0.mk (blk_below (g := gb317) (o := .cells #[.slice A316_0 ((rd_T124 (rd_L8 l0_2 a2) (rd l1 a2)).f0).length c316_0, .int .i64 ((rd_T124 (rd_L8 l0_2 a2) (rd l1 a2)).f1), .int .i64 ((rd_T124 (rd_L8 l0_2 a2) (rd l1 a2)).f2)] 124 (0, 0)) (Z.bk BK317.out) hb)
            have n2_ := Aside0.mk (below_step (by repeat ((with_reducible exact HB.out))) hb)
            clear BK311
            clear BK317
            clear HB
            have BK311 := n0_
            have BK317 := n1_
            have HB := n2_
            clear n0_ n1_ n2_
            (try clear hb)
            refine hK.out _ _ ⟨(blk_cell BK311.out 0).trans rfl, (blk_cell BK311.out 1).trans rfl, (blk_cell BK311.out 2).trans rfl, (blk_cell BK317.out 0).trans rfl, (blk_cell BK317.out 1).trans rfl, (blk_cell BK317.out 2).trans rfl⟩ (fun hHeld => ?_)
            clear hK K
            refine Z.nm ?_
            refine Z.pv 6 59 22 127 HT_.out ?_
            refine Z.pu 7 60 22 255 HT_.out ?_
            refine Z.pu 8 61 22 511 HT_.out ?_
            refine Z.pu 9 62 22 1023 HT_.out ?_
            refine Z.pu 10 63 22 2047 HT_.out ?_
            refine Z.pu 11 64 22 4095 HT_.out ?_
            refine Z.pu 12 65 22 8191 HT_.out ?_
            refine Z.pu 13 66 22 16383 HT_.out ?_
            refine Z.pu 14 67 22 32767 HT_.out ?_
            refine Z.pu 15 68 22 65535 HT_.out ?_
            refine Z.pu 16 69 22 131071 HT_.out ?_
            refine Z.pu 17 70 22 262143 HT_.out ?_
            refine Z.pu 18 71 22 524287 HT_.out ?_
            refine Z.pu 19 72 22 1048575 HT_.out ?_
            refine Z.pv 20 73 22 2097151 HT_.out ?_
            refine Z.pv 21 10 22 4194303 HT_.out ?_
            refine done_ (done_of HT_.out (by kernel_rfl)) ?_
            try go_wp2
            go_ret
            exact ⟨by rfl, by repeat ((with_reducible exact HB.out))⟩
          ·rw [if_neg c22] at H
           exact absurd H (by simp)
         ·rw [if_neg c21] at H
          exact absurd H (by simp)
       ·rw [if_neg c17] at H
        exact absurd H (by simp)
     ·rw [if_neg c13] at H
      exact absurd H (by simp)
    ·rw [if_neg c12] at H
     exact absurd H (by simp)

end Go.Proofs.Ytiiddglmoffonaa.PFnExactMayChange

/- Walks of functions that FnExactMayChange reaches, in the form of the print. -/
import Derived.Test.YtiiddglmoffonaaCFnExactMayChange0
import Derived.Test.YtiiddglmoffonaaCFnExactMayChange11
import Derived.Test.YtiiddglmoffonaaZ
namespace Go.Proofs.Ytiiddglmoffonaa.PFnExactMayChange
open Go.RowKit Go.Proofs.YtiiddglmoffonaaW.PrintWords Go.Proofs.YtiiddglmoffonaaW.PrintLast Go.Proofs.YtiiddglmoffonaaW.PrintMore

set_option linter.unusedVariables false
set_option linter.unusedSimpArgs false

/-! ### impl_isState: function 95 -/
mutual
def impl_isState.j0 : Nat → List Int → Bool → Int → List Int → List (List (S124)) → Option (Bool)
 | 0, _, _, _, _, _ => none
 | k + 1, x1, x17, x270000, x270001, x270002 => if x17 = true then (some false) else (impl_isState.l0 k x1 (x1.length : Int) 0 x270000 x270001 x270002)
def impl_isState.l0 : Nat → List Int → Int → Int → Int → List Int → List (List (S124)) → Option (Bool)
 | 0, _, _, _, _, _, _ => none
 | k + 1, x18, x19, x20, x270000, x270001, x270002 => if x20 < x19 then (if 0 ≤ x20 then (if x20 < (x18.length : Int) then (if (rd x18 x20) < 0 then (some false) else (if x20 < (x270002.length : Int) then (if (rd x18 x20) ≥ ((rd_L8 x270002 x20).length : Int) then (some false) else (impl_isState.l0 k x18 x19 (wrap64 (x20 + 1)) x270000 x270001 x270002)) else (none))) else (none)) else (none)) else (some true)
end
def impl_isState.f (k : Nat) (a0_0 : Int) (l0_1 : List Int) (l0_2 : List (List (S124))) (l1 : List Int) : Option (Bool) := (impl_isCharter.f k a0_0 l0_1 l0_2).bind fun t270 => (if t270 = true then (impl_isState.j0 k l1 ((l1.length : Int) != (l0_2.length : Int)) a0_0 l0_1 l0_2) else (impl_isState.j0 k l1 true a0_0 l0_1 l0_2))
theorem impl_isState.mono_l : ∀ k, (∀ y0 y1 y2 y3 y4, LeO (impl_isState.j0 k y0 y1 y2 y3 y4) (impl_isState.j0 (k + 1) y0 y1 y2 y3 y4)) ∧ (∀ y0 y1 y2 y3 y4 y5, LeO (impl_isState.l0 k y0 y1 y2 y3 y4 y5) (impl_isState.l0 (k + 1) y0 y1 y2 y3 y4 y5))
 | 0 => ⟨fun _ _ _ _ _ r h => by simp [impl_isState.j0] at h, fun _ _ _ _ _ _ r h => by simp [impl_isState.l0] at h⟩
 | k + 1 => by
  obtain ⟨ih0, ih1⟩ := impl_isState.mono_l k
  refine ⟨?_, ?_⟩
  ·intro y0 y1 y2 y3 y4
   unfold impl_isState.j0
   repeat' first
   | (with_reducible exact ih0 _ _ _ _ _)
   | (with_reducible exact ih1 _ _ _ _ _ _)
   | (with_reducible exact impl_isCharter.mono _ _ _ _)
   | (with_reducible exact LeO.refl _)
   | (with_reducible exact LeO.none _)
   | (with_reducible refine LeO.ite ?_ ?_)
   | (with_reducible refine LeO.bind ?_ (fun _ => ?_))
   | exact ih0 _ _ _ _ _
   | exact ih1 _ _ _ _ _ _
   | exact impl_isCharter.mono _ _ _ _
   | exact LeO.none _
   | refine LeO.ite ?_ ?_
   | refine LeO.bind ?_ (fun _ => ?_)
  ·intro y0 y1 y2 y3 y4 y5
   unfold impl_isState.l0
   repeat' first
   | (with_reducible exact ih0 _ _ _ _ _)
   | (with_reducible exact ih1 _ _ _ _ _ _)
   | (with_reducible exact impl_isCharter.mono _ _ _ _)
   | (with_reducible exact LeO.refl _)
   | (with_reducible exact LeO.none _)
   | (with_reducible refine LeO.ite ?_ ?_)
   | (with_reducible refine LeO.bind ?_ (fun _ => ?_))
   | exact ih0 _ _ _ _ _
   | exact ih1 _ _ _ _ _ _
   | exact impl_isCharter.mono _ _ _ _
   | exact LeO.none _
   | refine LeO.ite ?_ ?_
   | refine LeO.bind ?_ (fun _ => ?_)
theorem impl_isState.mono : ∀ a0 a1 a2 a3 k, LeO (impl_isState.f k a0 a1 a2 a3) (impl_isState.f (k + 1) a0 a1 a2 a3) := by
 intro a0 a1 a2 a3 k
 obtain ⟨ih0, ih1⟩ := impl_isState.mono_l k
 unfold impl_isState.f
 repeat' first
   | (with_reducible exact ih0 _ _ _ _ _)
   | (with_reducible exact ih1 _ _ _ _ _ _)
   | (with_reducible exact impl_isCharter.mono _ _ _ _)
   | (with_reducible exact LeO.refl _)
   | (with_reducible exact LeO.none _)
   | (with_reducible refine LeO.ite ?_ ?_)
   | (with_reducible refine LeO.bind ?_ (fun _ => ?_))
   | exact ih0 _ _ _ _ _
   | exact ih1 _ _ _ _ _ _
   | exact impl_isCharter.mono _ _ _ _
   | exact LeO.none _
   | refine LeO.ite ?_ ?_
   | refine LeO.bind ?_ (fun _ => ?_)
set_option maxHeartbeats 8000000 in
set_option maxRecDepth 100000 in
theorem impl_isState.calls (k : Nat) (a0_0 : Int) (A0_1 : Option Addr) (c0_1 : Nat) (l0_1 : List Int) (A0_2 : Option Addr) (c0_2 : Nat) (l0_2 : List (List (S124))) (A1 : Option Addr) (c1 : Nat) (l1 : List Int) (r : Bool) (w : World) (hr0_1 : Kd.C (Kd.int .i64) w A0_1 l0_1.length l0_1) (hc0_1 : l0_1.length ≤ c0_1) (hr0_2 : Kd.C (Kd.slice 124 k124) w A0_2 l0_2.length l0_2) (hc0_2 : l0_2.length ≤ c0_2) (hr1 : Kd.C (Kd.int .i64) w A1 l1.length l1) (hc1 : l1.length ≤ c1) (h : impl_isState.f k a0_0 l0_1 l0_2 l1 = some r) :
  Calls Try.prog 95 #[.agg #[.int .i64 a0_0, .slice A0_1 l0_1.length c0_1, .slice A0_2 l0_2.length c0_2], .slice A1 l1.length c1] w fun e w' => e = .returned (.bool r) ∧ Below w.heap.size w w' := by
 have hu67 := Try.underlying67
 have HR0_1 := Aside0.mk hr0_1
 have HC0_1 := Aside0.mk hc0_1
 clear hr0_1 hc0_1
 have HR0_2 := Aside0.mk hr0_2
 have HC0_2 := Aside0.mk hc0_2
 clear hr0_2 hc0_2
 have HR1 := Aside0.mk hr1
 have HC1 := Aside0.mk hc1
 clear hr1 hc1
 have HB := Aside0.mk (Below.refl w.heap.size w)
 have H : ((impl_isCharter.f k a0_0 l0_1 l0_2).bind fun t270 => (if t270 = true then (impl_isState.j0 k l1 ((l1.length : Int) != (l0_2.length : Int)) a0_0 l0_1 l0_2) else (impl_isState.j0 k l1 true a0_0 l0_1 l0_2))) = some r := h
 clear h
 have HC3 := Aside0.mk H
 clear H
 go_enter Try.func95, Try.ntmps95
 go_upto_region 1 with (((with_reducible refine gate_dst (N := 2) rfl ?_); (try (refine gate_guard (by rfl) ?_; dsimp only)); refine box_event ?hg (N := 2) ?hd (cs := #[.int .i64 a0_0, .slice A0_1 l0_1.length c0_1, .slice A0_2 l0_2.length c0_2]) (t := 67) ?hr ?_; (case hd => rfl); (case hg => rfl); (case hr => (go_simp; done)); intro gb269 hg w4 hbox hb; have n0_ := Aside0.mk (below_step (Z.bl HB.out) hb); have n1_ := Aside0.mk (hbox); have n2_ := Aside0.mk ((by rw [hg]; exact (below_size (Z.bl HB.out)) : w.heap.size ≤ gb269)); have n3_ := Aside0.mk ((by rw [hg]; exact (below_size (Z.bl HB.out)) : w.heap.size ≤ gb269)); clear HB; have HB := n0_; have BK269 := n1_; have GW269 := n2_; have GE269 := n3_; clear n0_ n1_ n2_ n3_; clear hb hbox hg))
 go_cut [17] (fun v17 wc => ∃ (kq : Nat) (x17_2 : Bool), v17 = .bool x17_2 ∧ Aside0 (impl_isState.j0 kq l1 x17_2 a0_0 l0_1 l0_2 = some r) ∧ Aside0 (kq ≤ k) ∧ Aside0 (wc.heap[gb269]? = some (.cells #[.int .i64 a0_0, (.slice A0_1 l0_1.length c0_1), (.slice A0_2 l0_2.length c0_2)] 67 (0, 0))) ∧ Aside0 (Below w.heap.size w wc))
 case first =>
  have H := HC3.out
  clear HC3
  replace H := Option.bind_eq_some_iff.mp H
  obtain ⟨t270, A50, H⟩ := H
  replace H : (if t270 = true then (impl_isState.j0 k l1 ((l1.length : Int) != (l0_2.length : Int)) a0_0 l0_1 l0_2) else (impl_isState.j0 k l1 true a0_0 l0_1 l0_2)) = some r := H
  have A5 := Aside0.mk A50
  clear A50
  by_cases c6 : t270 = true
  ·subst c6
   have H1 : (impl_isState.j0 k l1 ((l1.length : Int) != (l0_2.length : Int)) a0_0 l0_1 l0_2) = some r := by rw [if_pos rfl] at H; exact H
   clear H
   have H := H1
   clear H1
   have H' := Aside0.mk H
   clear H
   have hcz7_0 : w4.cell? ⟨gb269, 0, none⟩ = some (.int .i64 a0_0) := (blk_cell BK269.out 0).trans rfl
   have hcz7_1 : w4.cell? ⟨gb269, 1, none⟩ = some (.slice A0_1 l0_1.length c0_1) := (blk_cell BK269.out 1).trans rfl
   have hcz7_2 : w4.cell? ⟨gb269, 2, none⟩ = some (.slice A0_2 l0_2.length c0_2) := (blk_cell BK269.out 2).trans rfl
   have hfz7_0 := blk_frozen BK269.out 0
   have hfz7_1 := blk_frozen BK269.out 1
   have hfz7_2 := blk_frozen BK269.out 2
   go_wp2_with (((with_reducible refine gate_callee (f := 114) rfl ?_); refine goesL_ (some 8) rfl rfl Try.func114 (by kernel_rfl) rfl #[.agg #[.int .i64 a0_0, .slice A0_1 l0_1.length c0_1, .slice A0_2 l0_2.length c0_2]] rfl Z.ar ?_; (with_reducible refine (impl_isCharter.calls k a0_0 _ _ l0_1 _ _ l0_2 true _ ?side1 ?side2 ?side3 ?side4 A5.out).mono ?_); (case side1 => exact Z.cb (Kd.C_below HR0_1.out HB.out)); (case side2 => exact HC0_1.out); (case side3 => exact Z.cb (Kd.C_below HR0_2.out HB.out)); (case side4 => exact HC0_2.out); rintro e w8 ⟨rfl, hb⟩; refine ⟨_, rfl, ?_⟩; have n0_ := Aside0.mk (blk_below (g := gb269) (o := .cells #[.int .i64 a0_0, .slice A0_1 l0_1.length c0_1, .slice A0_2 l0_2.length c0_2] 67 (0, 0)) (Z.bk BK269.out) hb); have n1_ := Aside0.mk (below_step (Z.bs HB.out GE269.out) hb); clear BK269; clear HB; have BK269 := n0_; have HB := n1_; clear n0_ n1_; (try clear hb); have hcz9_0 : w8.cell? ⟨gb269, 0, none⟩ = some (.int .i64 a0_0) := (blk_cell BK269.out 0).trans rfl; have hcz9_1 : w8.cell? ⟨gb269, 1, none⟩ = some (.slice A0_1 l0_1.length c0_1) := (blk_cell BK269.out 1).trans rfl; have hcz9_2 : w8.cell? ⟨gb269, 2, none⟩ = some (.slice A0_2 l0_2.length c0_2) := (blk_cell BK269.out 2).trans rfl; have hfz9_0 := blk_frozen BK269.out 0; have hfz9_1 := blk_frozen BK269.out 1; have hfz9_2 := blk_frozen BK269.out 2))
   go_meet
   case rel => exact ⟨_, (((l1.length : Int) != (l0_2.length : Int))), (by rfl), H', ⟨by omega⟩, ⟨by (with_reducible skip); exact BK269.out⟩, ⟨Z.bs HB.out GE269.out⟩⟩
  ·replace c6 := Bool.eq_false_iff.mpr c6
   subst c6
   have H1 : (impl_isState.j0 k l1 true a0_0 l0_1 l0_2) = some r := by rw [if_neg (show ¬ (false = true) by decide)] at H; exact H
   clear H
   have H := H1
   clear H1
   have H' := Aside0.mk H
   clear H
   have hcz10_0 : w4.cell? ⟨gb269, 0, none⟩ = some (.int .i64 a0_0) := (blk_cell BK269.out 0).trans rfl
   have hcz10_1 : w4.cell? ⟨gb269, 1, none⟩ = some (.slice A0_1 l0_1.length c0_1) := (blk_cell BK269.out 1).trans rfl
   have hcz10_2 : w4.cell? ⟨gb269, 2, none⟩ = some (.slice A0_2 l0_2.length c0_2) := (blk_cell BK269.out 2).trans rfl
   have hfz10_0 := blk_frozen BK269.out 0
   have hfz10_1 := blk_frozen BK269.out 1
   have hfz10_2 := blk_frozen BK269.out 2
   go_wp2_with (((with_reducible refine gate_callee (f := 114) rfl ?_); refine goesL_ (some 8) rfl rfl Try.func114 (by kernel_rfl) rfl #[.agg #[.int .i64 a0_0, .slice A0_1 l0_1.length c0_1, .slice A0_2 l0_2.length c0_2]] rfl Z.ar ?_; (with_reducible refine (impl_isCharter.calls k a0_0 _ _ l0_1 _ _ l0_2 false _ ?side1 ?side2 ?side3 ?side4 A5.out).mono ?_); (case side1 => exact Z.cb (Kd.C_below HR0_1.out HB.out)); (case side2 => exact HC0_1.out); (case side3 => exact Z.cb (Kd.C_below HR0_2.out HB.out)); (case side4 => exact HC0_2.out); rintro e w11 ⟨rfl, hb⟩; refine ⟨_, rfl, ?_⟩; have n0_ := Aside0.mk (blk_below (g := gb269) (o := .cells #[.int .i64 a0_0, .slice A0_1 l0_1.length c0_1, .slice A0_2 l0_2.length c0_2] 67 (0, 0)) (Z.bk BK269.out) hb); have n1_ := Aside0.mk (below_step (Z.bs HB.out GE269.out) hb); clear BK269; clear HB; have BK269 := n0_; have HB := n1_; clear n0_ n1_; (try clear hb)))
   go_meet
   case rel => exact ⟨_, (true), (by rfl), H', ⟨by omega⟩, ⟨by (with_reducible skip); exact BK269.out⟩, ⟨Z.bs HB.out GE269.out⟩⟩
 case rest =>
  clear HC3
  obtain ⟨kq, x17_2, rfl, HA, HJ2, BK269, HB⟩ := hcut
  cases kq with
  | zero => exact absurd HA.out (by simp [impl_isState.j0])
  | succ kj2 =>
   have H := HA.out
   clear HA
   simp only [impl_isState.j0] at H
   by_cases c12 : x17_2 = true
   ·subst c12
    have H1 : (some false) = some r := by rw [if_pos rfl] at H; exact H
    clear H
    have H := H1
    clear H1
    obtain rfl := Option.some.inj H
    go_wp2
    go_ret
    exact ⟨by rfl, Z.bs HB.out GE269.out⟩
   ·replace c12 := Bool.eq_false_iff.mpr c12
    subst c12
    have H1 : (impl_isState.l0 kj2 l1 (l1.length : Int) 0 a0_0 l0_1 l0_2) = some r := by rw [if_neg (show ¬ (false = true) by decide)] at H; exact H
    clear H
    have H := H1
    clear H1
    have H' := Aside0.mk H
    clear H
    go_wp2
    go_loopg [20] kj2 (fun kq v20 w' => ∃ (x20_2 : Int), v20 = .int .i64 x20_2 ∧ Aside0 (impl_isState.l0 kq l1 (l1.length : Int) x20_2 a0_0 l0_1 l0_2 = some r) ∧ Aside0 (kq ≤ kj2) ∧ Aside0 (w'.heap[gb269]? = some (.cells #[.int .i64 a0_0, (.slice A0_1 l0_1.length c0_1), (.slice A0_2 l0_2.length c0_2)] 67 (0, 0))) ∧ Aside0 (Below w.heap.size w w'))
    case atStart => exact ⟨(0), (by rfl), H', ⟨Nat.le_refl _⟩, ⟨by (with_reducible skip); exact BK269.out⟩, ⟨Z.bs HB.out GE269.out⟩⟩
    case round =>
     clear H'
     obtain ⟨x20_2, rfl, HA, HK2, BK269, HB⟩ := hrel
     cases gk with
     | zero => exact absurd HA.out (by simp [impl_isState.l0])
     | succ k2 =>
      have H := HA.out
      clear HA
      simp only [impl_isState.l0] at H
      by_cases c13 : x20_2 < (l1.length : Int)
      ·rw [if_pos c13] at H
       have c13b0 : decide (x20_2 < (l1.length : Int)) = true := decide_eq_true c13
       clear c13
       by_cases c14 : 0 ≤ x20_2
       ·rw [if_pos c14] at H
        have c14b0 : decide (0 ≤ x20_2) = true := decide_eq_true c14
        clear c14
        by_cases c15 : x20_2 < (l1.length : Int)
        ·rw [if_pos c15] at H
         have c15b0 : decide (x20_2 < (l1.length : Int)) = true := decide_eq_true c15
         clear c15
         by_cases c16 : (rd l1 x20_2) < 0
         ·rw [if_pos c16] at H
          have c16b0 : decide ((rd l1 x20_2) < 0) = true := decide_eq_true c16
          clear c16
          obtain rfl := Option.some.inj H
          have p271 : 0 ≤ (x20_2 : Int) := Z.od
          have q271 : x20_2 < (l1.length : Int) := Z.od
          obtain ⟨ad271, e271, hx271_0⟩ := Kd.at_int HR1.out x20_2 p271 q271
          cases e271
          replace hx271_0 := Z.up HB.out hx271_0
          replace p271 := eq_true p271
          replace q271 := eq_true q271
          go_wp2
          go_ret
          exact ⟨by rfl, Z.bs HB.out GE269.out⟩
         ·rw [if_neg c16] at H
          have c16b0 : decide ((rd l1 x20_2) < 0) = false := decide_eq_false c16
          clear c16
          by_cases c17 : x20_2 < (l0_2.length : Int)
          ·rw [if_pos c17] at H
           have c17b0 : decide (x20_2 < (l0_2.length : Int)) = true := decide_eq_true c17
           clear c17
           by_cases c18 : (rd l1 x20_2) ≥ ((rd_L8 l0_2 x20_2).length : Int)
           ·rw [if_pos c18] at H
            have c18b0 : decide (((rd_L8 l0_2 x20_2).length : Int) ≤ (rd l1 x20_2)) = true := decide_eq_true c18
            clear c18
            obtain rfl := Option.some.inj H
            have p271 : 0 ≤ (x20_2 : Int) := Z.od
            have q271 : x20_2 < (l1.length : Int) := Z.od
            obtain ⟨ad271, e271, hx271_0⟩ := Kd.at_int HR1.out x20_2 p271 q271
            cases e271
            replace hx271_0 := Z.up HB.out hx271_0
            replace p271 := eq_true p271
            replace q271 := eq_true q271
            have hcz19_0 : wr.cell? ⟨gb269, 0, none⟩ = some (.int .i64 a0_0) := (blk_cell BK269.out 0).trans rfl
            have hcz19_1 : wr.cell? ⟨gb269, 1, none⟩ = some (.slice A0_1 l0_1.length c0_1) := (blk_cell BK269.out 1).trans rfl
            have hcz19_2 : wr.cell? ⟨gb269, 2, none⟩ = some (.slice A0_2 l0_2.length c0_2) := (blk_cell BK269.out 2).trans rfl
            have hfz19_0 := blk_frozen BK269.out 0
            have hfz19_1 := blk_frozen BK269.out 1
            have hfz19_2 := blk_frozen BK269.out 2
            have p272 : 0 ≤ (x20_2 : Int) := Z.od
            have q272 : x20_2 < (l0_2.length : Int) := Z.od
            obtain ⟨ad272, A272_0, c272_0, e272, hx272_0, hl272_0, hi272_0⟩ := at_L8 HR0_2.out x20_2 p272 q272
            cases e272
            replace hx272_0 := Z.up HB.out hx272_0
            have HR272_0 := Aside0.mk hi272_0
            have HC272_0 := Aside0.mk hl272_0
            clear hi272_0 hl272_0
            replace p272 := eq_true p272
            replace q272 := eq_true q272
            go_wp2
            go_ret
            exact ⟨by rfl, Z.bs HB.out GE269.out⟩
           ·rw [if_neg c18] at H
            have c18b0 : decide (((rd_L8 l0_2 x20_2).length : Int) ≤ (rd l1 x20_2)) = false := decide_eq_false c18
            clear c18
            have H' := Aside0.mk H
            clear H
            have p271 : 0 ≤ (x20_2 : Int) := Z.od
            have q271 : x20_2 < (l1.length : Int) := Z.od
            obtain ⟨ad271, e271, hx271_0⟩ := Kd.at_int HR1.out x20_2 p271 q271
            cases e271
            replace hx271_0 := Z.up HB.out hx271_0
            replace p271 := eq_true p271
            replace q271 := eq_true q271
            have hcz20_0 : wr.cell? ⟨gb269, 0, none⟩ = some (.int .i64 a0_0) := (blk_cell BK269.out 0).trans rfl
            have hcz20_1 : wr.cell? ⟨gb269, 1, none⟩ = some (.slice A0_1 l0_1.length c0_1) := (blk_cell BK269.out 1).trans rfl
            have hcz20_2 : wr.cell? ⟨gb269, 2, none⟩ = some (.slice A0_2 l0_2.length c0_2) := (blk_cell BK269.out 2).trans rfl
            have hfz20_0 := blk_frozen BK269.out 0
            have hfz20_1 := blk_frozen BK269.out 1
            have hfz20_2 := blk_frozen BK269.out 2
            have p272 : 0 ≤ (x20_2 : Int) := Z.od
            have q272 : x20_2 < (l0_2.length : Int) := Z.od
            obtain ⟨ad272, A272_0, c272_0, e272, hx272_0, hl272_0, hi272_0⟩ := at_L8 HR0_2.out x20_2 p272 q272
            cases e272
            replace hx272_0 := Z.up HB.out hx272_0
            have HR272_0 := Aside0.mk hi272_0
            have HC272_0 := Aside0.mk hl272_0
            clear hi272_0 hl272_0
            replace p272 := eq_true p272
            replace q272 := eq_true q272
            go_wp2
            go_roundg k2
            case measure => have := HJ2.out; have := HK2.out; omega
            case rel => exact ⟨(wrap64 (x20_2 + 1)), (by rfl), H', ⟨by have := HJ2.out; have := HK2.out; omega⟩, ⟨by (with_reducible skip); exact BK269.out⟩, ⟨Z.bs HB.out GE269.out⟩⟩
          ·rw [if_neg c17] at H
           exact absurd H (by simp)
        ·rw [if_neg c15] at H
         exact absurd H (by simp)
       ·rw [if_neg c14] at H
        exact absurd H (by simp)
      ·rw [if_neg c13] at H
       have c13b0 : decide (x20_2 < (l1.length : Int)) = false := decide_eq_false c13
       clear c13
       obtain rfl := Option.some.inj H
       go_wp2
       go_ret
       exact ⟨by rfl, Z.bs HB.out GE269.out⟩

end Go.Proofs.Ytiiddglmoffonaa.PFnExactMayChange

/- Walks of functions that All reaches, in the form of the print. -/
-- PRINTED
import Derived.Test.YtcafckapdgaogaaCAll13
namespace Go.Proofs.Ytcafckapdgaogaa.PAll
open Go.RowKit Go.Proofs.YtcafckapdgaogaaW.PrintWords Go.Proofs.YtcafckapdgaogaaW.PrintLast Go.Proofs.YtcafckapdgaogaaW.PrintMore
attribute [local go_sem] max2_int min2_int max_two min_two max_three min_three max_four min_four
set_option linter.unusedVariables false
set_option linter.unusedSimpArgs false

/-! ### impl_isState: function 65 -/
mutual
def impl_isState.j0 : Nat → List Int → Bool → Int → List Int → List (List (S86)) → Option (Bool)
 | 0, _, _, _, _, _ => none
 | k + 1, x1, x17, x296000, x296001, x296002 => if x17 = true then (some false) else (impl_isState.l0 k x1 (x1.length : Int) 0 x296000 x296001 x296002)
def impl_isState.l0 : Nat → List Int → Int → Int → Int → List Int → List (List (S86)) → Option (Bool)
 | 0, _, _, _, _, _, _ => none
 | k + 1, x18, x19, x20, x296000, x296001, x296002 => if x20 < x19 then (if 0 ≤ x20 then (if x20 < (x18.length : Int) then (if (rd x18 x20) < 0 then (some false) else (if x20 < (x296002.length : Int) then (if (rd x18 x20) ≥ ((rd_L9 x296002 x20).length : Int) then (some false) else (impl_isState.l0 k x18 x19 (wrap64 (x20 + 1)) x296000 x296001 x296002)) else (none))) else (none)) else (none)) else (some true)
end
def impl_isState.f (k : Nat) (a0_0 : Int) (l0_1 : List Int) (l0_2 : List (List (S86))) (l1 : List Int) : Option (Bool) := (impl_isCharter.f k a0_0 l0_1 l0_2).bind fun t296 => (if t296 = true then (impl_isState.j0 k l1 ((l1.length : Int) != (l0_2.length : Int)) a0_0 l0_1 l0_2) else (impl_isState.j0 k l1 true a0_0 l0_1 l0_2))
theorem impl_isState.mono_l : ∀ k, (∀ y0 y1 y2 y3 y4, LeO (impl_isState.j0 k y0 y1 y2 y3 y4) (impl_isState.j0 (k + 1) y0 y1 y2 y3 y4)) ∧ (∀ y0 y1 y2 y3 y4 y5, LeO (impl_isState.l0 k y0 y1 y2 y3 y4 y5) (impl_isState.l0 (k + 1) y0 y1 y2 y3 y4 y5))
 | 0 => ⟨fun _ _ _ _ _ r h => by simp [impl_isState.j0] at h, fun _ _ _ _ _ _ r h => by simp [impl_isState.l0] at h⟩
 | k + 1 => by
  obtain ⟨ih0, ih1⟩ := impl_isState.mono_l k
  refine ⟨?_, ?_⟩
  ·intro y0 y1 y2 y3 y4
   unfold impl_isState.j0
   repeat' first
   | (with_reducible exact LeO.refl _)
   | exact ih0 _ _ _ _ _
   | exact ih1 _ _ _ _ _ _
   | exact impl_isCharter.mono _ _ _ _
   | exact LeO.none _
   | refine LeO.ite ?_ ?_
   | refine LeO.bind ?_ (fun _ => ?_)
  ·intro y0 y1 y2 y3 y4 y5
   unfold impl_isState.l0
   repeat' first
   | (with_reducible exact LeO.refl _)
   | exact ih0 _ _ _ _ _
   | exact ih1 _ _ _ _ _ _
   | exact impl_isCharter.mono _ _ _ _
   | exact LeO.none _
   | refine LeO.ite ?_ ?_
   | refine LeO.bind ?_ (fun _ => ?_)
theorem impl_isState.mono : ∀ a0 a1 a2 a3 k, LeO (impl_isState.f k a0 a1 a2 a3) (impl_isState.f (k + 1) a0 a1 a2 a3) := by
 intro a0 a1 a2 a3 k
 obtain ⟨ih0, ih1⟩ := impl_isState.mono_l k
 unfold impl_isState.f
 repeat' first
   | (with_reducible exact LeO.refl _)
   | exact ih0 _ _ _ _ _
   | exact ih1 _ _ _ _ _ _
   | exact impl_isCharter.mono _ _ _ _
   | exact LeO.none _
   | refine LeO.ite ?_ ?_
   | refine LeO.bind ?_ (fun _ => ?_)
set_option maxHeartbeats 8000000 in
set_option maxRecDepth 100000 in
theorem impl_isState.calls (k : Nat) (a0_0 : Int) (A0_1 : Option Addr) (c0_1 : Nat) (l0_1 : List Int) (A0_2 : Option Addr) (c0_2 : Nat) (l0_2 : List (List (S86))) (A1 : Option Addr) (c1 : Nat) (l1 : List Int) (r : Bool) (w : World) (hr0_1 : Kd.C (Kd.int .i64) w A0_1 l0_1.length l0_1) (hc0_1 : l0_1.length ≤ c0_1) (hr0_2 : Kd.C (Kd.slice 86 k86) w A0_2 l0_2.length l0_2) (hc0_2 : l0_2.length ≤ c0_2) (hr1 : Kd.C (Kd.int .i64) w A1 l1.length l1) (hc1 : l1.length ≤ c1) (h : impl_isState.f k a0_0 l0_1 l0_2 l1 = some r) :
  Calls Try.prog 65 #[.agg #[.int .i64 a0_0, .slice A0_1 l0_1.length c0_1, .slice A0_2 l0_2.length c0_2], .slice A1 l1.length c1] w fun e w' => e = .returned (.bool r) ∧ Below w.heap.size w w' := by
 have hu35 := Try.underlying35
 have HR0_1 := Aside0.mk hr0_1
 have HC0_1 := Aside0.mk hc0_1
 clear hr0_1 hc0_1
 have HR0_2 := Aside0.mk hr0_2
 have HC0_2 := Aside0.mk hc0_2
 clear hr0_2 hc0_2
 have HR1 := Aside0.mk hr1
 have HC1 := Aside0.mk hc1
 clear hr1 hc1
 have HB := Aside0.mk (Below.refl w.heap.size w)
 have H := h
 clear h
 unfold impl_isState.f at H
 have HC3 := Aside0.mk H
 clear H
 go_enter Try.func65, Try.ntmps65
 go_upto_region 1 with (first | ((with_reducible refine gate_dst (N := 2) rfl ?_); (try (refine gate_guard (by rfl) ?_; dsimp only)); refine Z.bx #[.int .i64 a0_0, .slice A0_1 l0_1.length c0_1, .slice A0_2 l0_2.length c0_2] 35 HB ?_; clear HB; intro gb295 w4 BK295 GE295 HB hg hb; have GW295 := GE295; clear hb hg))
 (try simp only [Act.put, List.setIfInBounds_toArray, List.set_cons_zero, List.set_cons_succ])
 go_cut [17] (fun v17 wc => ∃ (kq : Nat) (x17_2 : Bool), v17 = .bool x17_2 ∧ Aside0 (impl_isState.j0 kq l1 x17_2 a0_0 l0_1 l0_2 = some r) ∧ Aside0 (kq ≤ k) ∧ Aside0 (wc.heap[gb295]? = some (.cells #[.int .i64 a0_0, (.slice A0_1 l0_1.length c0_1), (.slice A0_2 l0_2.length c0_2)] 35 (0, 0))) ∧ Aside0 (Below w.heap.size w wc))
 case first =>
  have H := HC3.out
  clear HC3
  replace H := Option.bind_eq_some_iff.mp H
  obtain ⟨t296, A50, H⟩ := H
  try dsimp only at H
  have A5 := Aside0.mk A50
  clear A50
  by_cases c6 : t296 = true
  ·subst c6
   rw [if_pos rfl] at H
   have H' := Aside0.mk H
   clear H
   have hcz7 := Z.c3 BK295.out
   go_wp2_with (first | ((with_reducible refine gate_callee (f := 74) rfl ?_); refine goesL_ (some 8) rfl rfl Try.func74 (by kernel_rfl) rfl #[.agg #[.int .i64 a0_0, .slice A0_1 l0_1.length c0_1, .slice A0_2 l0_2.length c0_2]] rfl Z.ar ?_; (with_reducible refine (impl_isCharter.calls k a0_0 _ _ l0_1 _ _ l0_2 true _ ?q1 ?q2 ?q3 ?q4 A5.out).mono ?_); (case q1 => exact Z.cc HR0_1 HB); (case q2 => exact HC0_1.out); (case q3 => exact Z.cc HR0_2 HB); (case q4 => exact HC0_2.out); rintro e w8 ⟨rfl, hb⟩; refine ⟨_, rfl, ?_⟩; replace BK295 := Z.bb BK295 hb; replace HB := Z.st (Z.bs HB.out GE295.out) hb; (try clear hb); (try clear hb2); (try clear hk); (try clear hi); have hcz9 := Z.c3 BK295.out))
   go_meet
   case rel => exact ⟨_, (((l1.length : Int) != (l0_2.length : Int))), (by first | rfl | (simp; done) | (simp [*]; done)), H', ⟨by first | omega | exact Nat.le_refl _⟩, ⟨by (with_reducible repeat (first | refine blk_drewN ?_ _ | refine blk_drew ?_ | refine blk_alloc ?_ _)); exact BK295.out⟩, ⟨Z.bs HB.out GE295.out⟩⟩
  ·replace c6 := Bool.eq_false_iff.mpr c6
   subst c6
   rw [if_neg (show ¬ (false = true) by decide)] at H
   have H' := Aside0.mk H
   clear H
   have hcz10 := Z.c3 BK295.out
   go_wp2_with (first | ((with_reducible refine gate_callee (f := 74) rfl ?_); refine goesL_ (some 8) rfl rfl Try.func74 (by kernel_rfl) rfl #[.agg #[.int .i64 a0_0, .slice A0_1 l0_1.length c0_1, .slice A0_2 l0_2.length c0_2]] rfl Z.ar ?_; (with_reducible refine (impl_isCharter.calls k a0_0 _ _ l0_1 _ _ l0_2 false _ ?q1 ?q2 ?q3 ?q4 A5.out).mono ?_); (case q1 => exact Z.cc HR0_1 HB); (case q2 => exact HC0_1.out); (case q3 => exact Z.cc HR0_2 HB); (case q4 => exact HC0_2.out); rintro e w11 ⟨rfl, hb⟩; refine ⟨_, rfl, ?_⟩; replace BK295 := Z.bb BK295 hb; replace HB := Z.st (Z.bs HB.out GE295.out) hb; (try clear hb); (try clear hb2); (try clear hk); (try clear hi)))
   go_meet
   case rel => exact ⟨_, (true), (by first | rfl | (simp; done) | (simp [*]; done)), H', ⟨by first | omega | exact Nat.le_refl _⟩, ⟨by (with_reducible repeat (first | refine blk_drewN ?_ _ | refine blk_drew ?_ | refine blk_alloc ?_ _)); exact BK295.out⟩, ⟨Z.bs HB.out GE295.out⟩⟩
 case rest =>
  clear HC3
  try clear c1
  try clear p2
  try clear c6
  try clear c7
  try clear hcz10_0
  try clear hcz10_1
  try clear hcz10_2
  try clear hcz7_0
  try clear hcz7_1
  try clear hcz7_2
  try clear hcz9_0
  try clear hcz9_1
  try clear hcz9_2
  try clear hfz10_0
  try clear hfz10_1
  try clear hfz10_2
  try clear hfz7_0
  try clear hfz7_1
  try clear hfz7_2
  try clear hfz9_0
  try clear hfz9_1
  try clear hfz9_2
  obtain ⟨kq, x17_2, rfl, HA, HJ2, BK295, HB⟩ := hcut
  cases kq with
  | zero => exact absurd HA.out (by simp [impl_isState.j0])
  | succ kj2 =>
   have H := HA.out
   clear HA
   simp only [impl_isState.j0] at H
   by_cases c12 : x17_2 = true
   ·subst c12
    rw [if_pos rfl] at H
    obtain rfl := Option.some.inj H
    go_wp2
    go_ret
    exact ⟨by first | rfl | (simp [errW_none, errW_some] <;> rfl) | (simp [*, errW_none, errW_some] <;> rfl), Z.bs HB.out GE295.out⟩
   ·replace c12 := Bool.eq_false_iff.mpr c12
    subst c12
    rw [if_neg (show ¬ (false = true) by decide)] at H
    have H' := Aside0.mk H
    clear H
    go_wp2
    go_loopg [20] kj2 (fun kq v20 w' => ∃ (x20_2 : Int), v20 = .int .i64 x20_2 ∧ Aside0 (impl_isState.l0 kq l1 (l1.length : Int) x20_2 a0_0 l0_1 l0_2 = some r) ∧ Aside0 (kq ≤ kj2) ∧ Aside0 (w'.heap[gb295]? = some (.cells #[.int .i64 a0_0, (.slice A0_1 l0_1.length c0_1), (.slice A0_2 l0_2.length c0_2)] 35 (0, 0))) ∧ Aside0 (Below w.heap.size w w'))
    case atStart => exact ⟨(0), (by first | rfl | (simp; done) | (simp [*]; done)), H', ⟨Nat.le_refl _⟩, ⟨by (with_reducible repeat (first | refine blk_drewN ?_ _ | refine blk_drew ?_ | refine blk_alloc ?_ _)); exact BK295.out⟩, ⟨Z.bs HB.out GE295.out⟩⟩
    case round =>
     clear H'
     try clear c1
     try clear p2
     try clear c6
     try clear c7
     try clear c12
     try clear hcz10_0
     try clear hcz10_1
     try clear hcz10_2
     try clear hcz7_0
     try clear hcz7_1
     try clear hcz7_2
     try clear hcz9_0
     try clear hcz9_1
     try clear hcz9_2
     try clear hfz10_0
     try clear hfz10_1
     try clear hfz10_2
     try clear hfz7_0
     try clear hfz7_1
     try clear hfz7_2
     try clear hfz9_0
     try clear hfz9_1
     try clear hfz9_2
     try clear p2
     obtain ⟨x20_2, rfl, HA, HK2, BK295, HB⟩ := hrel
     cases gk with
     | zero => exact absurd HA.out (by simp [impl_isState.l0])
     | succ k2 =>
      have H := HA.out
      clear HA
      simp only [impl_isState.l0] at H
      by_cases c13 : x20_2 < (l1.length : Int)
      ·rw [if_pos c13] at H
       have c13b0 := decide_eq_true c13
       clear c13
       obtain ⟨c14, H⟩ := Z.ifp H
       have c14b0 : decide (0 ≤ x20_2) = true := decide_eq_true c14
       clear c14
       obtain ⟨c15, H⟩ := Z.ifp H
       have c15b0 : decide (x20_2 < (l1.length : Int)) = true := decide_eq_true c15
       clear c15
       by_cases c16 : (rd l1 x20_2) < 0
       ·rw [if_pos c16] at H
        have c16b0 := decide_eq_true c16
        clear c16
        obtain rfl := Option.some.inj H
        have p297 : 0 ≤ (x20_2 : Int) := Z.od
        have q297 : x20_2 < (l1.length : Int) := Z.od
        obtain ⟨ad297, rfl, hx297_0⟩ := Kd.at_int HR1.out x20_2 p297 q297
        replace hx297_0 := Z.up HB.out hx297_0
        replace p297 := eq_true p297
        replace q297 := eq_true q297
        go_wp2
        go_ret
        exact ⟨by first | rfl | (simp [errW_none, errW_some] <;> rfl) | (simp [*, errW_none, errW_some] <;> rfl), Z.bs HB.out GE295.out⟩
       ·rw [if_neg c16] at H
        have c16b0 := decide_eq_false c16
        clear c16
        obtain ⟨c17, H⟩ := Z.ifp H
        have c17b0 : decide (x20_2 < (l0_2.length : Int)) = true := decide_eq_true c17
        clear c17
        by_cases c18 : (rd l1 x20_2) ≥ ((rd_L9 l0_2 x20_2).length : Int)
        ·rw [if_pos c18] at H
         have c18b0 : decide (((rd_L9 l0_2 x20_2).length : Int) ≤ (rd l1 x20_2)) = true := decide_eq_true c18
         clear c18
         obtain rfl := Option.some.inj H
         have p297 : 0 ≤ (x20_2 : Int) := Z.od
         have q297 : x20_2 < (l1.length : Int) := Z.od
         obtain ⟨ad297, rfl, hx297_0⟩ := Kd.at_int HR1.out x20_2 p297 q297
         replace hx297_0 := Z.up HB.out hx297_0
         replace p297 := eq_true p297
         replace q297 := eq_true q297
         have hcz19 := Z.c3 BK295.out
         have p298 : 0 ≤ (x20_2 : Int) := Z.od
         have q298 : x20_2 < (l0_2.length : Int) := Z.od
         obtain ⟨ad298, A298_0, c298_0, rfl, hx298_0, hl298_0, hi298_0⟩ := at_L9 HR0_2.out x20_2 p298 q298
         replace hx298_0 := Z.up HB.out hx298_0
         have HR298_0 := Aside0.mk hi298_0
         have HC298_0 := Aside0.mk hl298_0
         clear hi298_0 hl298_0
         replace p298 := eq_true p298
         replace q298 := eq_true q298
         go_wp2
         go_ret
         exact ⟨by first | rfl | (simp [errW_none, errW_some] <;> rfl) | (simp [*, errW_none, errW_some] <;> rfl), Z.bs HB.out GE295.out⟩
        ·rw [if_neg c18] at H
         have c18b0 : decide (((rd_L9 l0_2 x20_2).length : Int) ≤ (rd l1 x20_2)) = false := decide_eq_false c18
         clear c18
         have H' := Aside0.mk H
         clear H
         have p297 : 0 ≤ (x20_2 : Int) := Z.od
         have q297 : x20_2 < (l1.length : Int) := Z.od
         obtain ⟨ad297, rfl, hx297_0⟩ := Kd.at_int HR1.out x20_2 p297 q297
         replace hx297_0 := Z.up HB.out hx297_0
         replace p297 := eq_true p297
         replace q297 := eq_true q297
         have hcz20 := Z.c3 BK295.out
         have p298 : 0 ≤ (x20_2 : Int) := Z.od
         have q298 : x20_2 < (l0_2.length : Int) := Z.od
         obtain ⟨ad298, A298_0, c298_0, rfl, hx298_0, hl298_0, hi298_0⟩ := at_L9 HR0_2.out x20_2 p298 q298
         replace hx298_0 := Z.up HB.out hx298_0
         have HR298_0 := Aside0.mk hi298_0
         have HC298_0 := Aside0.mk hl298_0
         clear hi298_0 hl298_0
         replace p298 := eq_true p298
         replace q298 := eq_true q298
         go_wp2
         go_roundg k2
         case measure => have := HJ2.out; have := HK2.out; omega
         case rel => exact ⟨(wrap64 (x20_2 + 1)), (by first | rfl | (simp; done) | (simp [*]; done)), H', ⟨by have := HJ2.out; have := HK2.out; omega⟩, ⟨by (with_reducible repeat (first | refine blk_drewN ?_ _ | refine blk_drew ?_ | refine blk_alloc ?_ _)); exact BK295.out⟩, ⟨Z.bs HB.out GE295.out⟩⟩
      ·rw [if_neg c13] at H
       have c13b0 := decide_eq_false c13
       clear c13
       obtain rfl := Option.some.inj H
       go_wp2
       go_ret
       exact ⟨by first | rfl | (simp [errW_none, errW_some] <;> rfl) | (simp [*, errW_none, errW_some] <;> rfl), Z.bs HB.out GE295.out⟩

end Go.Proofs.Ytcafckapdgaogaa.PAll

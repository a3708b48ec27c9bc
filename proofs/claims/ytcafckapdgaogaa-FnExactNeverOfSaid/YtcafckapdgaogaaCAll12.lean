/- Walks of functions that All reaches, in the form of the print. -/
-- PRINTED
import Derived.Test.YtcafckapdgaogaaCAll11
namespace Go.Proofs.Ytcafckapdgaogaa.PAll
open Go.RowKit Go.Proofs.YtcafckapdgaogaaW.PrintWords Go.Proofs.YtcafckapdgaogaaW.PrintLast Go.Proofs.YtcafckapdgaogaaW.PrintMore
attribute [local go_sem] max2_int min2_int max_two min_two max_three min_three max_four min_four
set_option linter.unusedVariables false
set_option linter.unusedSimpArgs false

/-! ### impl_isTerm: function 111 -/
mutual
def impl_isTerm.j0 : Nat → List (S134) → Bool → Int → List Int → Option (Bool)
 | 0, _, _, _, _ => none
 | k + 1, x1, x20, x283000, x283001 => if x20 = true then (some false) else (impl_isTerm.l0 k 0 x1 (x1.length : Int) 0 x283000 x283001)
def impl_isTerm.l0 : Nat → Int → List (S134) → Int → Int → Int → List Int → Option (Bool)
 | 0, _, _, _, _, _, _ => none
 | k + 1, x5, x21, x22, x23, x283000, x283001 => if x23 < x22 then (if 0 ≤ x23 then (if x23 < (x21.length : Int) then (if ((rd_T134 x21 x23).f0) = 0 then (if ((rd_T134 x21 x23).f1) < 0 then (some false) else (if ((rd_T134 x21 x23).f1) ≥ (x283001.length : Int) then (some false) else (if ((rd_T134 x21 x23).f2) < 1 then (some false) else (if 0 ≤ ((rd_T134 x21 x23).f1) then (if ((rd_T134 x21 x23).f1) < (x283001.length : Int) then ((impl_headsOf.f (rd x283001 ((rd_T134 x21 x23).f1))).bind fun t287 => (if ((rd_T134 x21 x23).f2) > t287 then (some false) else (impl_isTerm.l0 k (wrap64 (x5 + 1)) x21 x22 (wrap64 (x23 + 1)) x283000 x283001))) else (none)) else (none))))) else (if ((rd_T134 x21 x23).f0) = 1 then (impl_isTerm.j2 k x5 x21 x22 x23 (((rd_T134 x21 x23).f0) == 1) x283000 x283001 ((rd_T134 x21 x23).f0) ((rd_T134 x21 x23).f1) ((rd_T134 x21 x23).f2)) else (impl_isTerm.j2 k x5 x21 x22 x23 (((rd_T134 x21 x23).f0) == 2) x283000 x283001 ((rd_T134 x21 x23).f0) ((rd_T134 x21 x23).f1) ((rd_T134 x21 x23).f2)))) else (none)) else (none)) else (some (x5 == 1))
def impl_isTerm.j2 : Nat → Int → List (S134) → Int → Int → Bool → Int → List Int → Int → Int → Int → Option (Bool)
 | 0, _, _, _, _, _, _, _, _, _, _ => none
 | k + 1, x5, x21, x22, x23, x61, x283000, x283001, x286000, x286001, x286002 => if x61 = true then (if x286001 = 0 then (if x286002 = 0 then (if x5 < 2 then (some false) else (impl_isTerm.l0 k (wrap64 (x5 - 1)) x21 x22 (wrap64 (x23 + 1)) x283000 x283001)) else (some false)) else (some false)) else (some false)
end
def impl_isTerm.f (k : Nat) (a0_0 : Int) (l0_1 : List Int) (l1 : List (S134)) : Option (Bool) := (impl_isHouse.f k a0_0 l0_1).bind fun t283 => (if t283 = true then (if (l1.length : Int) < 1 then (impl_isTerm.j0 k l1 true a0_0 l0_1) else (impl_isTerm.j0 k l1 (decide ((l1.length : Int) > 9)) a0_0 l0_1)) else (impl_isTerm.j0 k l1 true a0_0 l0_1))
theorem impl_isTerm.mono_l : ∀ k, (∀ y0 y1 y2 y3, LeO (impl_isTerm.j0 k y0 y1 y2 y3) (impl_isTerm.j0 (k + 1) y0 y1 y2 y3)) ∧ (∀ y0 y1 y2 y3 y4 y5, LeO (impl_isTerm.l0 k y0 y1 y2 y3 y4 y5) (impl_isTerm.l0 (k + 1) y0 y1 y2 y3 y4 y5)) ∧ (∀ y0 y1 y2 y3 y4 y5 y6 y7 y8 y9, LeO (impl_isTerm.j2 k y0 y1 y2 y3 y4 y5 y6 y7 y8 y9) (impl_isTerm.j2 (k + 1) y0 y1 y2 y3 y4 y5 y6 y7 y8 y9))
 | 0 => ⟨fun _ _ _ _ r h => by simp [impl_isTerm.j0] at h, fun _ _ _ _ _ _ r h => by simp [impl_isTerm.l0] at h, fun _ _ _ _ _ _ _ _ _ _ r h => by simp [impl_isTerm.j2] at h⟩
 | k + 1 => by
  obtain ⟨ih0, ih1, ih2⟩ := impl_isTerm.mono_l k
  refine ⟨?_, ?_, ?_⟩
  ·intro y0 y1 y2 y3
   unfold impl_isTerm.j0
   repeat' first
   | (with_reducible exact LeO.refl _)
   | exact ih0 _ _ _ _
   | exact ih1 _ _ _ _ _ _
   | exact ih2 _ _ _ _ _ _ _ _ _ _
   | exact impl_isHouse.mono _ _ _
   | exact LeO.none _
   | refine LeO.ite ?_ ?_
   | refine LeO.bind ?_ (fun _ => ?_)
  ·intro y0 y1 y2 y3 y4 y5
   unfold impl_isTerm.l0
   repeat' first
   | (with_reducible exact LeO.refl _)
   | exact ih0 _ _ _ _
   | exact ih1 _ _ _ _ _ _
   | exact ih2 _ _ _ _ _ _ _ _ _ _
   | exact impl_isHouse.mono _ _ _
   | exact LeO.none _
   | refine LeO.ite ?_ ?_
   | refine LeO.bind ?_ (fun _ => ?_)
  ·intro y0 y1 y2 y3 y4 y5 y6 y7 y8 y9
   unfold impl_isTerm.j2
   repeat' first
   | (with_reducible exact LeO.refl _)
   | exact ih0 _ _ _ _
   | exact ih1 _ _ _ _ _ _
   | exact ih2 _ _ _ _ _ _ _ _ _ _
   | exact impl_isHouse.mono _ _ _
   | exact LeO.none _
   | refine LeO.ite ?_ ?_
   | refine LeO.bind ?_ (fun _ => ?_)
theorem impl_isTerm.mono : ∀ a0 a1 a2 k, LeO (impl_isTerm.f k a0 a1 a2) (impl_isTerm.f (k + 1) a0 a1 a2) := by
 intro a0 a1 a2 k
 obtain ⟨ih0, ih1, ih2⟩ := impl_isTerm.mono_l k
 unfold impl_isTerm.f
 repeat' first
   | (with_reducible exact LeO.refl _)
   | exact ih0 _ _ _ _
   | exact ih1 _ _ _ _ _ _
   | exact ih2 _ _ _ _ _ _ _ _ _ _
   | exact impl_isHouse.mono _ _ _
   | exact LeO.none _
   | refine LeO.ite ?_ ?_
   | refine LeO.bind ?_ (fun _ => ?_)
set_option maxHeartbeats 8000000 in
set_option maxRecDepth 100000 in
theorem impl_isTerm.calls (k : Nat) (a0_0 : Int) (A0_1 : Option Addr) (c0_1 : Nat) (l0_1 : List Int) (A1 : Option Addr) (c1 : Nat) (l1 : List (S134)) (r : Bool) (w : World) (hr0_1 : Kd.C (Kd.int .i64) w A0_1 l0_1.length l0_1) (hc0_1 : l0_1.length ≤ c0_1) (hr1 : Kd.C k134 w A1 l1.length l1) (hc1 : l1.length ≤ c1) (h : impl_isTerm.f k a0_0 l0_1 l1 = some r) :
  Calls Try.prog 111 #[.agg #[.int .i64 a0_0, .slice A0_1 l0_1.length c0_1], .slice A1 l1.length c1] w fun e w' => e = .returned (.bool r) ∧ Below w.heap.size w w' := by
 have hu32 := Try.underlying32
 have hu134 := Try.underlying134
 have HR0_1 := Aside0.mk hr0_1
 have HC0_1 := Aside0.mk hc0_1
 clear hr0_1 hc0_1
 have HR1 := Aside0.mk hr1
 have HC1 := Aside0.mk hc1
 clear hr1 hc1
 have HB := Aside0.mk (Below.refl w.heap.size w)
 have H := h
 clear h
 unfold impl_isTerm.f at H
 have HC3 := Aside0.mk H
 clear H
 go_enter Try.func111, Try.ntmps111
 go_upto_region 1 with (((with_reducible refine gate_dst (N := 2) rfl ?_); (try (refine gate_guard (by rfl) ?_; dsimp only)); refine Z.bx #[.int .i64 a0_0, .slice A0_1 l0_1.length c0_1] 32 HB ?_; clear HB; intro gb282 w4 BK282 GE282 HB hg hb; have GW282 := GE282; clear hb hg))
 go_cut [20] (fun v20 wc => ∃ (kq : Nat) (x20_2 : Bool), v20 = .bool x20_2 ∧ Aside0 (impl_isTerm.j0 kq l1 x20_2 a0_0 l0_1 = some r) ∧ Aside0 (kq ≤ k) ∧ Aside0 (wc.heap[gb282]? = some (.cells #[.int .i64 a0_0, (.slice A0_1 l0_1.length c0_1)] 32 (0, 0))) ∧ Aside0 (Below w.heap.size w wc))
 case first =>
  have H := HC3.out
  clear HC3
  replace H := Option.bind_eq_some_iff.mp H
  obtain ⟨t283, A50, H⟩ := H
  have A5 := Aside0.mk A50
  clear A50
  by_cases c6 : t283 = true
  ·subst c6
   rw [if_pos rfl] at H
   by_cases c7 : (l1.length : Int) < 1
   ·rw [if_pos c7] at H
    have c7b0 := decide_eq_true c7
    have c7b1 : decide (l1.length < 1) = true := decide_eq_true (by omega)
    clear c7
    have H' := Aside0.mk H
    clear H
    have hcz8 := Z.c2 BK282.out
    go_wp2_with ((go_at_call 110; (with_reducible refine (impl_isHouse.calls k a0_0 _ _ l0_1 true _ ?q1 ?q2 A5.out).mono ?_); (case q1 => exact Z.cc HR0_1 HB); (case q2 => exact HC0_1.out); rintro e w9 ⟨rfl, hb⟩; replace BK282 := Z.bb BK282 hb; replace HB := Z.st (Z.bs HB.out GE282.out) hb; (try clear hb)))
    go_meet
    case rel => exact ⟨_, (true), (by rfl), H', ⟨by omega⟩, ⟨by (with_reducible skip); exact BK282.out⟩, ⟨Z.bs HB.out GE282.out⟩⟩
   ·rw [if_neg c7] at H
    have c7b0 := decide_eq_false c7
    have c7b1 : decide (l1.length < 1) = false := decide_eq_false (by omega)
    clear c7
    have H' := Aside0.mk H
    clear H
    have hcz10 := Z.c2 BK282.out
    go_wp2_with ((go_at_call 110; (with_reducible refine (impl_isHouse.calls k a0_0 _ _ l0_1 true _ ?q1 ?q2 A5.out).mono ?_); (case q1 => exact Z.cc HR0_1 HB); (case q2 => exact HC0_1.out); rintro e w11 ⟨rfl, hb⟩; replace BK282 := Z.bb BK282 hb; replace HB := Z.st (Z.bs HB.out GE282.out) hb; (try clear hb)))
    go_meet
    case rel => exact ⟨_, (decide ((l1.length : Int) > 9)), (by rfl), H', ⟨by omega⟩, ⟨by (with_reducible skip); exact BK282.out⟩, ⟨Z.bs HB.out GE282.out⟩⟩
  ·replace c6 := Bool.eq_false_iff.mpr c6
   subst c6
   rw [if_neg (show ¬ (false = true) by decide)] at H
   have H' := Aside0.mk H
   clear H
   have hcz12 := Z.c2 BK282.out
   go_wp2_with ((go_at_call 110; (with_reducible refine (impl_isHouse.calls k a0_0 _ _ l0_1 false _ ?q1 ?q2 A5.out).mono ?_); (case q1 => exact Z.cc HR0_1 HB); (case q2 => exact HC0_1.out); rintro e w13 ⟨rfl, hb⟩; replace BK282 := Z.bb BK282 hb; replace HB := Z.st (Z.bs HB.out GE282.out) hb; (try clear hb)))
   go_meet
   case rel => exact ⟨_, (true), (by rfl), H', ⟨by omega⟩, ⟨by (with_reducible skip); exact BK282.out⟩, ⟨Z.bs HB.out GE282.out⟩⟩
 case rest =>
  clear HC3
  obtain ⟨kq, x20_2, rfl, HA, HJ2, BK282, HB⟩ := hcut
  cases kq with
  | zero => exact absurd HA.out (by simp [impl_isTerm.j0])
  | succ kj2 =>
   have H := HA.out
   clear HA
   simp only [impl_isTerm.j0] at H
   by_cases c14 : x20_2 = true
   ·subst c14
    rw [if_pos rfl] at H
    obtain rfl := Option.some.inj H
    go_wp2
    go_ret
    exact ⟨by rfl, Z.bs HB.out GE282.out⟩
   ·replace c14 := Bool.eq_false_iff.mpr c14
    subst c14
    rw [if_neg (show ¬ (false = true) by decide)] at H
    have H' := Aside0.mk H
    clear H
    go_wp2
    go_loopg [5, 23] kj2 (fun kq v5 v23 w' => ∃ (x5_2 : Int) (x23_2 : Int), v5 = .int .i64 x5_2 ∧ v23 = .int .i64 x23_2 ∧ Aside0 (impl_isTerm.l0 kq x5_2 l1 (l1.length : Int) x23_2 a0_0 l0_1 = some r) ∧ Aside0 (kq ≤ kj2) ∧ Aside0 (w'.heap[gb282]? = some (.cells #[.int .i64 a0_0, (.slice A0_1 l0_1.length c0_1)] 32 (0, 0))) ∧ Aside0 (Below w.heap.size w w'))
    case atStart => exact ⟨(0), (0), (by rfl), (by rfl), H', ⟨Nat.le_refl _⟩, ⟨by (with_reducible skip); exact BK282.out⟩, ⟨Z.bs HB.out GE282.out⟩⟩
    case round =>
     clear H'
     obtain ⟨x5_2, x23_2, rfl, rfl, HA, HK2, BK282, HB⟩ := hrel
     cases gk with
     | zero => exact absurd HA.out (by simp [impl_isTerm.l0])
     | succ k2 =>
      have H := HA.out
      clear HA
      simp only [impl_isTerm.l0] at H
      by_cases c15 : x23_2 < (l1.length : Int)
      ·rw [if_pos c15] at H
       have c15b0 := decide_eq_true c15
       clear c15
       obtain ⟨c16, H⟩ := Z.ifp H
       have c16b0 : decide (0 ≤ x23_2) = true := decide_eq_true c16
       clear c16
       obtain ⟨c17, H⟩ := Z.ifp H
       have c17b0 : decide (x23_2 < (l1.length : Int)) = true := decide_eq_true c17
       clear c17
       by_cases c18 : ((rd_T134 l1 x23_2).f0) = 0
       ·rw [if_pos c18] at H
        have c18b0 : (((rd_T134 l1 x23_2).f0) == 0) = true := beq_iff_eq.mpr c18
        have c18b1 : (((rd_T134 l1 x23_2).f0) != 0) = false := bne_eq_false_iff_eq.mpr c18
        clear c18
        by_cases c19 : ((rd_T134 l1 x23_2).f1) < 0
        ·rw [if_pos c19] at H
         have c19b0 := decide_eq_true c19
         clear c19
         obtain rfl := Option.some.inj H
         have p284 : 0 ≤ (x23_2 : Int) := Z.od
         have q284 : x23_2 < (l1.length : Int) := Z.od
         obtain ⟨ad284, rfl, hx284_0, hx284_1, hx284_2⟩ := at_T134 HR1.out x23_2 p284 q284
         replace hx284_0 := Z.up HB.out hx284_0
         replace hx284_1 := Z.up HB.out hx284_1
         replace hx284_2 := Z.up HB.out hx284_2
         replace p284 := eq_true p284
         replace q284 := eq_true q284
         go_wp2_with (((with_reducible refine gate_dst (N := 7) rfl ?_); (try (refine gate_guard (by rfl) ?_; dsimp only)); refine Z.bz #[.int .i64 0, .int .i64 0, .int .i64 0] 134 HB GE282 ?_; clear HB; intro gb285 w20 BK285 GE285 HB hg hb; have GW285 := GE285; have NB282_285 := Z.nl hg BK282; have NB285_282 := Z.ng hg BK282; replace BK282 := Z.bb BK282 hb; clear hb hg; have hnb21 := NB285_282.out; have hnc21 := NB282_285.out; have hcz22 := Z.c3 BK285.out))
         repeat (go_quiet (((with_reducible refine gate_dst (N := 7) rfl ?_); refine Z.bz #[.int .i64 0, .int .i64 0, .int .i64 0] 134 HB GE282 ?_; clear HB; intro gb285 w20 BK285 GE285 HB hg hb; have GW285 := GE285; have NB282_285 := Z.nl hg BK282; have NB285_282 := Z.ng hg BK282; replace BK282 := Z.bb BK282 hb; clear hb hg; have hnb21 := NB285_282.out; have hnc21 := NB282_285.out; have hcz22 := Z.c3 BK285.out)); try go_wp2_with (((with_reducible refine gate_dst (N := 7) rfl ?_); refine Z.bz #[.int .i64 0, .int .i64 0, .int .i64 0] 134 HB GE282 ?_; clear HB; intro gb285 w20 BK285 GE285 HB hg hb; have GW285 := GE285; have NB282_285 := Z.nl hg BK282; have NB285_282 := Z.ng hg BK282; replace BK282 := Z.bb BK282 hb; clear hb hg; have hnb21 := NB285_282.out; have hnc21 := NB282_285.out; have hcz22 := Z.c3 BK285.out)))
         go_ret
         exact ⟨by rfl, by repeat ((with_reducible first | exact HB.out | apply pw_below_drewN | refine below_set ?_ GE285.out))⟩
        ·rw [if_neg c19] at H
         have c19b0 := decide_eq_false c19
         clear c19
         by_cases c23 : ((rd_T134 l1 x23_2).f1) ≥ (l0_1.length : Int)
         ·rw [if_pos c23] at H
          have c23b0 : decide ((l0_1.length : Int) ≤ ((rd_T134 l1 x23_2).f1)) = true := decide_eq_true c23
          clear c23
          obtain rfl := Option.some.inj H
          have p284 : 0 ≤ (x23_2 : Int) := Z.od
          have q284 : x23_2 < (l1.length : Int) := Z.od
          obtain ⟨ad284, rfl, hx284_0, hx284_1, hx284_2⟩ := at_T134 HR1.out x23_2 p284 q284
          replace hx284_0 := Z.up HB.out hx284_0
          replace hx284_1 := Z.up HB.out hx284_1
          replace hx284_2 := Z.up HB.out hx284_2
          replace p284 := eq_true p284
          replace q284 := eq_true q284
          go_wp2_with (((with_reducible refine gate_dst (N := 7) rfl ?_); (try (refine gate_guard (by rfl) ?_; dsimp only)); refine Z.bz #[.int .i64 0, .int .i64 0, .int .i64 0] 134 HB GE282 ?_; clear HB; intro gb285 w24 BK285 GE285 HB hg hb; have GW285 := GE285; have NB282_285 := Z.nl hg BK282; have NB285_282 := Z.ng hg BK282; replace BK282 := Z.bb BK282 hb; clear hb hg; have hnb25 := NB285_282.out; have hnc25 := NB282_285.out; have hcz26 := Z.c3 BK285.out; have hcz27 := Z.c2 BK282.out))
          repeat (go_quiet (((with_reducible refine gate_dst (N := 7) rfl ?_); refine Z.bz #[.int .i64 0, .int .i64 0, .int .i64 0] 134 HB GE282 ?_; clear HB; intro gb285 w24 BK285 GE285 HB hg hb; have GW285 := GE285; have NB282_285 := Z.nl hg BK282; have NB285_282 := Z.ng hg BK282; replace BK282 := Z.bb BK282 hb; clear hb hg; have hnb25 := NB285_282.out; have hnc25 := NB282_285.out; have hcz26 := Z.c3 BK285.out; have hcz27 := Z.c2 BK282.out)); try go_wp2_with (((with_reducible refine gate_dst (N := 7) rfl ?_); refine Z.bz #[.int .i64 0, .int .i64 0, .int .i64 0] 134 HB GE282 ?_; clear HB; intro gb285 w24 BK285 GE285 HB hg hb; have GW285 := GE285; have NB282_285 := Z.nl hg BK282; have NB285_282 := Z.ng hg BK282; replace BK282 := Z.bb BK282 hb; clear hb hg; have hnb25 := NB285_282.out; have hnc25 := NB282_285.out; have hcz26 := Z.c3 BK285.out; have hcz27 := Z.c2 BK282.out)))
          go_ret
          exact ⟨by rfl, by repeat ((with_reducible first | exact HB.out | apply pw_below_drewN | refine below_set ?_ GE285.out))⟩
         ·rw [if_neg c23] at H
          have c23b0 : decide ((l0_1.length : Int) ≤ ((rd_T134 l1 x23_2).f1)) = false := decide_eq_false c23
          clear c23
          by_cases c28 : ((rd_T134 l1 x23_2).f2) < 1
          ·rw [if_pos c28] at H
           have c28b0 := decide_eq_true c28
           clear c28
           obtain rfl := Option.some.inj H
           have p284 : 0 ≤ (x23_2 : Int) := Z.od
           have q284 : x23_2 < (l1.length : Int) := Z.od
           obtain ⟨ad284, rfl, hx284_0, hx284_1, hx284_2⟩ := at_T134 HR1.out x23_2 p284 q284
           replace hx284_0 := Z.up HB.out hx284_0
           replace hx284_1 := Z.up HB.out hx284_1
           replace hx284_2 := Z.up HB.out hx284_2
           replace p284 := eq_true p284
           replace q284 := eq_true q284
           go_wp2_with (((with_reducible refine gate_dst (N := 7) rfl ?_); (try (refine gate_guard (by rfl) ?_; dsimp only)); refine Z.bz #[.int .i64 0, .int .i64 0, .int .i64 0] 134 HB GE282 ?_; clear HB; intro gb285 w29 BK285 GE285 HB hg hb; have GW285 := GE285; have NB282_285 := Z.nl hg BK282; have NB285_282 := Z.ng hg BK282; replace BK282 := Z.bb BK282 hb; clear hb hg; have hnb30 := NB285_282.out; have hnc30 := NB282_285.out; have hcz31 := Z.c3 BK285.out; have hcz32 := Z.c2 BK282.out))
           repeat (go_quiet (((with_reducible refine gate_dst (N := 7) rfl ?_); refine Z.bz #[.int .i64 0, .int .i64 0, .int .i64 0] 134 HB GE282 ?_; clear HB; intro gb285 w29 BK285 GE285 HB hg hb; have GW285 := GE285; have NB282_285 := Z.nl hg BK282; have NB285_282 := Z.ng hg BK282; replace BK282 := Z.bb BK282 hb; clear hb hg; have hnb30 := NB285_282.out; have hnc30 := NB282_285.out; have hcz31 := Z.c3 BK285.out; have hcz32 := Z.c2 BK282.out)); try go_wp2_with (((with_reducible refine gate_dst (N := 7) rfl ?_); refine Z.bz #[.int .i64 0, .int .i64 0, .int .i64 0] 134 HB GE282 ?_; clear HB; intro gb285 w29 BK285 GE285 HB hg hb; have GW285 := GE285; have NB282_285 := Z.nl hg BK282; have NB285_282 := Z.ng hg BK282; replace BK282 := Z.bb BK282 hb; clear hb hg; have hnb30 := NB285_282.out; have hnc30 := NB282_285.out; have hcz31 := Z.c3 BK285.out; have hcz32 := Z.c2 BK282.out)))
           go_ret
           exact ⟨by rfl, by repeat ((with_reducible first | exact HB.out | apply pw_below_drewN | refine below_set ?_ GE285.out))⟩
          ·rw [if_neg c28] at H
           have c28b0 := decide_eq_false c28
           clear c28
           obtain ⟨c33, H⟩ := Z.ifp H
           have c33b0 : decide (0 ≤ ((rd_T134 l1 x23_2).f1)) = true := decide_eq_true c33
           clear c33
           obtain ⟨c34, H⟩ := Z.ifp H
           have c34b0 : decide (((rd_T134 l1 x23_2).f1) < (l0_1.length : Int)) = true := decide_eq_true c34
           clear c34
           replace H := Option.bind_eq_some_iff.mp H
           obtain ⟨t287, A350, H⟩ := H
           have A35 := Aside0.mk A350
           clear A350
           by_cases c36 : ((rd_T134 l1 x23_2).f2) > t287
           ·rw [if_pos c36] at H
            have c36b0 : decide (t287 < ((rd_T134 l1 x23_2).f2)) = true := decide_eq_true c36
            clear c36
            obtain rfl := Option.some.inj H
            have p284 : 0 ≤ (x23_2 : Int) := Z.od
            have q284 : x23_2 < (l1.length : Int) := Z.od
            obtain ⟨ad284, rfl, hx284_0, hx284_1, hx284_2⟩ := at_T134 HR1.out x23_2 p284 q284
            replace hx284_0 := Z.up HB.out hx284_0
            replace hx284_1 := Z.up HB.out hx284_1
            replace hx284_2 := Z.up HB.out hx284_2
            replace p284 := eq_true p284
            replace q284 := eq_true q284
            go_wp2_with (((with_reducible refine gate_dst (N := 7) rfl ?_); (try (refine gate_guard (by rfl) ?_; dsimp only)); refine Z.bz #[.int .i64 0, .int .i64 0, .int .i64 0] 134 HB GE282 ?_; clear HB; intro gb285 w37 BK285 GE285 HB hg hb; have GW285 := GE285; have NB282_285 := Z.nl hg BK282; have NB285_282 := Z.ng hg BK282; replace BK282 := Z.bb BK282 hb; clear hb hg; have hnb38 := NB285_282.out; have hnc38 := NB282_285.out; have hcz39 := Z.c3 BK285.out; have hcz40 := Z.c2 BK282.out; have p286 : 0 ≤ (((rd_T134 l1 x23_2).f1) : Int) := Z.od; have q286 : ((rd_T134 l1 x23_2).f1) < (l0_1.length : Int) := Z.od; obtain ⟨ad286, e286, hx286_0⟩ := Kd.at_int HR0_1.out ((rd_T134 l1 x23_2).f1) p286 q286; cases e286; have hn286_0 : ad286.block ≠ gb285 := Nat.ne_of_lt (Nat.lt_of_lt_of_le (by have := World.block_lt_of_cell? _ _ hx286_0; rwa [add_block] at this) GW285.out); have hn286_1 : ad286.block ≠ gb285 := Nat.ne_of_lt (Nat.lt_of_lt_of_le (by have := World.block_lt_of_cell? _ _ hx286_0; rwa [add_block] at this) GW285.out); have hn286_2 : ad286.block ≠ gb285 := Nat.ne_of_lt (Nat.lt_of_lt_of_le (by have := World.block_lt_of_cell? _ _ hx286_0; rwa [add_block] at this) GW285.out); replace hx286_0 := Z.up HB.out hx286_0; replace hx286_0 := (cell_far (p := ⟨gb285, 0, none⟩) (by (rw [add_block]; exact hn286_0)) (.int .i64 ((rd_T134 l1 x23_2).f0))).trans hx286_0; replace hx286_0 := (cell_far (p := ⟨gb285, 1, none⟩) (by (rw [add_block]; exact hn286_1)) (.int .i64 ((rd_T134 l1 x23_2).f1))).trans hx286_0; replace hx286_0 := (cell_far (p := ⟨gb285, 2, none⟩) (by (rw [add_block]; exact hn286_2)) (.int .i64 ((rd_T134 l1 x23_2).f2))).trans hx286_0; (try have hy286_0 := fun (n_ : Nat) => (show (((((w37.drewN n_).setCell ⟨gb285, 0, none⟩ (.int .i64 ((rd_T134 l1 x23_2).f0))).setCell ⟨gb285, 1, none⟩ (.int .i64 ((rd_T134 l1 x23_2).f1))).setCell ⟨gb285, 2, none⟩ (.int .i64 ((rd_T134 l1 x23_2).f2)))).cell? _ = some _ from hx286_0)); clear hn286_0; clear hn286_1; clear hn286_2; replace p286 := eq_true p286; replace q286 := eq_true q286))
            repeat (go_quiet ((go_at_call 131; (with_reducible refine (impl_headsOf.calls (rd l0_1 ((rd_T134 l1 x23_2).f1)) t287 _ A35.out).mono ?_); rintro e w' ⟨rfl, ⟨nd, rfl⟩⟩; (try exact ⟨rfl, _, World.drewN_drewN _ _ _⟩))); try go_wp2_with (((with_reducible refine gate_dst (N := 7) rfl ?_); refine Z.bz #[.int .i64 0, .int .i64 0, .int .i64 0] 134 HB GE282 ?_; clear HB; intro gb285 w37 BK285 GE285 HB hg hb; have GW285 := GE285; have NB282_285 := Z.nl hg BK282; have NB285_282 := Z.ng hg BK282; replace BK282 := Z.bb BK282 hb; clear hb hg; have hnb38 := NB285_282.out; have hnc38 := NB282_285.out; have hcz39 := Z.c3 BK285.out; have hcz40 := Z.c2 BK282.out; have p286 : 0 ≤ (((rd_T134 l1 x23_2).f1) : Int) := Z.od; have q286 : ((rd_T134 l1 x23_2).f1) < (l0_1.length : Int) := Z.od; obtain ⟨ad286, e286, hx286_0⟩ := Kd.at_int HR0_1.out ((rd_T134 l1 x23_2).f1) p286 q286; cases e286; have hn286_0 : ad286.block ≠ gb285 := Nat.ne_of_lt (Nat.lt_of_lt_of_le (by have := World.block_lt_of_cell? _ _ hx286_0; rwa [add_block] at this) GW285.out); have hn286_1 : ad286.block ≠ gb285 := Nat.ne_of_lt (Nat.lt_of_lt_of_le (by have := World.block_lt_of_cell? _ _ hx286_0; rwa [add_block] at this) GW285.out); have hn286_2 : ad286.block ≠ gb285 := Nat.ne_of_lt (Nat.lt_of_lt_of_le (by have := World.block_lt_of_cell? _ _ hx286_0; rwa [add_block] at this) GW285.out); replace hx286_0 := Z.up HB.out hx286_0; replace hx286_0 := (cell_far (p := ⟨gb285, 0, none⟩) (by (rw [add_block]; exact hn286_0)) (.int .i64 ((rd_T134 l1 x23_2).f0))).trans hx286_0; replace hx286_0 := (cell_far (p := ⟨gb285, 1, none⟩) (by (rw [add_block]; exact hn286_1)) (.int .i64 ((rd_T134 l1 x23_2).f1))).trans hx286_0; replace hx286_0 := (cell_far (p := ⟨gb285, 2, none⟩) (by (rw [add_block]; exact hn286_2)) (.int .i64 ((rd_T134 l1 x23_2).f2))).trans hx286_0; clear hn286_0; clear hn286_1; clear hn286_2; replace p286 := eq_true p286; replace q286 := eq_true q286)))
            go_ret
            exact ⟨by rfl, by repeat ((with_reducible first | exact HB.out | apply pw_below_drewN | refine below_set ?_ GE285.out))⟩
           ·rw [if_neg c36] at H
            have c36b0 : decide (t287 < ((rd_T134 l1 x23_2).f2)) = false := decide_eq_false c36
            clear c36
            have H' := Aside0.mk H
            clear H
            have p284 : 0 ≤ (x23_2 : Int) := Z.od
            have q284 : x23_2 < (l1.length : Int) := Z.od
            obtain ⟨ad284, rfl, hx284_0, hx284_1, hx284_2⟩ := at_T134 HR1.out x23_2 p284 q284
            replace hx284_0 := Z.up HB.out hx284_0
            replace hx284_1 := Z.up HB.out hx284_1
            replace hx284_2 := Z.up HB.out hx284_2
            replace p284 := eq_true p284
            replace q284 := eq_true q284
            go_wp2_with (((with_reducible refine gate_dst (N := 7) rfl ?_); (try (refine gate_guard (by rfl) ?_; dsimp only)); refine Z.bz #[.int .i64 0, .int .i64 0, .int .i64 0] 134 HB GE282 ?_; clear HB; intro gb285 w41 BK285 GE285 HB hg hb; have GW285 := GE285; have NB282_285 := Z.nl hg BK282; have NB285_282 := Z.ng hg BK282; replace BK282 := Z.bb BK282 hb; clear hb hg; have hnb42 := NB285_282.out; have hnc42 := NB282_285.out; have hcz43 := Z.c3 BK285.out; have hcz44 := Z.c2 BK282.out; have p286 : 0 ≤ (((rd_T134 l1 x23_2).f1) : Int) := Z.od; have q286 : ((rd_T134 l1 x23_2).f1) < (l0_1.length : Int) := Z.od; obtain ⟨ad286, e286, hx286_0⟩ := Kd.at_int HR0_1.out ((rd_T134 l1 x23_2).f1) p286 q286; cases e286; have hn286_0 : ad286.block ≠ gb285 := Nat.ne_of_lt (Nat.lt_of_lt_of_le (by have := World.block_lt_of_cell? _ _ hx286_0; rwa [add_block] at this) GW285.out); have hn286_1 : ad286.block ≠ gb285 := Nat.ne_of_lt (Nat.lt_of_lt_of_le (by have := World.block_lt_of_cell? _ _ hx286_0; rwa [add_block] at this) GW285.out); have hn286_2 : ad286.block ≠ gb285 := Nat.ne_of_lt (Nat.lt_of_lt_of_le (by have := World.block_lt_of_cell? _ _ hx286_0; rwa [add_block] at this) GW285.out); replace hx286_0 := Z.up HB.out hx286_0; replace hx286_0 := (cell_far (p := ⟨gb285, 0, none⟩) (by (rw [add_block]; exact hn286_0)) (.int .i64 ((rd_T134 l1 x23_2).f0))).trans hx286_0; replace hx286_0 := (cell_far (p := ⟨gb285, 1, none⟩) (by (rw [add_block]; exact hn286_1)) (.int .i64 ((rd_T134 l1 x23_2).f1))).trans hx286_0; replace hx286_0 := (cell_far (p := ⟨gb285, 2, none⟩) (by (rw [add_block]; exact hn286_2)) (.int .i64 ((rd_T134 l1 x23_2).f2))).trans hx286_0; (try have hy286_0 := fun (n_ : Nat) => (show (((((w41.drewN n_).setCell ⟨gb285, 0, none⟩ (.int .i64 ((rd_T134 l1 x23_2).f0))).setCell ⟨gb285, 1, none⟩ (.int .i64 ((rd_T134 l1 x23_2).f1))).setCell ⟨gb285, 2, none⟩ (.int .i64 ((rd_T134 l1 x23_2).f2)))).cell? _ = some _ from hx286_0)); clear hn286_0; clear hn286_1; clear hn286_2; replace p286 := eq_true p286; replace q286 := eq_true q286))
            repeat (go_quiet ((go_at_call 131; (with_reducible refine (impl_headsOf.calls (rd l0_1 ((rd_T134 l1 x23_2).f1)) t287 _ A35.out).mono ?_); rintro e w' ⟨rfl, ⟨nd, rfl⟩⟩; (try exact ⟨rfl, _, World.drewN_drewN _ _ _⟩))); try go_wp2_with (((with_reducible refine gate_dst (N := 7) rfl ?_); refine Z.bz #[.int .i64 0, .int .i64 0, .int .i64 0] 134 HB GE282 ?_; clear HB; intro gb285 w41 BK285 GE285 HB hg hb; have GW285 := GE285; have NB282_285 := Z.nl hg BK282; have NB285_282 := Z.ng hg BK282; replace BK282 := Z.bb BK282 hb; clear hb hg; have hnb42 := NB285_282.out; have hnc42 := NB282_285.out; have hcz43 := Z.c3 BK285.out; have hcz44 := Z.c2 BK282.out; have p286 : 0 ≤ (((rd_T134 l1 x23_2).f1) : Int) := Z.od; have q286 : ((rd_T134 l1 x23_2).f1) < (l0_1.length : Int) := Z.od; obtain ⟨ad286, e286, hx286_0⟩ := Kd.at_int HR0_1.out ((rd_T134 l1 x23_2).f1) p286 q286; cases e286; have hn286_0 : ad286.block ≠ gb285 := Nat.ne_of_lt (Nat.lt_of_lt_of_le (by have := World.block_lt_of_cell? _ _ hx286_0; rwa [add_block] at this) GW285.out); have hn286_1 : ad286.block ≠ gb285 := Nat.ne_of_lt (Nat.lt_of_lt_of_le (by have := World.block_lt_of_cell? _ _ hx286_0; rwa [add_block] at this) GW285.out); have hn286_2 : ad286.block ≠ gb285 := Nat.ne_of_lt (Nat.lt_of_lt_of_le (by have := World.block_lt_of_cell? _ _ hx286_0; rwa [add_block] at this) GW285.out); replace hx286_0 := Z.up HB.out hx286_0; replace hx286_0 := (cell_far (p := ⟨gb285, 0, none⟩) (by (rw [add_block]; exact hn286_0)) (.int .i64 ((rd_T134 l1 x23_2).f0))).trans hx286_0; replace hx286_0 := (cell_far (p := ⟨gb285, 1, none⟩) (by (rw [add_block]; exact hn286_1)) (.int .i64 ((rd_T134 l1 x23_2).f1))).trans hx286_0; replace hx286_0 := (cell_far (p := ⟨gb285, 2, none⟩) (by (rw [add_block]; exact hn286_2)) (.int .i64 ((rd_T134 l1 x23_2).f2))).trans hx286_0; clear hn286_0; clear hn286_1; clear hn286_2; replace p286 := eq_true p286; replace q286 := eq_true q286)))
            go_roundg k2
            case measure => have := HJ2.out; have := HK2.out; omega
            case rel => exact ⟨(wrap64 (x5_2 + 1)), (wrap64 (x23_2 + 1)), (by rfl), (by rfl), H', ⟨by have := HJ2.out; have := HK2.out; omega⟩, ⟨by (with_reducible repeat (refine blk_drewN ?_ _)); refine blk_far ?_ NB282_285.out _; (with_reducible skip); refine blk_far ?_ NB282_285.out _; (with_reducible skip); refine blk_far ?_ NB282_285.out _; (with_reducible skip); exact BK282.out⟩, ⟨by repeat ((with_reducible first | exact HB.out | apply pw_below_drewN | refine below_set ?_ GE285.out))⟩⟩
       ·rw [if_neg c18] at H
        have c18b0 : (((rd_T134 l1 x23_2).f0) == 0) = false := beq_eq_false_iff_ne.mpr c18
        have c18b1 : (((rd_T134 l1 x23_2).f0) != 0) = true := bne_iff_ne.mpr c18
        have HC45 := Aside0.mk H
        clear H
        have p284 : 0 ≤ (x23_2 : Int) := Z.od
        have q284 : x23_2 < (l1.length : Int) := Z.od
        obtain ⟨ad284, rfl, hx284_0, hx284_1, hx284_2⟩ := at_T134 HR1.out x23_2 p284 q284
        replace hx284_0 := Z.up HB.out hx284_0
        replace hx284_1 := Z.up HB.out hx284_1
        replace hx284_2 := Z.up HB.out hx284_2
        replace p284 := eq_true p284
        replace q284 := eq_true q284
        go_upto_if 61 with (((with_reducible refine gate_dst (N := 7) rfl ?_); (try (refine gate_guard (by rfl) ?_; dsimp only)); refine Z.bz #[.int .i64 0, .int .i64 0, .int .i64 0] 134 HB GE282 ?_; clear HB; intro gb285 w46 BK285 GE285 HB hg hb; have GW285 := GE285; have NB282_285 := Z.nl hg BK282; have NB285_282 := Z.ng hg BK282; replace BK282 := Z.bb BK282 hb; clear hb hg; have hnb47 := NB285_282.out; have hnc47 := NB282_285.out; have hcz48 := Z.c3 BK285.out))
        go_cut [61] (fun v61 wc => ∃ (kq : Nat) (x61_44 : Bool), v61 = .bool x61_44 ∧ Aside0 (impl_isTerm.j2 kq x5_2 l1 (l1.length : Int) x23_2 x61_44 a0_0 l0_1 ((rd_T134 l1 x23_2).f0) ((rd_T134 l1 x23_2).f1) ((rd_T134 l1 x23_2).f2) = some r) ∧ Aside0 (kq ≤ k2) ∧ Aside0 (wc.heap[gb282]? = some (.cells #[.int .i64 a0_0, (.slice A0_1 l0_1.length c0_1)] 32 (0, 0))) ∧ Aside0 (wc.heap[gb285]? = some (.cells #[.int .i64 ((rd_T134 l1 x23_2).f0), .int .i64 ((rd_T134 l1 x23_2).f1), .int .i64 ((rd_T134 l1 x23_2).f2)] 134 (0, 0))) ∧ Aside0 (Below w.heap.size w wc))
        case first =>
         have H := HC45.out
         clear HC45
         by_cases c49 : ((rd_T134 l1 x23_2).f0) = 1
         ·rw [if_pos c49] at H
          have c49b0 : (((rd_T134 l1 x23_2).f0) == 1) = true := beq_iff_eq.mpr c49
          have c49b1 : (((rd_T134 l1 x23_2).f0) != 1) = false := bne_eq_false_iff_eq.mpr c49
          clear c49
          (rw [c49b0])
          have H' := Aside0.mk H
          clear H
          go_wp2
          go_meet
          case rel => exact ⟨_, ((((rd_T134 l1 x23_2).f0) == 1)), (by (simp [*]; done)), H', ⟨by have := HJ2.out; have := HK2.out; omega⟩, ⟨by (with_reducible skip); refine blk_far ?_ NB282_285.out _; (with_reducible skip); refine blk_far ?_ NB282_285.out _; (with_reducible skip); refine blk_far ?_ NB282_285.out _; (with_reducible skip); exact BK282.out⟩, ⟨by (with_reducible skip); refine blk_put (cs := #[.int .i64 ((rd_T134 l1 x23_2).f0), .int .i64 ((rd_T134 l1 x23_2).f1), .int .i64 0]) ?_ 2 _ rfl; (with_reducible skip); refine blk_put (cs := #[.int .i64 ((rd_T134 l1 x23_2).f0), .int .i64 0, .int .i64 0]) ?_ 1 _ rfl; (with_reducible skip); refine blk_put (cs := #[.int .i64 0, .int .i64 0, .int .i64 0]) ?_ 0 _ rfl; (with_reducible skip); exact BK285.out⟩, ⟨by repeat ((with_reducible first | exact HB.out | refine below_set ?_ GE285.out))⟩⟩
         ·rw [if_neg c49] at H
          have c49b0 : (((rd_T134 l1 x23_2).f0) == 1) = false := beq_eq_false_iff_ne.mpr c49
          have c49b1 : (((rd_T134 l1 x23_2).f0) != 1) = true := bne_iff_ne.mpr c49
          (rw [c49b0])
          have H' := Aside0.mk H
          clear H
          go_wp2
          go_meet
          case rel => exact ⟨_, ((((rd_T134 l1 x23_2).f0) == 2)), (by rfl), H', ⟨by have := HJ2.out; have := HK2.out; omega⟩, ⟨by (with_reducible skip); refine blk_far ?_ NB282_285.out _; (with_reducible skip); refine blk_far ?_ NB282_285.out _; (with_reducible skip); refine blk_far ?_ NB282_285.out _; (with_reducible skip); exact BK282.out⟩, ⟨by (with_reducible skip); refine blk_put (cs := #[.int .i64 ((rd_T134 l1 x23_2).f0), .int .i64 ((rd_T134 l1 x23_2).f1), .int .i64 0]) ?_ 2 _ rfl; (with_reducible skip); refine blk_put (cs := #[.int .i64 ((rd_T134 l1 x23_2).f0), .int .i64 0, .int .i64 0]) ?_ 1 _ rfl; (with_reducible skip); refine blk_put (cs := #[.int .i64 0, .int .i64 0, .int .i64 0]) ?_ 0 _ rfl; (with_reducible skip); exact BK285.out⟩, ⟨by repeat ((with_reducible first | exact HB.out | refine below_set ?_ GE285.out))⟩⟩
        case rest =>
         clear HC45
         try clear c15b0
         try clear c16b0
         try clear c17b0
         try clear c18
         try clear c18b0
         try clear c18b1
         try clear hx284_0
         try clear hx284_1
         try clear hx284_2
         try clear p284
         try clear q284
         obtain ⟨kq, x61_44, rfl, HA, HJ44, BK282, BK285, HB⟩ := hcut
         cases kq with
         | zero => exact absurd HA.out (by simp [impl_isTerm.j2])
         | succ kj44 =>
          have H := HA.out
          clear HA
          simp only [impl_isTerm.j2] at H
          by_cases c50 : x61_44 = true
          ·subst c50
           rw [if_pos rfl] at H
           by_cases c51 : ((rd_T134 l1 x23_2).f1) = 0
           ·rw [if_pos c51] at H
            have c51b0 : (((rd_T134 l1 x23_2).f1) == 0) = true := beq_iff_eq.mpr c51
            have c51b1 : (((rd_T134 l1 x23_2).f1) != 0) = false := bne_eq_false_iff_eq.mpr c51
            clear c51
            by_cases c52 : ((rd_T134 l1 x23_2).f2) = 0
            ·rw [if_pos c52] at H
             have c52b0 : (((rd_T134 l1 x23_2).f2) == 0) = true := beq_iff_eq.mpr c52
             have c52b1 : (((rd_T134 l1 x23_2).f2) != 0) = false := bne_eq_false_iff_eq.mpr c52
             clear c52
             by_cases c53 : x5_2 < 2
             ·rw [if_pos c53] at H
              have c53b0 := decide_eq_true c53
              clear c53
              obtain rfl := Option.some.inj H
              have hnb54 := NB285_282.out
              have hnc54 := NB282_285.out
              have hcz55 := Z.c3 BK285.out
              go_wp2
              go_ret
              exact ⟨by rfl, by repeat ((with_reducible exact HB.out))⟩
             ·rw [if_neg c53] at H
              have c53b0 := decide_eq_false c53
              clear c53
              have H' := Aside0.mk H
              clear H
              have hnb56 := NB285_282.out
              have hnc56 := NB282_285.out
              have hcz57 := Z.c3 BK285.out
              go_wp2
              go_roundg kj44
              case measure => have := HJ2.out; have := HK2.out; have := HJ44.out; omega
              case rel => exact ⟨(wrap64 (x5_2 - 1)), (wrap64 (x23_2 + 1)), (by rfl), (by rfl), H', ⟨by have := HJ2.out; have := HK2.out; have := HJ44.out; omega⟩, ⟨by (with_reducible skip); exact BK282.out⟩, ⟨by repeat ((with_reducible exact HB.out))⟩⟩
            ·rw [if_neg c52] at H
             have c52b0 : (((rd_T134 l1 x23_2).f2) == 0) = false := beq_eq_false_iff_ne.mpr c52
             have c52b1 : (((rd_T134 l1 x23_2).f2) != 0) = true := bne_iff_ne.mpr c52
             obtain rfl := Option.some.inj H
             have hnb58 := NB285_282.out
             have hnc58 := NB282_285.out
             have hcz59 := Z.c3 BK285.out
             go_wp2
             go_ret
             exact ⟨by rfl, by repeat ((with_reducible exact HB.out))⟩
           ·rw [if_neg c51] at H
            have c51b0 : (((rd_T134 l1 x23_2).f1) == 0) = false := beq_eq_false_iff_ne.mpr c51
            have c51b1 : (((rd_T134 l1 x23_2).f1) != 0) = true := bne_iff_ne.mpr c51
            obtain rfl := Option.some.inj H
            have hnb60 := NB285_282.out
            have hnc60 := NB282_285.out
            have hcz61 := Z.c3 BK285.out
            go_wp2
            go_ret
            exact ⟨by rfl, by repeat ((with_reducible exact HB.out))⟩
          ·replace c50 := Bool.eq_false_iff.mpr c50
           subst c50
           rw [if_neg (show ¬ (false = true) by decide)] at H
           obtain rfl := Option.some.inj H
           go_wp2
           go_ret
           exact ⟨by rfl, by repeat ((with_reducible exact HB.out))⟩
      ·rw [if_neg c15] at H
       have c15b0 := decide_eq_false c15
       clear c15
       obtain rfl := Option.some.inj H
       go_wp2
       go_ret
       exact ⟨by rfl, Z.bs HB.out GE282.out⟩

end Go.Proofs.Ytcafckapdgaogaa.PAll

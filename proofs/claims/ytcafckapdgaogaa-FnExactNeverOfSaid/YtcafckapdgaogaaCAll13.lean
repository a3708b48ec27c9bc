/- Walks of functions that All reaches, in the form of the print. -/
-- PRINTED
import Derived.Test.YtcafckapdgaogaaCAll12
namespace Go.Proofs.Ytcafckapdgaogaa.PAll
open Go.RowKit Go.Proofs.YtcafckapdgaogaaW.PrintWords Go.Proofs.YtcafckapdgaogaaW.PrintLast Go.Proofs.YtcafckapdgaogaaW.PrintMore
attribute [local go_sem] max2_int min2_int max_two min_two max_three min_three max_four min_four
set_option linter.unusedVariables false
set_option linter.unusedSimpArgs false

/-! ### impl_isCharter: function 74 -/
mutual
def impl_isCharter.j0 : Nat → Bool → Int → List Int → List (List (S86)) → Option (Bool)
 | 0, _, _, _, _ => none
 | k + 1, x22, x289000, x289001, x289002 => if x22 = true then (some false) else (impl_isCharter.l0 k x289002 (x289002.length : Int) 0 x289000 x289001 x289002)
def impl_isCharter.l0 : Nat → List (List (S86)) → Int → Int → Int → List Int → List (List (S86)) → Option (Bool)
 | 0, _, _, _, _, _, _ => none
 | k + 1, x24, x25, x26, x289000, x289001, x289002 => if x26 < x25 then (if 0 ≤ x26 then (if x26 < (x24.length : Int) then (if ((rd_L9 x24 x26).length : Int) < 1 then (impl_isCharter.j2 k x26 (rd_L9 x24 x26) x24 x25 x26 true x289000 x289001 x289002) else (impl_isCharter.j2 k x26 (rd_L9 x24 x26) x24 x25 x26 (decide (((rd_L9 x24 x26).length : Int) > 3)) x289000 x289001 x289002)) else (none)) else (none)) else (some true)
def impl_isCharter.j2 : Nat → Int → List (S86) → List (List (S86)) → Int → Int → Bool → Int → List Int → List (List (S86)) → Option (Bool)
 | 0, _, _, _, _, _, _, _, _, _ => none
 | k + 1, x3, x4, x24, x25, x26, x38, x289000, x289001, x289002 => if x38 = true then (some false) else (impl_isCharter.l1 k x3 x24 x25 x26 x4 (x4.length : Int) 0 x289000 x289001 x289002)
def impl_isCharter.l1 : Nat → Int → List (List (S86)) → Int → Int → List (S86) → Int → Int → Int → List Int → List (List (S86)) → Option (Bool)
 | 0, _, _, _, _, _, _, _, _, _, _ => none
 | k + 1, x3, x24, x25, x26, x39, x40, x41, x289000, x289001, x289002 => if x41 < x40 then (if 0 ≤ x41 then (if x41 < (x39.length : Int) then ((impl_isTerm.f k x289000 x289001 ((rd_T86 x39 x41).f0)).bind fun t293 => (if t293 = true then (if ((rd_T86 x39 x41).f1) = (-1) then (impl_isCharter.j4 k x3 x24 x25 x26 x39 x40 x41 (((rd_T86 x39 x41).f2) == 0) x289000 x289001 x289002 ((rd_T86 x39 x41).f0) ((rd_T86 x39 x41).f1) ((rd_T86 x39 x41).f2)) else (impl_isCharter.j4 k x3 x24 x25 x26 x39 x40 x41 false x289000 x289001 x289002 ((rd_T86 x39 x41).f0) ((rd_T86 x39 x41).f1) ((rd_T86 x39 x41).f2))) else (some false))) else (none)) else (none)) else (impl_isCharter.l0 k x24 x25 (wrap64 (x26 + 1)) x289000 x289001 x289002)
def impl_isCharter.j4 : Nat → Int → List (List (S86)) → Int → Int → List (S86) → Int → Int → Bool → Int → List Int → List (List (S86)) → List (S134) → Int → Int → Option (Bool)
 | 0, _, _, _, _, _, _, _, _, _, _, _, _, _, _ => none
 | k + 1, x3, x24, x25, x26, x39, x40, x41, x58, x289000, x289001, x289002, x293000, x293001, x293002 => if x58 = true then (impl_isCharter.l1 k x3 x24 x25 x26 x39 x40 (wrap64 (x41 + 1)) x289000 x289001 x289002) else (if x293001 < 0 then (some false) else (if x293001 ≥ (x289002.length : Int) then (some false) else (if x293001 = x3 then (some false) else (if x293002 < 0 then (some false) else (if 0 ≤ x293001 then (if x293001 < (x289002.length : Int) then (if x293002 ≥ ((rd_L9 x289002 x293001).length : Int) then (some false) else (impl_isCharter.l1 k x3 x24 x25 x26 x39 x40 (wrap64 (x41 + 1)) x289000 x289001 x289002)) else (none)) else (none))))))
end
def impl_isCharter.f (k : Nat) (a0_0 : Int) (l0_1 : List Int) (l0_2 : List (List (S86))) : Option (Bool) := (impl_isHouse.f k a0_0 l0_1).bind fun t289 => (if t289 = true then (if (l0_2.length : Int) < 1 then (impl_isCharter.j0 k true a0_0 l0_1 l0_2) else (impl_isCharter.j0 k (decide ((l0_2.length : Int) > 3)) a0_0 l0_1 l0_2)) else (impl_isCharter.j0 k true a0_0 l0_1 l0_2))
theorem impl_isCharter.mono_l : ∀ k, (∀ y0 y1 y2 y3, LeO (impl_isCharter.j0 k y0 y1 y2 y3) (impl_isCharter.j0 (k + 1) y0 y1 y2 y3)) ∧ (∀ y0 y1 y2 y3 y4 y5, LeO (impl_isCharter.l0 k y0 y1 y2 y3 y4 y5) (impl_isCharter.l0 (k + 1) y0 y1 y2 y3 y4 y5)) ∧ (∀ y0 y1 y2 y3 y4 y5 y6 y7 y8, LeO (impl_isCharter.j2 k y0 y1 y2 y3 y4 y5 y6 y7 y8) (impl_isCharter.j2 (k + 1) y0 y1 y2 y3 y4 y5 y6 y7 y8)) ∧ (∀ y0 y1 y2 y3 y4 y5 y6 y7 y8 y9, LeO (impl_isCharter.l1 k y0 y1 y2 y3 y4 y5 y6 y7 y8 y9) (impl_isCharter.l1 (k + 1) y0 y1 y2 y3 y4 y5 y6 y7 y8 y9)) ∧ (∀ y0 y1 y2 y3 y4 y5 y6 y7 y8 y9 y10 y11 y12 y13, LeO (impl_isCharter.j4 k y0 y1 y2 y3 y4 y5 y6 y7 y8 y9 y10 y11 y12 y13) (impl_isCharter.j4 (k + 1) y0 y1 y2 y3 y4 y5 y6 y7 y8 y9 y10 y11 y12 y13))
 | 0 => ⟨fun _ _ _ _ r h => by simp [impl_isCharter.j0] at h, fun _ _ _ _ _ _ r h => by simp [impl_isCharter.l0] at h, fun _ _ _ _ _ _ _ _ _ r h => by simp [impl_isCharter.j2] at h, fun _ _ _ _ _ _ _ _ _ _ r h => by simp [impl_isCharter.l1] at h, fun _ _ _ _ _ _ _ _ _ _ _ _ _ _ r h => by simp [impl_isCharter.j4] at h⟩
 | k + 1 => by
  obtain ⟨ih0, ih1, ih2, ih3, ih4⟩ := impl_isCharter.mono_l k
  refine ⟨?_, ?_, ?_, ?_, ?_⟩
  ·intro y0 y1 y2 y3
   unfold impl_isCharter.j0
   repeat' first
   | (with_reducible exact LeO.refl _)
   | exact ih0 _ _ _ _
   | exact ih1 _ _ _ _ _ _
   | exact ih2 _ _ _ _ _ _ _ _ _
   | exact ih3 _ _ _ _ _ _ _ _ _ _
   | exact ih4 _ _ _ _ _ _ _ _ _ _ _ _ _ _
   | exact impl_isHouse.mono _ _ _
   | exact impl_isTerm.mono _ _ _ _
   | exact LeO.none _
   | refine LeO.ite ?_ ?_
   | refine LeO.bind ?_ (fun _ => ?_)
  ·intro y0 y1 y2 y3 y4 y5
   unfold impl_isCharter.l0
   repeat' first
   | (with_reducible exact LeO.refl _)
   | exact ih0 _ _ _ _
   | exact ih1 _ _ _ _ _ _
   | exact ih2 _ _ _ _ _ _ _ _ _
   | exact ih3 _ _ _ _ _ _ _ _ _ _
   | exact ih4 _ _ _ _ _ _ _ _ _ _ _ _ _ _
   | exact impl_isHouse.mono _ _ _
   | exact impl_isTerm.mono _ _ _ _
   | exact LeO.none _
   | refine LeO.ite ?_ ?_
   | refine LeO.bind ?_ (fun _ => ?_)
  ·intro y0 y1 y2 y3 y4 y5 y6 y7 y8
   unfold impl_isCharter.j2
   repeat' first
   | (with_reducible exact LeO.refl _)
   | exact ih0 _ _ _ _
   | exact ih1 _ _ _ _ _ _
   | exact ih2 _ _ _ _ _ _ _ _ _
   | exact ih3 _ _ _ _ _ _ _ _ _ _
   | exact ih4 _ _ _ _ _ _ _ _ _ _ _ _ _ _
   | exact impl_isHouse.mono _ _ _
   | exact impl_isTerm.mono _ _ _ _
   | exact LeO.none _
   | refine LeO.ite ?_ ?_
   | refine LeO.bind ?_ (fun _ => ?_)
  ·intro y0 y1 y2 y3 y4 y5 y6 y7 y8 y9
   unfold impl_isCharter.l1
   repeat' first
   | (with_reducible exact LeO.refl _)
   | exact ih0 _ _ _ _
   | exact ih1 _ _ _ _ _ _
   | exact ih2 _ _ _ _ _ _ _ _ _
   | exact ih3 _ _ _ _ _ _ _ _ _ _
   | exact ih4 _ _ _ _ _ _ _ _ _ _ _ _ _ _
   | exact impl_isHouse.mono _ _ _
   | exact impl_isTerm.mono _ _ _ _
   | exact LeO.none _
   | refine LeO.ite ?_ ?_
   | refine LeO.bind ?_ (fun _ => ?_)
  ·intro y0 y1 y2 y3 y4 y5 y6 y7 y8 y9 y10 y11 y12 y13
   unfold impl_isCharter.j4
   repeat' first
   | (with_reducible exact LeO.refl _)
   | exact ih0 _ _ _ _
   | exact ih1 _ _ _ _ _ _
   | exact ih2 _ _ _ _ _ _ _ _ _
   | exact ih3 _ _ _ _ _ _ _ _ _ _
   | exact ih4 _ _ _ _ _ _ _ _ _ _ _ _ _ _
   | exact impl_isHouse.mono _ _ _
   | exact impl_isTerm.mono _ _ _ _
   | exact LeO.none _
   | refine LeO.ite ?_ ?_
   | refine LeO.bind ?_ (fun _ => ?_)
theorem impl_isCharter.mono : ∀ a0 a1 a2 k, LeO (impl_isCharter.f k a0 a1 a2) (impl_isCharter.f (k + 1) a0 a1 a2) := by
 intro a0 a1 a2 k
 obtain ⟨ih0, ih1, ih2, ih3, ih4⟩ := impl_isCharter.mono_l k
 unfold impl_isCharter.f
 repeat' first
   | (with_reducible exact LeO.refl _)
   | exact ih0 _ _ _ _
   | exact ih1 _ _ _ _ _ _
   | exact ih2 _ _ _ _ _ _ _ _ _
   | exact ih3 _ _ _ _ _ _ _ _ _ _
   | exact ih4 _ _ _ _ _ _ _ _ _ _ _ _ _ _
   | exact impl_isHouse.mono _ _ _
   | exact impl_isTerm.mono _ _ _ _
   | exact LeO.none _
   | refine LeO.ite ?_ ?_
   | refine LeO.bind ?_ (fun _ => ?_)
set_option maxHeartbeats 8000000 in
set_option maxRecDepth 100000 in
theorem impl_isCharter.calls (k : Nat) (a0_0 : Int) (A0_1 : Option Addr) (c0_1 : Nat) (l0_1 : List Int) (A0_2 : Option Addr) (c0_2 : Nat) (l0_2 : List (List (S86))) (r : Bool) (w : World) (hr0_1 : Kd.C (Kd.int .i64) w A0_1 l0_1.length l0_1) (hc0_1 : l0_1.length ≤ c0_1) (hr0_2 : Kd.C (Kd.slice 86 k86) w A0_2 l0_2.length l0_2) (hc0_2 : l0_2.length ≤ c0_2) (h : impl_isCharter.f k a0_0 l0_1 l0_2 = some r) :
  Calls Try.prog 74 #[.agg #[.int .i64 a0_0, .slice A0_1 l0_1.length c0_1, .slice A0_2 l0_2.length c0_2]] w fun e w' => e = .returned (.bool r) ∧ Below w.heap.size w w' := by
 have hu35 := Try.underlying35
 have hu32 := Try.underlying32
 have hu86 := Try.underlying86
 have HR0_1 := Aside0.mk hr0_1
 have HC0_1 := Aside0.mk hc0_1
 clear hr0_1 hc0_1
 have HR0_2 := Aside0.mk hr0_2
 have HC0_2 := Aside0.mk hc0_2
 clear hr0_2 hc0_2
 have HB := Aside0.mk (Below.refl w.heap.size w)
 have H := h
 clear h
 unfold impl_isCharter.f at H
 have HC2 := Aside0.mk H
 clear H
 go_enter Try.func74, Try.ntmps74
 go_upto_region 1 with (((with_reducible refine gate_dst (N := 1) rfl ?_); (try (refine gate_guard (by rfl) ?_; dsimp only)); refine Z.bx #[.int .i64 a0_0, .slice A0_1 l0_1.length c0_1, .slice A0_2 l0_2.length c0_2] 35 HB ?_; clear HB; intro gb288 w3 BK288 GE288 HB hg hb; have GW288 := GE288; clear hb hg))
 go_cut [22] (fun v22 wc => ∃ (kq : Nat) (x22_1 : Bool), v22 = .bool x22_1 ∧ Aside0 (impl_isCharter.j0 kq x22_1 a0_0 l0_1 l0_2 = some r) ∧ Aside0 (kq ≤ k) ∧ Aside0 (wc.heap[gb288]? = some (.cells #[.int .i64 a0_0, (.slice A0_1 l0_1.length c0_1), (.slice A0_2 l0_2.length c0_2)] 35 (0, 0))) ∧ Aside0 (Below w.heap.size w wc))
 case first =>
  have H := HC2.out
  clear HC2
  replace H := Option.bind_eq_some_iff.mp H
  obtain ⟨t289, A40, H⟩ := H
  have A4 := Aside0.mk A40
  clear A40
  by_cases c5 : t289 = true
  ·subst c5
   rw [if_pos rfl] at H
   by_cases c6 : (l0_2.length : Int) < 1
   ·rw [if_pos c6] at H
    have c6b0 := decide_eq_true c6
    have c6b1 : decide (l0_2.length < 1) = true := decide_eq_true (by omega)
    clear c6
    have H' := Aside0.mk H
    clear H
    have hcz7 := Z.c3 BK288.out
    go_wp2_with ((go_at_call 110; (with_reducible refine (impl_isHouse.calls k a0_0 _ _ l0_1 true _ ?q1 ?q2 A4.out).mono ?_); (case q1 => exact Z.cc HR0_1 HB); (case q2 => exact HC0_1.out); rintro e w8 ⟨rfl, hb⟩; replace BK288 := Z.bb BK288 hb; replace HB := Z.st (Z.bs HB.out GE288.out) hb; (try clear hb); have hcz9 := Z.c3 BK288.out))
    go_meet
    case rel => exact ⟨_, (true), (by rfl), H', ⟨by omega⟩, ⟨by (with_reducible skip); exact BK288.out⟩, ⟨Z.bs HB.out GE288.out⟩⟩
   ·rw [if_neg c6] at H
    have c6b0 := decide_eq_false c6
    have c6b1 : decide (l0_2.length < 1) = false := decide_eq_false (by omega)
    clear c6
    have H' := Aside0.mk H
    clear H
    have hcz10 := Z.c3 BK288.out
    go_wp2_with ((go_at_call 110; (with_reducible refine (impl_isHouse.calls k a0_0 _ _ l0_1 true _ ?q1 ?q2 A4.out).mono ?_); (case q1 => exact Z.cc HR0_1 HB); (case q2 => exact HC0_1.out); rintro e w11 ⟨rfl, hb⟩; replace BK288 := Z.bb BK288 hb; replace HB := Z.st (Z.bs HB.out GE288.out) hb; (try clear hb); have hcz12 := Z.c3 BK288.out))
    go_meet
    case rel => exact ⟨_, (decide ((l0_2.length : Int) > 3)), (by rfl), H', ⟨by omega⟩, ⟨by (with_reducible skip); exact BK288.out⟩, ⟨Z.bs HB.out GE288.out⟩⟩
  ·replace c5 := Bool.eq_false_iff.mpr c5
   subst c5
   rw [if_neg (show ¬ (false = true) by decide)] at H
   have H' := Aside0.mk H
   clear H
   have hcz13 := Z.c3 BK288.out
   go_wp2_with ((go_at_call 110; (with_reducible refine (impl_isHouse.calls k a0_0 _ _ l0_1 false _ ?q1 ?q2 A4.out).mono ?_); (case q1 => exact Z.cc HR0_1 HB); (case q2 => exact HC0_1.out); rintro e w14 ⟨rfl, hb⟩; replace BK288 := Z.bb BK288 hb; replace HB := Z.st (Z.bs HB.out GE288.out) hb; (try clear hb)))
   go_meet
   case rel => exact ⟨_, (true), (by rfl), H', ⟨by omega⟩, ⟨by (with_reducible skip); exact BK288.out⟩, ⟨Z.bs HB.out GE288.out⟩⟩
 case rest =>
  clear HC2
  obtain ⟨kq, x22_1, rfl, HA, HJ1, BK288, HB⟩ := hcut
  cases kq with
  | zero => exact absurd HA.out (by simp [impl_isCharter.j0])
  | succ kj1 =>
   have H := HA.out
   clear HA
   simp only [impl_isCharter.j0] at H
   by_cases c15 : x22_1 = true
   ·subst c15
    rw [if_pos rfl] at H
    obtain rfl := Option.some.inj H
    go_wp2
    go_ret
    exact ⟨by rfl, Z.bs HB.out GE288.out⟩
   ·replace c15 := Bool.eq_false_iff.mpr c15
    subst c15
    rw [if_neg (show ¬ (false = true) by decide)] at H
    have H' := Aside0.mk H
    clear H
    have hcz16 := Z.c3 BK288.out
    go_wp2
    go_loopg [26] kj1 (fun kq v26 w' => ∃ (x26_2 : Int), v26 = .int .i64 x26_2 ∧ Aside0 (impl_isCharter.l0 kq l0_2 (l0_2.length : Int) x26_2 a0_0 l0_1 l0_2 = some r) ∧ Aside0 (kq ≤ kj1) ∧ Aside0 (w'.heap[gb288]? = some (.cells #[.int .i64 a0_0, (.slice A0_1 l0_1.length c0_1), (.slice A0_2 l0_2.length c0_2)] 35 (0, 0))) ∧ Aside0 (Below w.heap.size w w'))
    case atStart => exact ⟨(0), (by rfl), H', ⟨Nat.le_refl _⟩, ⟨by (with_reducible skip); exact BK288.out⟩, ⟨Z.bs HB.out GE288.out⟩⟩
    case round =>
     clear H'
     obtain ⟨x26_2, rfl, HA, HK2, BK288, HB⟩ := hrel
     cases gk with
     | zero => exact absurd HA.out (by simp [impl_isCharter.l0])
     | succ k2 =>
      have H := HA.out
      clear HA
      simp only [impl_isCharter.l0] at H
      by_cases c17 : x26_2 < (l0_2.length : Int)
      ·rw [if_pos c17] at H
       have c17b0 := decide_eq_true c17
       clear c17
       obtain ⟨c18, H⟩ := Z.ifp H
       have c18b0 : decide (0 ≤ x26_2) = true := decide_eq_true c18
       clear c18
       obtain ⟨c19, H⟩ := Z.ifp H
       have c19b0 : decide (x26_2 < (l0_2.length : Int)) = true := decide_eq_true c19
       clear c19
       have HC20 := Aside0.mk H
       clear H
       have p290 : 0 ≤ (x26_2 : Int) := Z.od
       have q290 : x26_2 < (l0_2.length : Int) := Z.od
       obtain ⟨ad290, A290_0, c290_0, rfl, hx290_0, hl290_0, hi290_0⟩ := at_L9 HR0_2.out x26_2 p290 q290
       replace hx290_0 := Z.up HB.out hx290_0
       have HR290_0 := Aside0.mk hi290_0
       have HC290_0 := Aside0.mk hl290_0
       clear hi290_0 hl290_0
       replace p290 := eq_true p290
       replace q290 := eq_true q290
       go_upto_region 6 with (fail)
       go_cut [38] (fun v38 wc => ∃ (kq : Nat) (x38_19 : Bool), v38 = .bool x38_19 ∧ Aside0 (impl_isCharter.j2 kq x26_2 (rd_L9 l0_2 x26_2) l0_2 (l0_2.length : Int) x26_2 x38_19 a0_0 l0_1 l0_2 = some r) ∧ Aside0 (kq ≤ k2) ∧ Aside0 (wc.heap[gb288]? = some (.cells #[.int .i64 a0_0, (.slice A0_1 l0_1.length c0_1), (.slice (some ad290) l0_2.length c0_2)] 35 (0, 0))) ∧ Aside0 (Below w.heap.size w wc))
       case first =>
        have H := HC20.out
        clear HC20
        by_cases c21 : ((rd_L9 l0_2 x26_2).length : Int) < 1
        ·rw [if_pos c21] at H
         have c21b0 := decide_eq_true c21
         have c21b1 : decide ((rd_L9 l0_2 x26_2).length < 1) = true := decide_eq_true (by omega)
         clear c21
         have H' := Aside0.mk H
         clear H
         go_wp2
         go_meet
         case rel => exact ⟨_, (true), (by rfl), H', ⟨by have := HJ1.out; have := HK2.out; omega⟩, ⟨by (with_reducible skip); exact BK288.out⟩, ⟨Z.bs HB.out GE288.out⟩⟩
        ·rw [if_neg c21] at H
         have c21b0 := decide_eq_false c21
         have c21b1 : decide ((rd_L9 l0_2 x26_2).length < 1) = false := decide_eq_false (by omega)
         clear c21
         have H' := Aside0.mk H
         clear H
         go_wp2
         go_meet
         case rel => exact ⟨_, (decide (((rd_L9 l0_2 x26_2).length : Int) > 3)), (by rfl), H', ⟨by have := HJ1.out; have := HK2.out; omega⟩, ⟨by (with_reducible skip); exact BK288.out⟩, ⟨Z.bs HB.out GE288.out⟩⟩
       case rest =>
        clear HC20
        try clear c17b0
        try clear c18b0
        try clear c19b0
        try clear hx290_0
        try clear p290
        try clear q290
        obtain ⟨kq, x38_19, rfl, HA, HJ19, BK288, HB⟩ := hcut
        cases kq with
        | zero => exact absurd HA.out (by simp [impl_isCharter.j2])
        | succ kj19 =>
         have H := HA.out
         clear HA
         simp only [impl_isCharter.j2] at H
         by_cases c22 : x38_19 = true
         ·subst c22
          rw [if_pos rfl] at H
          obtain rfl := Option.some.inj H
          go_wp2
          go_ret
          exact ⟨by rfl, Z.bs HB.out GE288.out⟩
         ·replace c22 := Bool.eq_false_iff.mpr c22
          subst c22
          rw [if_neg (show ¬ (false = true) by decide)] at H
          have H' := Aside0.mk H
          clear H
          go_wp2
          go_loopg [41] kj19 (fun kq v41 w' => ∃ (x41_4 : Int), v41 = .int .i64 x41_4 ∧ Aside0 (impl_isCharter.l1 kq x26_2 l0_2 (l0_2.length : Int) x26_2 (rd_L9 l0_2 x26_2) ((rd_L9 l0_2 x26_2).length : Int) x41_4 a0_0 l0_1 l0_2 = some r) ∧ Aside0 (kq ≤ kj19) ∧ Aside0 (w'.heap[gb288]? = some (.cells #[.int .i64 a0_0, (.slice A0_1 l0_1.length c0_1), (.slice (some ad290) l0_2.length c0_2)] 35 (0, 0))) ∧ Aside0 (Below w.heap.size w w'))
          case atStart => exact ⟨(0), (by rfl), H', ⟨Nat.le_refl _⟩, ⟨by (with_reducible skip); exact BK288.out⟩, ⟨Z.bs HB.out GE288.out⟩⟩
          case round =>
           clear H'
           obtain ⟨x41_4, rfl, HA, HK4, BK288, HB⟩ := hrel
           cases gk with
           | zero => exact absurd HA.out (by simp [impl_isCharter.l1])
           | succ k4 =>
            have H := HA.out
            clear HA
            simp only [impl_isCharter.l1] at H
            by_cases c23 : x41_4 < ((rd_L9 l0_2 x26_2).length : Int)
            ·rw [if_pos c23] at H
             have c23b0 := decide_eq_true c23
             clear c23
             obtain ⟨c24, H⟩ := Z.ifp H
             have c24b0 : decide (0 ≤ x41_4) = true := decide_eq_true c24
             clear c24
             obtain ⟨c25, H⟩ := Z.ifp H
             have c25b0 : decide (x41_4 < ((rd_L9 l0_2 x26_2).length : Int)) = true := decide_eq_true c25
             clear c25
             replace H := Option.bind_eq_some_iff.mp H
             obtain ⟨t293, A260, H⟩ := H
             have A26 := Aside0.mk A260
             clear A260
             by_cases c27 : t293 = true
             ·subst c27
              rw [if_pos rfl] at H
              have HC28 := Aside0.mk H
              clear H
              have p291 : 0 ≤ (x41_4 : Int) := Z.od
              have q291 : x41_4 < ((rd_L9 l0_2 x26_2).length : Int) := Z.od
              obtain ⟨ad291, A291_0, c291_0, rfl, hx291_0, hx291_1, hx291_2, hl291_0, hi291_0⟩ := at_T86 HR290_0.out x41_4 p291 q291
              replace hx291_0 := Z.up HB.out hx291_0
              replace hx291_1 := Z.up HB.out hx291_1
              replace hx291_2 := Z.up HB.out hx291_2
              have HR291_0 := Aside0.mk hi291_0
              have HC291_0 := Aside0.mk hl291_0
              clear hi291_0 hl291_0
              replace p291 := eq_true p291
              replace q291 := eq_true q291
              go_upto_region 13 with (first | ((with_reducible refine gate_dst (N := 6) rfl ?_); (try (refine gate_guard (by rfl) ?_; dsimp only)); refine Z.bz #[.slice none 0 0, .int .i64 0, .int .i64 0] 86 HB GE288 ?_; clear HB; intro gb292 w29 BK292 GE292 HB hg hb; have GW292 := GE292; have NB288_292 := Z.nl hg BK288; have NB292_288 := Z.ng hg BK288; replace BK288 := Z.bb BK288 hb; clear hb hg; have hnb30 := NB292_288.out; have hnc30 := NB288_292.out; have hcz31 := Z.c3 BK292.out; have hcz32 := Z.c3 BK288.out) | (go_at_call 111; (with_reducible refine (impl_isTerm.calls k4 a0_0 _ _ l0_1 _ _ ((rd_T86 (rd_L9 l0_2 x26_2) x41_4).f0) true _ ?q1 ?q2 ?q3 ?q4 A26.out).mono ?_); (case q1 => exact Kd.C_below HR0_1.out (by repeat ((with_reducible first | exact HB.out | refine below_set ?_ GE292.out)))); (case q2 => exact HC0_1.out); (case q3 => exact Kd.C_below HR291_0.out (by repeat ((with_reducible first | exact HB.out | refine below_set ?_ GE292.out)))); (case q4 => exact HC291_0.out); rintro e w33 ⟨rfl, hb⟩; replace BK288 := Aside0.mk (blk_below (g := gb288) (o := .cells #[.int .i64 a0_0, .slice A0_1 l0_1.length c0_1, .slice (some ad290) l0_2.length c0_2] 35 (0, 0)) (by (with_reducible skip); refine blk_far ?_ NB288_292.out _; (with_reducible skip); refine blk_far ?_ NB288_292.out _; (with_reducible skip); refine blk_far ?_ NB288_292.out _; (with_reducible skip); exact BK288.out) hb); replace BK292 := Aside0.mk (blk_below (g := gb292) (o := .cells #[.slice A291_0 ((rd_T86 (rd_L9 l0_2 x26_2) x41_4).f0).length c291_0, .int .i64 ((rd_T86 (rd_L9 l0_2 x26_2) x41_4).f1), .int .i64 ((rd_T86 (rd_L9 l0_2 x26_2) x41_4).f2)] 86 (0, 0)) (by (with_reducible skip); refine blk_put (cs := #[.slice A291_0 ((rd_T86 (rd_L9 l0_2 x26_2) x41_4).f0).length c291_0, .int .i64 ((rd_T86 (rd_L9 l0_2 x26_2) x41_4).f1), .int .i64 0]) ?_ 2 _ rfl; (with_reducible skip); refine blk_put (cs := #[.slice A291_0 ((rd_T86 (rd_L9 l0_2 x26_2) x41_4).f0).length c291_0, .int .i64 0, .int .i64 0]) ?_ 1 _ rfl; (with_reducible skip); refine blk_put (cs := #[.slice none 0 0, .int .i64 0, .int .i64 0]) ?_ 0 _ rfl; (with_reducible skip); exact BK292.out) hb); replace HB := Aside0.mk (below_step (by repeat ((with_reducible first | exact HB.out | refine below_set ?_ GE292.out))) hb); (try clear hb)))
              go_cut [58] (fun v58 wc => ∃ (kq : Nat) (x58_27 : Bool), v58 = .bool x58_27 ∧ Aside0 (impl_isCharter.j4 kq x26_2 l0_2 (l0_2.length : Int) x26_2 (rd_L9 l0_2 x26_2) ((rd_L9 l0_2 x26_2).length : Int) x41_4 x58_27 a0_0 l0_1 l0_2 ((rd_T86 (rd_L9 l0_2 x26_2) x41_4).f0) ((rd_T86 (rd_L9 l0_2 x26_2) x41_4).f1) ((rd_T86 (rd_L9 l0_2 x26_2) x41_4).f2) = some r) ∧ Aside0 (kq ≤ k4) ∧ Aside0 (wc.heap[gb288]? = some (.cells #[.int .i64 a0_0, (.slice A0_1 l0_1.length c0_1), (.slice (some ad290) l0_2.length c0_2)] 35 (0, 0))) ∧ Aside0 (wc.heap[gb292]? = some (.cells #[(.slice A291_0 ((rd_T86 (rd_L9 l0_2 x26_2) x41_4).f0).length c291_0), .int .i64 ((rd_T86 (rd_L9 l0_2 x26_2) x41_4).f1), .int .i64 ((rd_T86 (rd_L9 l0_2 x26_2) x41_4).f2)] 86 (0, 0))) ∧ Aside0 (Below w.heap.size w wc))
              case first =>
               have H := HC28.out
               clear HC28
               by_cases c34 : ((rd_T86 (rd_L9 l0_2 x26_2) x41_4).f1) = (-1)
               ·rw [if_pos c34] at H
                have c34b0 : (((rd_T86 (rd_L9 l0_2 x26_2) x41_4).f1) == (-1)) = true := beq_iff_eq.mpr c34
                have c34b1 : (((rd_T86 (rd_L9 l0_2 x26_2) x41_4).f1) != (-1)) = false := bne_eq_false_iff_eq.mpr c34
                clear c34
                have H' := Aside0.mk H
                clear H
                have hnb35 := NB292_288.out
                have hnc35 := NB288_292.out
                have hcz36 := Z.c3 BK292.out
                go_wp2
                go_meet
                case rel => exact ⟨_, ((((rd_T86 (rd_L9 l0_2 x26_2) x41_4).f2) == 0)), (by rfl), H', ⟨by have := HJ1.out; have := HK2.out; have := HJ19.out; have := HK4.out; omega⟩, ⟨by (with_reducible skip); exact BK288.out⟩, ⟨by (with_reducible skip); exact BK292.out⟩, ⟨by repeat ((with_reducible exact HB.out))⟩⟩
               ·rw [if_neg c34] at H
                have c34b0 : (((rd_T86 (rd_L9 l0_2 x26_2) x41_4).f1) == (-1)) = false := beq_eq_false_iff_ne.mpr c34
                have c34b1 : (((rd_T86 (rd_L9 l0_2 x26_2) x41_4).f1) != (-1)) = true := bne_iff_ne.mpr c34
                have H' := Aside0.mk H
                clear H
                have hnb37 := NB292_288.out
                have hnc37 := NB288_292.out
                have hcz38 := Z.c3 BK292.out
                go_wp2
                go_meet
                case rel => exact ⟨_, (false), (by rfl), H', ⟨by have := HJ1.out; have := HK2.out; have := HJ19.out; have := HK4.out; omega⟩, ⟨by (with_reducible skip); exact BK288.out⟩, ⟨by (with_reducible skip); exact BK292.out⟩, ⟨by repeat ((with_reducible exact HB.out))⟩⟩
              case rest =>
               clear HC28
               try clear c23b0
               try clear c24b0
               try clear c25b0
               try clear hx291_0
               try clear hx291_1
               try clear hx291_2
               try clear p291
               try clear q291
               obtain ⟨kq, x58_27, rfl, HA, HJ27, BK288, BK292, HB⟩ := hcut
               cases kq with
               | zero => exact absurd HA.out (by simp [impl_isCharter.j4])
               | succ kj27 =>
                have H := HA.out
                clear HA
                simp only [impl_isCharter.j4] at H
                by_cases c39 : x58_27 = true
                ·subst c39
                 rw [if_pos rfl] at H
                 have H' := Aside0.mk H
                 clear H
                 go_wp2
                 go_roundg kj27
                 case measure => have := HJ1.out; have := HK2.out; have := HJ19.out; have := HK4.out; have := HJ27.out; omega
                 case rel => exact ⟨(wrap64 (x41_4 + 1)), (by rfl), H', ⟨by have := HJ1.out; have := HK2.out; have := HJ19.out; have := HK4.out; have := HJ27.out; omega⟩, ⟨by (with_reducible skip); exact BK288.out⟩, ⟨by repeat ((with_reducible exact HB.out))⟩⟩
                ·replace c39 := Bool.eq_false_iff.mpr c39
                 subst c39
                 rw [if_neg (show ¬ (false = true) by decide)] at H
                 by_cases c40 : ((rd_T86 (rd_L9 l0_2 x26_2) x41_4).f1) < 0
                 ·rw [if_pos c40] at H
                  have c40b0 := decide_eq_true c40
                  clear c40
                  obtain rfl := Option.some.inj H
                  have hnb41 := NB292_288.out
                  have hnc41 := NB288_292.out
                  have hcz42 := Z.c3 BK292.out
                  go_wp2
                  repeat (go_quiet (fail); try go_wp2)
                  go_ret
                  exact ⟨by rfl, by repeat ((with_reducible first | exact HB.out | apply pw_below_drewN))⟩
                 ·rw [if_neg c40] at H
                  have c40b0 := decide_eq_false c40
                  clear c40
                  by_cases c43 : ((rd_T86 (rd_L9 l0_2 x26_2) x41_4).f1) ≥ (l0_2.length : Int)
                  ·rw [if_pos c43] at H
                   have c43b0 : decide ((l0_2.length : Int) ≤ ((rd_T86 (rd_L9 l0_2 x26_2) x41_4).f1)) = true := decide_eq_true c43
                   clear c43
                   obtain rfl := Option.some.inj H
                   have hnb44 := NB292_288.out
                   have hnc44 := NB288_292.out
                   have hcz45 := Z.c3 BK292.out
                   have hcz46 := Z.c3 BK288.out
                   go_wp2
                   repeat (go_quiet (fail); try go_wp2)
                   go_ret
                   exact ⟨by rfl, by repeat ((with_reducible first | exact HB.out | apply pw_below_drewN))⟩
                  ·rw [if_neg c43] at H
                   have c43b0 : decide ((l0_2.length : Int) ≤ ((rd_T86 (rd_L9 l0_2 x26_2) x41_4).f1)) = false := decide_eq_false c43
                   clear c43
                   by_cases c47 : ((rd_T86 (rd_L9 l0_2 x26_2) x41_4).f1) = x26_2
                   ·rw [if_pos c47] at H
                    have c47b0 : (((rd_T86 (rd_L9 l0_2 x26_2) x41_4).f1) == x26_2) = true := beq_iff_eq.mpr c47
                    have c47b1 : (((rd_T86 (rd_L9 l0_2 x26_2) x41_4).f1) != x26_2) = false := bne_eq_false_iff_eq.mpr c47
                    clear c47
                    obtain rfl := Option.some.inj H
                    have hnb48 := NB292_288.out
                    have hnc48 := NB288_292.out
                    have hcz49 := Z.c3 BK292.out
                    have hcz50 := Z.c3 BK288.out
                    go_wp2
                    repeat (go_quiet (fail); try go_wp2)
                    go_ret
                    exact ⟨by rfl, by repeat ((with_reducible first | exact HB.out | apply pw_below_drewN))⟩
                   ·rw [if_neg c47] at H
                    have c47b0 : (((rd_T86 (rd_L9 l0_2 x26_2) x41_4).f1) == x26_2) = false := beq_eq_false_iff_ne.mpr c47
                    have c47b1 : (((rd_T86 (rd_L9 l0_2 x26_2) x41_4).f1) != x26_2) = true := bne_iff_ne.mpr c47
                    by_cases c51 : ((rd_T86 (rd_L9 l0_2 x26_2) x41_4).f2) < 0
                    ·rw [if_pos c51] at H
                     have c51b0 := decide_eq_true c51
                     clear c51
                     obtain rfl := Option.some.inj H
                     have hnb52 := NB292_288.out
                     have hnc52 := NB288_292.out
                     have hcz53 := Z.c3 BK292.out
                     have hcz54 := Z.c3 BK288.out
                     go_wp2
                     repeat (go_quiet (fail); try go_wp2)
                     go_ret
                     exact ⟨by rfl, by repeat ((with_reducible first | exact HB.out | apply pw_below_drewN))⟩
                    ·rw [if_neg c51] at H
                     have c51b0 := decide_eq_false c51
                     clear c51
                     obtain ⟨c55, H⟩ := Z.ifp H
                     have c55b0 : decide (0 ≤ ((rd_T86 (rd_L9 l0_2 x26_2) x41_4).f1)) = true := decide_eq_true c55
                     clear c55
                     obtain ⟨c56, H⟩ := Z.ifp H
                     have c56b0 : decide (((rd_T86 (rd_L9 l0_2 x26_2) x41_4).f1) < (l0_2.length : Int)) = true := decide_eq_true c56
                     clear c56
                     by_cases c57 : ((rd_T86 (rd_L9 l0_2 x26_2) x41_4).f2) ≥ ((rd_L9 l0_2 ((rd_T86 (rd_L9 l0_2 x26_2) x41_4).f1)).length : Int)
                     ·rw [if_pos c57] at H
                      have c57b0 : decide (((rd_L9 l0_2 ((rd_T86 (rd_L9 l0_2 x26_2) x41_4).f1)).length : Int) ≤ ((rd_T86 (rd_L9 l0_2 x26_2) x41_4).f2)) = true := decide_eq_true c57
                      clear c57
                      obtain rfl := Option.some.inj H
                      have hnb58 := NB292_288.out
                      have hnc58 := NB288_292.out
                      have hcz59 := Z.c3 BK292.out
                      have hcz60 := Z.c3 BK288.out
                      have p294 : 0 ≤ (((rd_T86 (rd_L9 l0_2 x26_2) x41_4).f1) : Int) := Z.od
                      have q294 : ((rd_T86 (rd_L9 l0_2 x26_2) x41_4).f1) < (l0_2.length : Int) := Z.od
                      obtain ⟨ad294, A294_0, c294_0, e294, hx294_0, hl294_0, hi294_0⟩ := at_L9 HR0_2.out ((rd_T86 (rd_L9 l0_2 x26_2) x41_4).f1) p294 q294
                      obtain rfl : ad290 = ad294 := (by injection e294)
                      replace hx294_0 := Z.up HB.out hx294_0
                      have HR294_0 := Aside0.mk hi294_0
                      have HC294_0 := Aside0.mk hl294_0
                      clear hi294_0 hl294_0
                      replace p294 := eq_true p294
                      replace q294 := eq_true q294
                      go_wp2
                      repeat (go_quiet (fail); try go_wp2)
                      go_ret
                      exact ⟨by rfl, by repeat ((with_reducible first | exact HB.out | apply pw_below_drewN))⟩
                     ·rw [if_neg c57] at H
                      have c57b0 : decide (((rd_L9 l0_2 ((rd_T86 (rd_L9 l0_2 x26_2) x41_4).f1)).length : Int) ≤ ((rd_T86 (rd_L9 l0_2 x26_2) x41_4).f2)) = false := decide_eq_false c57
                      clear c57
                      have H' := Aside0.mk H
                      clear H
                      have hnb61 := NB292_288.out
                      have hnc61 := NB288_292.out
                      have hcz62 := Z.c3 BK292.out
                      have hcz63 := Z.c3 BK288.out
                      have p294 : 0 ≤ (((rd_T86 (rd_L9 l0_2 x26_2) x41_4).f1) : Int) := Z.od
                      have q294 : ((rd_T86 (rd_L9 l0_2 x26_2) x41_4).f1) < (l0_2.length : Int) := Z.od
                      obtain ⟨ad294, A294_0, c294_0, e294, hx294_0, hl294_0, hi294_0⟩ := at_L9 HR0_2.out ((rd_T86 (rd_L9 l0_2 x26_2) x41_4).f1) p294 q294
                      obtain rfl : ad290 = ad294 := (by injection e294)
                      replace hx294_0 := Z.up HB.out hx294_0
                      have HR294_0 := Aside0.mk hi294_0
                      have HC294_0 := Aside0.mk hl294_0
                      clear hi294_0 hl294_0
                      replace p294 := eq_true p294
                      replace q294 := eq_true q294
                      go_wp2
                      repeat (go_quiet (fail); try go_wp2)
                      go_roundg kj27
                      case measure => have := HJ1.out; have := HK2.out; have := HJ19.out; have := HK4.out; have := HJ27.out; omega
                      case rel => exact ⟨(wrap64 (x41_4 + 1)), (by rfl), H', ⟨by have := HJ1.out; have := HK2.out; have := HJ19.out; have := HK4.out; have := HJ27.out; omega⟩, ⟨by (with_reducible repeat (refine blk_drewN ?_ _)); exact BK288.out⟩, ⟨by repeat ((with_reducible first | exact HB.out | apply pw_below_drewN))⟩⟩
             ·replace c27 := Bool.eq_false_iff.mpr c27
              subst c27
              rw [if_neg (show ¬ (false = true) by decide)] at H
              obtain rfl := Option.some.inj H
              have p291 : 0 ≤ (x41_4 : Int) := Z.od
              have q291 : x41_4 < ((rd_L9 l0_2 x26_2).length : Int) := Z.od
              obtain ⟨ad291, A291_0, c291_0, rfl, hx291_0, hx291_1, hx291_2, hl291_0, hi291_0⟩ := at_T86 HR290_0.out x41_4 p291 q291
              replace hx291_0 := Z.up HB.out hx291_0
              replace hx291_1 := Z.up HB.out hx291_1
              replace hx291_2 := Z.up HB.out hx291_2
              have HR291_0 := Aside0.mk hi291_0
              have HC291_0 := Aside0.mk hl291_0
              clear hi291_0 hl291_0
              replace p291 := eq_true p291
              replace q291 := eq_true q291
              go_wp2_with (first | ((with_reducible refine gate_dst (N := 6) rfl ?_); (try (refine gate_guard (by rfl) ?_; dsimp only)); refine Z.bz #[.slice none 0 0, .int .i64 0, .int .i64 0] 86 HB GE288 ?_; clear HB; intro gb292 w64 BK292 GE292 HB hg hb; have GW292 := GE292; have NB288_292 := Z.nl hg BK288; have NB292_288 := Z.ng hg BK288; replace BK288 := Z.bb BK288 hb; clear hb hg; have hnb65 := NB292_288.out; have hnc65 := NB288_292.out; have hcz66 := Z.c3 BK292.out; have hcz67 := Z.c3 BK288.out) | (go_at_call 111; (with_reducible refine (impl_isTerm.calls k4 a0_0 _ _ l0_1 _ _ ((rd_T86 (rd_L9 l0_2 x26_2) x41_4).f0) false _ ?q1 ?q2 ?q3 ?q4 A26.out).mono ?_); (case q1 => exact Kd.C_below HR0_1.out (by repeat ((with_reducible first | exact HB.out | refine below_set ?_ GE292.out)))); (case q2 => exact HC0_1.out); (case q3 => exact Kd.C_below HR291_0.out (by repeat ((with_reducible first | exact HB.out | refine below_set ?_ GE292.out)))); (case q4 => exact HC291_0.out); rintro e w68 ⟨rfl, hb⟩; replace BK288 := Aside0.mk (blk_below (g := gb288) (o := .cells #[.int .i64 a0_0, .slice A0_1 l0_1.length c0_1, .slice (some ad290) l0_2.length c0_2] 35 (0, 0)) (by (with_reducible skip); refine blk_far ?_ NB288_292.out _; (with_reducible skip); refine blk_far ?_ NB288_292.out _; (with_reducible skip); refine blk_far ?_ NB288_292.out _; (with_reducible skip); exact BK288.out) hb); replace BK292 := Aside0.mk (blk_below (g := gb292) (o := .cells #[.slice A291_0 ((rd_T86 (rd_L9 l0_2 x26_2) x41_4).f0).length c291_0, .int .i64 ((rd_T86 (rd_L9 l0_2 x26_2) x41_4).f1), .int .i64 ((rd_T86 (rd_L9 l0_2 x26_2) x41_4).f2)] 86 (0, 0)) (by (with_reducible skip); refine blk_put (cs := #[.slice A291_0 ((rd_T86 (rd_L9 l0_2 x26_2) x41_4).f0).length c291_0, .int .i64 ((rd_T86 (rd_L9 l0_2 x26_2) x41_4).f1), .int .i64 0]) ?_ 2 _ rfl; (with_reducible skip); refine blk_put (cs := #[.slice A291_0 ((rd_T86 (rd_L9 l0_2 x26_2) x41_4).f0).length c291_0, .int .i64 0, .int .i64 0]) ?_ 1 _ rfl; (with_reducible skip); refine blk_put (cs := #[.slice none 0 0, .int .i64 0, .int .i64 0]) ?_ 0 _ rfl; (with_reducible skip); exact BK292.out) hb); replace HB := Aside0.mk (below_step (by repeat ((with_reducible first | exact HB.out | refine below_set ?_ GE292.out))) hb); (try clear hb)))
              go_ret
              exact ⟨by rfl, by repeat ((with_reducible exact HB.out))⟩
            ·rw [if_neg c23] at H
             have c23b0 := decide_eq_false c23
             clear c23
             have H' := Aside0.mk H
             clear H
             go_wp2
             go_roundg k4
             case measure => have := HJ1.out; have := HK2.out; have := HJ19.out; have := HK4.out; omega
             case rel => exact ⟨(wrap64 (x26_2 + 1)), (by rfl), H', ⟨by have := HJ1.out; have := HK2.out; have := HJ19.out; have := HK4.out; omega⟩, ⟨by (with_reducible skip); exact BK288.out⟩, ⟨Z.bs HB.out GE288.out⟩⟩
      ·rw [if_neg c17] at H
       have c17b0 := decide_eq_false c17
       clear c17
       obtain rfl := Option.some.inj H
       go_wp2
       go_ret
       exact ⟨by rfl, Z.bs HB.out GE288.out⟩

end Go.Proofs.Ytcafckapdgaogaa.PAll

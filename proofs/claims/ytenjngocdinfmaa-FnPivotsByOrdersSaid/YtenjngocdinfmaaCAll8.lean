/- Walks of functions that All reaches, in the form of the print. -/
-- PRINTED
import Derived.Test.YtenjngocdinfmaaCAll7
namespace Go.Proofs.Ytenjngocdinfmaa.PAll
open Go.RowKit Go.Proofs.YtenjngocdinfmaaW.PrintWords Go.Proofs.YtenjngocdinfmaaW.PrintLast Go.Proofs.YtenjngocdinfmaaW.PrintMore
attribute [local go_sem] max2_int min2_int max_two min_two max_three min_three max_four min_four
set_option linter.unusedVariables false
set_option linter.unusedSimpArgs false

/-! ### impl_isHouse: function 35 -/
def impl_isHouse.l0 : Nat → List Int → Int → Int → Int → List Int → Option (Bool)
 | 0, _, _, _, _, _ => none
 | k + 1, x6, x7, x8, x309000, x309001 => if x8 < x7 then (if 0 ≤ x8 then (if x8 < (x6.length : Int) then ((impl_isCrowd.f x309000 (rd x6 x8)).bind fun t310 => (if t310 = true then (if (rd x6 x8) = 0 then (some false) else (impl_isHouse.l0 k x6 x7 (wrap64 (x8 + 1)) x309000 x309001)) else (some false))) else (none)) else (none)) else ((impl_arePeople.f x309000).bind fun t311 => (if t311 = true then (some (decide ((x309001.length : Int) ≤ 4))) else (some false)))
def impl_isHouse.f (k : Nat) (a0_0 : Int) (l0_1 : List Int) : Option (Bool) := impl_isHouse.l0 k l0_1 (l0_1.length : Int) 0 a0_0 l0_1
set_option maxHeartbeats 8000000 in
set_option maxRecDepth 100000 in
theorem impl_isHouse.calls (k : Nat) (a0_0 : Int) (A0_1 : Option Addr) (c0_1 : Nat) (l0_1 : List Int) (r : Bool) (w : World) (hr0_1 : Kd.C (Kd.int .i64) w A0_1 l0_1.length l0_1) (hc0_1 : l0_1.length ≤ c0_1) (h : impl_isHouse.f k a0_0 l0_1 = some r) :
  Calls Try.prog 35 #[.agg #[.int .i64 a0_0, .slice A0_1 l0_1.length c0_1]] w fun e w' => e = .returned (.bool r) ∧ Below w.heap.size w w' := by
 have hu25 := Try.underlying25
 have HR0_1 := Aside0.mk hr0_1
 have HC0_1 := Aside0.mk hc0_1
 clear hr0_1 hc0_1
 have HB := Aside0.mk (Below.refl w.heap.size w)
 have H := h
 clear h
 unfold impl_isHouse.f at H
 have H' := Aside0.mk H
 clear H
 go_enter Try.func35, Try.ntmps35
 go_wp2_with (first | ((with_reducible refine gate_dst (N := 1) rfl ?_); (try (refine gate_guard (by rfl) ?_; dsimp only)); refine Z.bx #[.int .i64 a0_0, .slice A0_1 l0_1.length c0_1] 25 HB ?_; clear HB; intro gb308 w2 BK308 GE308 HB hg hb; have GW308 := GE308; clear hb hg; have hcz3 := Z.c2 BK308.out))
 go_loopg [8] k (fun kq v8 w' => ∃ (x8_1 : Int), v8 = .int .i64 x8_1 ∧ Aside0 (impl_isHouse.l0 kq l0_1 (l0_1.length : Int) x8_1 a0_0 l0_1 = some r) ∧ Aside0 (kq ≤ k) ∧ Aside0 (w'.heap[gb308]? = some (.cells #[.int .i64 a0_0, (.slice A0_1 l0_1.length c0_1)] 25 (0, 0))) ∧ Aside0 (Below w.heap.size w w'))
 case atStart => exact ⟨(0), (by first | rfl | (simp; done) | (simp [*]; done)), H', ⟨Nat.le_refl _⟩, ⟨by (with_reducible repeat (first | refine blk_drewN ?_ _ | refine blk_drew ?_ | refine blk_alloc ?_ _)); exact BK308.out⟩, ⟨Z.bs HB.out GE308.out⟩⟩
 case round =>
  clear H'
  try clear p2
  try clear c3
  try clear hcz3_0
  try clear hcz3_1
  try clear hfz3_0
  try clear hfz3_1
  obtain ⟨x8_1, rfl, HA, HK1, BK308, HB⟩ := hrel
  cases gk with
  | zero => exact absurd HA.out (by simp [impl_isHouse.l0])
  | succ k1 =>
   have H := HA.out
   clear HA
   simp only [impl_isHouse.l0] at H
   by_cases c4 : x8_1 < (l0_1.length : Int)
   ·rw [if_pos c4] at H
    have c4b0 := decide_eq_true c4
    clear c4
    obtain ⟨c5, H⟩ := Z.ifp H
    have c5b0 : decide (0 ≤ x8_1) = true := decide_eq_true c5
    clear c5
    obtain ⟨c6, H⟩ := Z.ifp H
    have c6b0 : decide (x8_1 < (l0_1.length : Int)) = true := decide_eq_true c6
    clear c6
    replace H := Option.bind_eq_some_iff.mp H
    obtain ⟨t310, A70, H⟩ := H
    try dsimp only at H
    have A7 := Aside0.mk A70
    clear A70
    by_cases c8 : t310 = true
    ·subst c8
     rw [if_pos rfl] at H
     by_cases c9 : (rd l0_1 x8_1) = 0
     ·rw [if_pos c9] at H
      have c9b0 : ((rd l0_1 x8_1) == 0) = true := beq_iff_eq.mpr c9
      have c9b1 : ((rd l0_1 x8_1) != 0) = false := bne_eq_false_iff_eq.mpr c9
      clear c9
      obtain rfl := Option.some.inj H
      have p309 : 0 ≤ (x8_1 : Int) := Z.od
      have q309 : x8_1 < (l0_1.length : Int) := Z.od
      obtain ⟨ad309, rfl, hx309_0⟩ := Kd.at_int HR0_1.out x8_1 p309 q309
      replace hx309_0 := Z.up HB.out hx309_0
      replace p309 := eq_true p309
      replace q309 := eq_true q309
      have hcz10 := Z.c2 BK308.out
      go_wp2_with (first | ((with_reducible refine gate_callee (f := 33) rfl ?_); refine goesL_ (some 15) rfl rfl Try.func33 (by kernel_rfl) rfl #[.int .i64 a0_0, .int .i64 (rd l0_1 x8_1)] rfl Z.ar ?_; (with_reducible refine (impl_isCrowd.calls a0_0 (rd l0_1 x8_1) true _ A7.out).mono ?_); rintro e w' ⟨rfl, ⟨nd, rfl⟩⟩; refine ⟨_, rfl, ?_⟩))
      go_ret
      exact ⟨by first | rfl | (simp [errW_none, errW_some] <;> rfl) | (simp [*, errW_none, errW_some] <;> rfl), Z.bs HB.out GE308.out⟩
     ·rw [if_neg c9] at H
      have c9b0 : ((rd l0_1 x8_1) == 0) = false := beq_eq_false_iff_ne.mpr c9
      have c9b1 : ((rd l0_1 x8_1) != 0) = true := bne_iff_ne.mpr c9
      have H' := Aside0.mk H
      clear H
      have p309 : 0 ≤ (x8_1 : Int) := Z.od
      have q309 : x8_1 < (l0_1.length : Int) := Z.od
      obtain ⟨ad309, rfl, hx309_0⟩ := Kd.at_int HR0_1.out x8_1 p309 q309
      replace hx309_0 := Z.up HB.out hx309_0
      replace p309 := eq_true p309
      replace q309 := eq_true q309
      have hcz11 := Z.c2 BK308.out
      go_wp2_with (first | ((with_reducible refine gate_callee (f := 33) rfl ?_); refine goesL_ (some 15) rfl rfl Try.func33 (by kernel_rfl) rfl #[.int .i64 a0_0, .int .i64 (rd l0_1 x8_1)] rfl Z.ar ?_; (with_reducible refine (impl_isCrowd.calls a0_0 (rd l0_1 x8_1) true _ A7.out).mono ?_); rintro e w' ⟨rfl, ⟨nd, rfl⟩⟩; refine ⟨_, rfl, ?_⟩))
      go_roundg k1
      case measure => have := HK1.out; omega
      case rel => exact ⟨(wrap64 (x8_1 + 1)), (by first | rfl | (simp; done) | (simp [*]; done)), H', ⟨by have := HK1.out; omega⟩, ⟨by (with_reducible repeat (first | refine blk_drewN ?_ _ | refine blk_drew ?_ | refine blk_alloc ?_ _)); exact BK308.out⟩, ⟨Z.bs HB.out GE308.out⟩⟩
    ·replace c8 := Bool.eq_false_iff.mpr c8
     subst c8
     rw [if_neg (show ¬ (false = true) by decide)] at H
     obtain rfl := Option.some.inj H
     have p309 : 0 ≤ (x8_1 : Int) := Z.od
     have q309 : x8_1 < (l0_1.length : Int) := Z.od
     obtain ⟨ad309, rfl, hx309_0⟩ := Kd.at_int HR0_1.out x8_1 p309 q309
     replace hx309_0 := Z.up HB.out hx309_0
     replace p309 := eq_true p309
     replace q309 := eq_true q309
     have hcz12 := Z.c2 BK308.out
     go_wp2_with (first | ((with_reducible refine gate_callee (f := 33) rfl ?_); refine goesL_ (some 15) rfl rfl Try.func33 (by kernel_rfl) rfl #[.int .i64 a0_0, .int .i64 (rd l0_1 x8_1)] rfl Z.ar ?_; (with_reducible refine (impl_isCrowd.calls a0_0 (rd l0_1 x8_1) false _ A7.out).mono ?_); rintro e w' ⟨rfl, ⟨nd, rfl⟩⟩; refine ⟨_, rfl, ?_⟩))
     go_ret
     exact ⟨by first | rfl | (simp [errW_none, errW_some] <;> rfl) | (simp [*, errW_none, errW_some] <;> rfl), Z.bs HB.out GE308.out⟩
   ·rw [if_neg c4] at H
    have c4b0 := decide_eq_false c4
    clear c4
    replace H := Option.bind_eq_some_iff.mp H
    obtain ⟨t311, A130, H⟩ := H
    try dsimp only at H
    have A13 := Aside0.mk A130
    clear A130
    by_cases c14 : t311 = true
    ·subst c14
     rw [if_pos rfl] at H
     obtain rfl := Option.some.inj H
     have hcz15 := Z.c2 BK308.out
     go_wp2_with (first | ((with_reducible refine gate_callee (f := 41) rfl ?_); refine goesL_ (some 24) rfl rfl Try.func41 (by kernel_rfl) rfl #[.int .i64 a0_0] rfl Z.ar ?_; (with_reducible refine (impl_arePeople.calls a0_0 true _ A13.out).mono ?_); rintro e w' ⟨rfl, ⟨nd, rfl⟩⟩; refine ⟨_, rfl, ?_⟩))
     go_ret
     exact ⟨by first | rfl | (simp [errW_none, errW_some] <;> rfl) | (simp [*, errW_none, errW_some] <;> rfl), Z.bs HB.out GE308.out⟩
    ·replace c14 := Bool.eq_false_iff.mpr c14
     subst c14
     rw [if_neg (show ¬ (false = true) by decide)] at H
     obtain rfl := Option.some.inj H
     have hcz16 := Z.c2 BK308.out
     go_wp2_with (first | ((with_reducible refine gate_callee (f := 41) rfl ?_); refine goesL_ (some 24) rfl rfl Try.func41 (by kernel_rfl) rfl #[.int .i64 a0_0] rfl Z.ar ?_; (with_reducible refine (impl_arePeople.calls a0_0 false _ A13.out).mono ?_); rintro e w' ⟨rfl, ⟨nd, rfl⟩⟩; refine ⟨_, rfl, ?_⟩))
     go_ret
     exact ⟨by first | rfl | (simp [errW_none, errW_some] <;> rfl) | (simp [*, errW_none, errW_some] <;> rfl), Z.bs HB.out GE308.out⟩

/-! ### impl_isTerm: function 20 -/
mutual
def impl_isTerm.j0 : Nat → List (S35) → Bool → Int → List Int → Option (Bool)
 | 0, _, _, _, _ => none
 | k + 1, x1, x20, x313000, x313001 => if x20 = true then (some false) else (impl_isTerm.l0 k 0 x1 (x1.length : Int) 0 x313000 x313001)
def impl_isTerm.l0 : Nat → Int → List (S35) → Int → Int → Int → List Int → Option (Bool)
 | 0, _, _, _, _, _, _ => none
 | k + 1, x5, x21, x22, x23, x313000, x313001 => if x23 < x22 then (if 0 ≤ x23 then (if x23 < (x21.length : Int) then (if ((rd_T35 x21 x23).f0) = 0 then (if ((rd_T35 x21 x23).f1) < 0 then (some false) else (if ((rd_T35 x21 x23).f1) ≥ (x313001.length : Int) then (some false) else (if ((rd_T35 x21 x23).f2) < 1 then (some false) else (if 0 ≤ ((rd_T35 x21 x23).f1) then (if ((rd_T35 x21 x23).f1) < (x313001.length : Int) then ((impl_headsOf.f (rd x313001 ((rd_T35 x21 x23).f1))).bind fun t317 => (if ((rd_T35 x21 x23).f2) > t317 then (some false) else (impl_isTerm.l0 k (wrap64 (x5 + 1)) x21 x22 (wrap64 (x23 + 1)) x313000 x313001))) else (none)) else (none))))) else (if ((rd_T35 x21 x23).f0) = 1 then (impl_isTerm.j2 k x5 x21 x22 x23 (((rd_T35 x21 x23).f0) == 1) x313000 x313001 ((rd_T35 x21 x23).f0) ((rd_T35 x21 x23).f1) ((rd_T35 x21 x23).f2)) else (impl_isTerm.j2 k x5 x21 x22 x23 (((rd_T35 x21 x23).f0) == 2) x313000 x313001 ((rd_T35 x21 x23).f0) ((rd_T35 x21 x23).f1) ((rd_T35 x21 x23).f2)))) else (none)) else (none)) else (some (x5 == 1))
def impl_isTerm.j2 : Nat → Int → List (S35) → Int → Int → Bool → Int → List Int → Int → Int → Int → Option (Bool)
 | 0, _, _, _, _, _, _, _, _, _, _ => none
 | k + 1, x5, x21, x22, x23, x61, x313000, x313001, x316000, x316001, x316002 => if x61 = true then (if x316001 = 0 then (if x316002 = 0 then (if x5 < 2 then (some false) else (impl_isTerm.l0 k (wrap64 (x5 - 1)) x21 x22 (wrap64 (x23 + 1)) x313000 x313001)) else (some false)) else (some false)) else (some false)
end
def impl_isTerm.f (k : Nat) (a0_0 : Int) (l0_1 : List Int) (l1 : List (S35)) : Option (Bool) := (impl_isHouse.f k a0_0 l0_1).bind fun t313 => (if t313 = true then (if (l1.length : Int) < 1 then (impl_isTerm.j0 k l1 true a0_0 l0_1) else (impl_isTerm.j0 k l1 (decide ((l1.length : Int) > 9)) a0_0 l0_1)) else (impl_isTerm.j0 k l1 true a0_0 l0_1))
set_option maxHeartbeats 8000000 in
set_option maxRecDepth 100000 in
theorem impl_isTerm.calls (k : Nat) (a0_0 : Int) (A0_1 : Option Addr) (c0_1 : Nat) (l0_1 : List Int) (A1 : Option Addr) (c1 : Nat) (l1 : List (S35)) (r : Bool) (w : World) (hr0_1 : Kd.C (Kd.int .i64) w A0_1 l0_1.length l0_1) (hc0_1 : l0_1.length ≤ c0_1) (hr1 : Kd.C k35 w A1 l1.length l1) (hc1 : l1.length ≤ c1) (h : impl_isTerm.f k a0_0 l0_1 l1 = some r) :
  Calls Try.prog 20 #[.agg #[.int .i64 a0_0, .slice A0_1 l0_1.length c0_1], .slice A1 l1.length c1] w fun e w' => e = .returned (.bool r) ∧ Below w.heap.size w w' := by
 have hu25 := Try.underlying25
 have hu35 := Try.underlying35
 have HR0_1 := Aside0.mk hr0_1
 have HC0_1 := Aside0.mk hc0_1
 clear hr0_1 hc0_1
 have HR1 := Aside0.mk hr1
 have HC1 := Aside0.mk hc1
 clear hr1 hc1
 have HB := Aside0.mk (Below.refl w.heap.size w)
 have H := h
 clear h
 unfold impl_isTerm.f at H
 have HC3 := Aside0.mk H
 clear H
 go_enter Try.func20, Try.ntmps20
 go_upto_region 1 with (first | ((with_reducible refine gate_dst (N := 2) rfl ?_); (try (refine gate_guard (by rfl) ?_; dsimp only)); refine Z.bx #[.int .i64 a0_0, .slice A0_1 l0_1.length c0_1] 25 HB ?_; clear HB; intro gb312 w4 BK312 GE312 HB hg hb; have GW312 := GE312; clear hb hg))
 repeat (go_quiet (first | ((with_reducible refine gate_dst (N := 2) rfl ?_); (try (refine gate_guard (by rfl) ?_; dsimp only)); refine Z.bx #[.int .i64 a0_0, .slice A0_1 l0_1.length c0_1] 25 HB ?_; clear HB; intro gb312 w4 BK312 GE312 HB hg hb; have GW312 := GE312; clear hb hg)); go_upto_region 1 with (first | ((with_reducible refine gate_dst (N := 2) rfl ?_); (try (refine gate_guard (by rfl) ?_; dsimp only)); refine Z.bx #[.int .i64 a0_0, .slice A0_1 l0_1.length c0_1] 25 HB ?_; clear HB; intro gb312 w4 BK312 GE312 HB hg hb; have GW312 := GE312; clear hb hg)))
 (try simp only [Act.put, List.setIfInBounds_toArray, List.set_cons_zero, List.set_cons_succ])
 go_cut [20] (fun v20 wc => ∃ (kq : Nat) (x20_2 : Bool), v20 = .bool x20_2 ∧ Aside0 (impl_isTerm.j0 kq l1 x20_2 a0_0 l0_1 = some r) ∧ Aside0 (kq ≤ k) ∧ Aside0 (wc.heap[gb312]? = some (.cells #[.int .i64 a0_0, (.slice A0_1 l0_1.length c0_1)] 25 (0, 0))) ∧ Aside0 (Below w.heap.size w wc))
 case first =>
  have H := HC3.out
  clear HC3
  replace H := Option.bind_eq_some_iff.mp H
  obtain ⟨t313, A50, H⟩ := H
  try dsimp only at H
  have A5 := Aside0.mk A50
  clear A50
  by_cases c6 : t313 = true
  ·subst c6
   rw [if_pos rfl] at H
   by_cases c7 : (l1.length : Int) < 1
   ·rw [if_pos c7] at H
    have c7b0 := decide_eq_true c7
    have c7b1 : decide (l1.length < 1) = true := decide_eq_true (by omega)
    clear c7
    (first | rw [c7b1] | rw [c7b0] | (simp only [i64_w, i32_w]; rw [c7b0]) | skip)
    have H' := Aside0.mk H
    clear H
    have hcz8 := Z.c2 BK312.out
    go_wp2_with (first | (go_at_call 35; (with_reducible refine (impl_isHouse.calls k a0_0 _ _ l0_1 true _ ?q1 ?q2 A5.out).mono ?_); (case q1 => exact Z.cc HR0_1 HB); (case q2 => exact HC0_1.out); rintro e w9 ⟨rfl, hb⟩; replace BK312 := Z.bb BK312 hb; replace HB := Z.st (Z.bs HB.out GE312.out) hb; (try clear hb); (try clear hb2); (try clear hk); (try clear hi)))
    repeat (go_quiet (first | (go_at_call 35; (with_reducible refine (impl_isHouse.calls k a0_0 _ _ l0_1 true _ ?q1 ?q2 A5.out).mono ?_); (case q1 => exact Z.cc HR0_1 HB); (case q2 => exact HC0_1.out); rintro e w9 ⟨rfl, hb⟩; replace BK312 := Z.bb BK312 hb; replace HB := Z.st (Z.bs HB.out GE312.out) hb; (try clear hb); (try clear hb2); (try clear hk); (try clear hi))); try go_wp2_with (first | (go_at_call 35; (with_reducible refine (impl_isHouse.calls k a0_0 _ _ l0_1 true _ ?q1 ?q2 A5.out).mono ?_); (case q1 => exact Z.cc HR0_1 HB); (case q2 => exact HC0_1.out); rintro e w9 ⟨rfl, hb⟩; replace BK312 := Z.bb BK312 hb; replace HB := Z.st (Z.bs HB.out GE312.out) hb; (try clear hb); (try clear hb2); (try clear hk); (try clear hi))))
    go_meet
    case rel => exact ⟨_, (true), (by first | rfl | (simp; done) | (simp [*]; done)), H', ⟨by first | omega | exact Nat.le_refl _⟩, ⟨by (with_reducible repeat (first | refine blk_drewN ?_ _ | refine blk_drew ?_ | refine blk_alloc ?_ _)); exact BK312.out⟩, ⟨Z.bs HB.out GE312.out⟩⟩
   ·rw [if_neg c7] at H
    have c7b0 := decide_eq_false c7
    have c7b1 : decide (l1.length < 1) = false := decide_eq_false (by omega)
    clear c7
    (first | rw [c7b1] | rw [c7b0] | (simp only [i64_w, i32_w]; rw [c7b0]) | skip)
    have H' := Aside0.mk H
    clear H
    have hcz10 := Z.c2 BK312.out
    go_wp2_with (first | (go_at_call 35; (with_reducible refine (impl_isHouse.calls k a0_0 _ _ l0_1 true _ ?q1 ?q2 A5.out).mono ?_); (case q1 => exact Z.cc HR0_1 HB); (case q2 => exact HC0_1.out); rintro e w11 ⟨rfl, hb⟩; replace BK312 := Z.bb BK312 hb; replace HB := Z.st (Z.bs HB.out GE312.out) hb; (try clear hb); (try clear hb2); (try clear hk); (try clear hi)))
    repeat (go_quiet (first | (go_at_call 35; (with_reducible refine (impl_isHouse.calls k a0_0 _ _ l0_1 true _ ?q1 ?q2 A5.out).mono ?_); (case q1 => exact Z.cc HR0_1 HB); (case q2 => exact HC0_1.out); rintro e w11 ⟨rfl, hb⟩; replace BK312 := Z.bb BK312 hb; replace HB := Z.st (Z.bs HB.out GE312.out) hb; (try clear hb); (try clear hb2); (try clear hk); (try clear hi))); try go_wp2_with (first | (go_at_call 35; (with_reducible refine (impl_isHouse.calls k a0_0 _ _ l0_1 true _ ?q1 ?q2 A5.out).mono ?_); (case q1 => exact Z.cc HR0_1 HB); (case q2 => exact HC0_1.out); rintro e w11 ⟨rfl, hb⟩; replace BK312 := Z.bb BK312 hb; replace HB := Z.st (Z.bs HB.out GE312.out) hb; (try clear hb); (try clear hb2); (try clear hk); (try clear hi))))
    go_meet
    case rel => exact ⟨_, (decide ((l1.length : Int) > 9)), (by first | rfl | (simp; done) | (simp [*]; done)), H', ⟨by first | omega | exact Nat.le_refl _⟩, ⟨by (with_reducible repeat (first | refine blk_drewN ?_ _ | refine blk_drew ?_ | refine blk_alloc ?_ _)); exact BK312.out⟩, ⟨Z.bs HB.out GE312.out⟩⟩
  ·replace c6 := Bool.eq_false_iff.mpr c6
   subst c6
   rw [if_neg (show ¬ (false = true) by decide)] at H
   have H' := Aside0.mk H
   clear H
   have hcz12 := Z.c2 BK312.out
   go_wp2_with (first | (go_at_call 35; (with_reducible refine (impl_isHouse.calls k a0_0 _ _ l0_1 false _ ?q1 ?q2 A5.out).mono ?_); (case q1 => exact Z.cc HR0_1 HB); (case q2 => exact HC0_1.out); rintro e w13 ⟨rfl, hb⟩; replace BK312 := Z.bb BK312 hb; replace HB := Z.st (Z.bs HB.out GE312.out) hb; (try clear hb); (try clear hb2); (try clear hk); (try clear hi)))
   repeat (go_quiet (first | (go_at_call 35; (with_reducible refine (impl_isHouse.calls k a0_0 _ _ l0_1 false _ ?q1 ?q2 A5.out).mono ?_); (case q1 => exact Z.cc HR0_1 HB); (case q2 => exact HC0_1.out); rintro e w13 ⟨rfl, hb⟩; replace BK312 := Z.bb BK312 hb; replace HB := Z.st (Z.bs HB.out GE312.out) hb; (try clear hb); (try clear hb2); (try clear hk); (try clear hi))); try go_wp2_with (first | (go_at_call 35; (with_reducible refine (impl_isHouse.calls k a0_0 _ _ l0_1 false _ ?q1 ?q2 A5.out).mono ?_); (case q1 => exact Z.cc HR0_1 HB); (case q2 => exact HC0_1.out); rintro e w13 ⟨rfl, hb⟩; replace BK312 := Z.bb BK312 hb; replace HB := Z.st (Z.bs HB.out GE312.out) hb; (try clear hb); (try clear hb2); (try clear hk); (try clear hi))))
   go_meet
   case rel => exact ⟨_, (true), (by first | rfl | (simp; done) | (simp [*]; done)), H', ⟨by first | omega | exact Nat.le_refl _⟩, ⟨by (with_reducible repeat (first | refine blk_drewN ?_ _ | refine blk_drew ?_ | refine blk_alloc ?_ _)); exact BK312.out⟩, ⟨Z.bs HB.out GE312.out⟩⟩
 case rest =>
  clear HC3
  try clear c1
  try clear c2
  try clear p2
  try clear c6
  try clear c7
  try clear c7b0
  try clear c7b1
  try clear hcz10_0
  try clear hcz10_1
  try clear hcz12_0
  try clear hcz12_1
  try clear hcz8_0
  try clear hcz8_1
  try clear hfz10_0
  try clear hfz10_1
  try clear hfz12_0
  try clear hfz12_1
  try clear hfz8_0
  try clear hfz8_1
  obtain ⟨kq, x20_2, rfl, HA, HJ2, BK312, HB⟩ := hcut
  cases kq with
  | zero => exact absurd HA.out (by simp [impl_isTerm.j0])
  | succ kj2 =>
   have H := HA.out
   clear HA
   simp only [impl_isTerm.j0] at H
   by_cases c14 : x20_2 = true
   ·subst c14
    rw [if_pos rfl] at H
    obtain rfl := Option.some.inj H
    go_wp2
    repeat (go_quiet (fail); try go_wp2)
    go_ret
    exact ⟨by first | rfl | (simp [errW_none, errW_some] <;> rfl) | (simp [*, errW_none, errW_some] <;> rfl), Z.bs HB.out GE312.out⟩
   ·replace c14 := Bool.eq_false_iff.mpr c14
    subst c14
    rw [if_neg (show ¬ (false = true) by decide)] at H
    have H' := Aside0.mk H
    clear H
    go_wp2
    repeat (go_quiet (fail); try go_wp2)
    go_loopg [5, 23] kj2 (fun kq v5 v23 w' => ∃ (x5_2 : Int) (x23_2 : Int), v5 = .int .i64 x5_2 ∧ v23 = .int .i64 x23_2 ∧ Aside0 (impl_isTerm.l0 kq x5_2 l1 (l1.length : Int) x23_2 a0_0 l0_1 = some r) ∧ Aside0 (kq ≤ kj2) ∧ Aside0 (w'.heap[gb312]? = some (.cells #[.int .i64 a0_0, (.slice A0_1 l0_1.length c0_1)] 25 (0, 0))) ∧ Aside0 (Below w.heap.size w w'))
    case atStart => exact ⟨(0), (0), (by first | rfl | (simp; done) | (simp [*]; done)), (by first | rfl | (simp; done) | (simp [*]; done)), H', ⟨Nat.le_refl _⟩, ⟨by (with_reducible repeat (first | refine blk_drewN ?_ _ | refine blk_drew ?_ | refine blk_alloc ?_ _)); exact BK312.out⟩, ⟨Z.bs HB.out GE312.out⟩⟩
    case round =>
     clear H'
     try clear c1
     try clear c2
     try clear p2
     try clear c6
     try clear c7
     try clear c7b0
     try clear c7b1
     try clear c14
     try clear hcz10_0
     try clear hcz10_1
     try clear hcz12_0
     try clear hcz12_1
     try clear hcz8_0
     try clear hcz8_1
     try clear hfz10_0
     try clear hfz10_1
     try clear hfz12_0
     try clear hfz12_1
     try clear hfz8_0
     try clear hfz8_1
     try clear p2
     obtain ⟨x5_2, x23_2, rfl, rfl, HA, HK2, BK312, HB⟩ := hrel
     cases gk with
     | zero => exact absurd HA.out (by simp [impl_isTerm.l0])
     | succ k2 =>
      have H := HA.out
      clear HA
      simp only [impl_isTerm.l0] at H
      by_cases c15 : x23_2 < (l1.length : Int)
      ·rw [if_pos c15] at H
       have c15b0 := decide_eq_true c15
       clear c15
       obtain ⟨c16, H⟩ := Z.ifp H
       have c16b0 : decide (0 ≤ x23_2) = true := decide_eq_true c16
       clear c16
       obtain ⟨c17, H⟩ := Z.ifp H
       have c17b0 : decide (x23_2 < (l1.length : Int)) = true := decide_eq_true c17
       clear c17
       by_cases c18 : ((rd_T35 l1 x23_2).f0) = 0
       ·rw [if_pos c18] at H
        have c18b0 : (((rd_T35 l1 x23_2).f0) == 0) = true := beq_iff_eq.mpr c18
        have c18b1 : (((rd_T35 l1 x23_2).f0) != 0) = false := bne_eq_false_iff_eq.mpr c18
        clear c18
        by_cases c19 : ((rd_T35 l1 x23_2).f1) < 0
        ·rw [if_pos c19] at H
         have c19b0 := decide_eq_true c19
         clear c19
         obtain rfl := Option.some.inj H
         have p314 : 0 ≤ (x23_2 : Int) := Z.od
         have q314 : x23_2 < (l1.length : Int) := Z.od
         obtain ⟨ad314, rfl, hx314_0, hx314_1, hx314_2⟩ := at_T35 HR1.out x23_2 p314 q314
         replace hx314_0 := Z.up HB.out hx314_0
         replace hx314_1 := Z.up HB.out hx314_1
         replace hx314_2 := Z.up HB.out hx314_2
         replace p314 := eq_true p314
         replace q314 := eq_true q314
         go_wp2_with (first | ((with_reducible refine gate_dst (N := 7) rfl ?_); (try (refine gate_guard (by rfl) ?_; dsimp only)); refine Z.bz #[.int .i64 0, .int .i64 0, .int .i64 0] 35 HB GE312 ?_; clear HB; intro gb315 w20 BK315 GE315 HB hg hb; have GW315 := GE315; have NB312_315 := Z.nl hg BK312; have NB315_312 := Z.ng hg BK312; replace BK312 := Z.bb BK312 hb; clear hb hg; have hnb21 := NB315_312.out; have hnc21 := NB312_315.out; have hcz22 := Z.c3 BK315.out))
         repeat (go_quiet (first | ((with_reducible refine gate_dst (N := 7) rfl ?_); (try (refine gate_guard (by rfl) ?_; dsimp only)); refine Z.bz #[.int .i64 0, .int .i64 0, .int .i64 0] 35 HB GE312 ?_; clear HB; intro gb315 w20 BK315 GE315 HB hg hb; have GW315 := GE315; have NB312_315 := Z.nl hg BK312; have NB315_312 := Z.ng hg BK312; replace BK312 := Z.bb BK312 hb; clear hb hg; have hnb21 := NB315_312.out; have hnc21 := NB312_315.out; have hcz22 := Z.c3 BK315.out)); try go_wp2_with (first | ((with_reducible refine gate_dst (N := 7) rfl ?_); (try (refine gate_guard (by rfl) ?_; dsimp only)); refine Z.bz #[.int .i64 0, .int .i64 0, .int .i64 0] 35 HB GE312 ?_; clear HB; intro gb315 w20 BK315 GE315 HB hg hb; have GW315 := GE315; have NB312_315 := Z.nl hg BK312; have NB315_312 := Z.ng hg BK312; replace BK312 := Z.bb BK312 hb; clear hb hg; have hnb21 := NB315_312.out; have hnc21 := NB312_315.out; have hcz22 := Z.c3 BK315.out)))
         go_ret
         exact ⟨by first | rfl | (simp [errW_none, errW_some] <;> rfl) | (simp [*, errW_none, errW_some] <;> rfl), by repeat (first | (with_reducible first | exact HB.out | apply below_alloc | apply pw_below_drewN | apply below_drew1 | refine below_set ?_ GE312.out | refine below_set ?_ GE315.out) | exact HB.out)⟩
        ·rw [if_neg c19] at H
         have c19b0 := decide_eq_false c19
         clear c19
         by_cases c23 : ((rd_T35 l1 x23_2).f1) ≥ (l0_1.length : Int)
         ·rw [if_pos c23] at H
          have c23b0 : decide ((l0_1.length : Int) ≤ ((rd_T35 l1 x23_2).f1)) = true := decide_eq_true c23
          clear c23
          obtain rfl := Option.some.inj H
          have p314 : 0 ≤ (x23_2 : Int) := Z.od
          have q314 : x23_2 < (l1.length : Int) := Z.od
          obtain ⟨ad314, rfl, hx314_0, hx314_1, hx314_2⟩ := at_T35 HR1.out x23_2 p314 q314
          replace hx314_0 := Z.up HB.out hx314_0
          replace hx314_1 := Z.up HB.out hx314_1
          replace hx314_2 := Z.up HB.out hx314_2
          replace p314 := eq_true p314
          replace q314 := eq_true q314
          go_wp2_with (first | ((with_reducible refine gate_dst (N := 7) rfl ?_); (try (refine gate_guard (by rfl) ?_; dsimp only)); refine Z.bz #[.int .i64 0, .int .i64 0, .int .i64 0] 35 HB GE312 ?_; clear HB; intro gb315 w24 BK315 GE315 HB hg hb; have GW315 := GE315; have NB312_315 := Z.nl hg BK312; have NB315_312 := Z.ng hg BK312; replace BK312 := Z.bb BK312 hb; clear hb hg; have hnb25 := NB315_312.out; have hnc25 := NB312_315.out; have hcz26 := Z.c3 BK315.out; have hcz27 := Z.c2 BK312.out))
          repeat (go_quiet (first | ((with_reducible refine gate_dst (N := 7) rfl ?_); (try (refine gate_guard (by rfl) ?_; dsimp only)); refine Z.bz #[.int .i64 0, .int .i64 0, .int .i64 0] 35 HB GE312 ?_; clear HB; intro gb315 w24 BK315 GE315 HB hg hb; have GW315 := GE315; have NB312_315 := Z.nl hg BK312; have NB315_312 := Z.ng hg BK312; replace BK312 := Z.bb BK312 hb; clear hb hg; have hnb25 := NB315_312.out; have hnc25 := NB312_315.out; have hcz26 := Z.c3 BK315.out; have hcz27 := Z.c2 BK312.out)); try go_wp2_with (first | ((with_reducible refine gate_dst (N := 7) rfl ?_); (try (refine gate_guard (by rfl) ?_; dsimp only)); refine Z.bz #[.int .i64 0, .int .i64 0, .int .i64 0] 35 HB GE312 ?_; clear HB; intro gb315 w24 BK315 GE315 HB hg hb; have GW315 := GE315; have NB312_315 := Z.nl hg BK312; have NB315_312 := Z.ng hg BK312; replace BK312 := Z.bb BK312 hb; clear hb hg; have hnb25 := NB315_312.out; have hnc25 := NB312_315.out; have hcz26 := Z.c3 BK315.out; have hcz27 := Z.c2 BK312.out)))
          go_ret
          exact ⟨by first | rfl | (simp [errW_none, errW_some] <;> rfl) | (simp [*, errW_none, errW_some] <;> rfl), by repeat (first | (with_reducible first | exact HB.out | apply below_alloc | apply pw_below_drewN | apply below_drew1 | refine below_set ?_ GE312.out | refine below_set ?_ GE315.out) | exact HB.out)⟩
         ·rw [if_neg c23] at H
          have c23b0 : decide ((l0_1.length : Int) ≤ ((rd_T35 l1 x23_2).f1)) = false := decide_eq_false c23
          clear c23
          by_cases c28 : ((rd_T35 l1 x23_2).f2) < 1
          ·rw [if_pos c28] at H
           have c28b0 := decide_eq_true c28
           clear c28
           obtain rfl := Option.some.inj H
           have p314 : 0 ≤ (x23_2 : Int) := Z.od
           have q314 : x23_2 < (l1.length : Int) := Z.od
           obtain ⟨ad314, rfl, hx314_0, hx314_1, hx314_2⟩ := at_T35 HR1.out x23_2 p314 q314
           replace hx314_0 := Z.up HB.out hx314_0
           replace hx314_1 := Z.up HB.out hx314_1
           replace hx314_2 := Z.up HB.out hx314_2
           replace p314 := eq_true p314
           replace q314 := eq_true q314
           go_wp2_with (first | ((with_reducible refine gate_dst (N := 7) rfl ?_); (try (refine gate_guard (by rfl) ?_; dsimp only)); refine Z.bz #[.int .i64 0, .int .i64 0, .int .i64 0] 35 HB GE312 ?_; clear HB; intro gb315 w29 BK315 GE315 HB hg hb; have GW315 := GE315; have NB312_315 := Z.nl hg BK312; have NB315_312 := Z.ng hg BK312; replace BK312 := Z.bb BK312 hb; clear hb hg; have hnb30 := NB315_312.out; have hnc30 := NB312_315.out; have hcz31 := Z.c3 BK315.out; have hcz32 := Z.c2 BK312.out))
           repeat (go_quiet (first | ((with_reducible refine gate_dst (N := 7) rfl ?_); (try (refine gate_guard (by rfl) ?_; dsimp only)); refine Z.bz #[.int .i64 0, .int .i64 0, .int .i64 0] 35 HB GE312 ?_; clear HB; intro gb315 w29 BK315 GE315 HB hg hb; have GW315 := GE315; have NB312_315 := Z.nl hg BK312; have NB315_312 := Z.ng hg BK312; replace BK312 := Z.bb BK312 hb; clear hb hg; have hnb30 := NB315_312.out; have hnc30 := NB312_315.out; have hcz31 := Z.c3 BK315.out; have hcz32 := Z.c2 BK312.out)); try go_wp2_with (first | ((with_reducible refine gate_dst (N := 7) rfl ?_); (try (refine gate_guard (by rfl) ?_; dsimp only)); refine Z.bz #[.int .i64 0, .int .i64 0, .int .i64 0] 35 HB GE312 ?_; clear HB; intro gb315 w29 BK315 GE315 HB hg hb; have GW315 := GE315; have NB312_315 := Z.nl hg BK312; have NB315_312 := Z.ng hg BK312; replace BK312 := Z.bb BK312 hb; clear hb hg; have hnb30 := NB315_312.out; have hnc30 := NB312_315.out; have hcz31 := Z.c3 BK315.out; have hcz32 := Z.c2 BK312.out)))
           go_ret
           exact ⟨by first | rfl | (simp [errW_none, errW_some] <;> rfl) | (simp [*, errW_none, errW_some] <;> rfl), by repeat (first | (with_reducible first | exact HB.out | apply below_alloc | apply pw_below_drewN | apply below_drew1 | refine below_set ?_ GE312.out | refine below_set ?_ GE315.out) | exact HB.out)⟩
          ·rw [if_neg c28] at H
           have c28b0 := decide_eq_false c28
           clear c28
           obtain ⟨c33, H⟩ := Z.ifp H
           have c33b0 : decide (0 ≤ ((rd_T35 l1 x23_2).f1)) = true := decide_eq_true c33
           clear c33
           obtain ⟨c34, H⟩ := Z.ifp H
           have c34b0 : decide (((rd_T35 l1 x23_2).f1) < (l0_1.length : Int)) = true := decide_eq_true c34
           clear c34
           replace H := Option.bind_eq_some_iff.mp H
           obtain ⟨t317, A350, H⟩ := H
           try dsimp only at H
           have A35 := Aside0.mk A350
           clear A350
           by_cases c36 : ((rd_T35 l1 x23_2).f2) > t317
           ·rw [if_pos c36] at H
            have c36b0 : decide (t317 < ((rd_T35 l1 x23_2).f2)) = true := decide_eq_true c36
            clear c36
            obtain rfl := Option.some.inj H
            have p314 : 0 ≤ (x23_2 : Int) := Z.od
            have q314 : x23_2 < (l1.length : Int) := Z.od
            obtain ⟨ad314, rfl, hx314_0, hx314_1, hx314_2⟩ := at_T35 HR1.out x23_2 p314 q314
            replace hx314_0 := Z.up HB.out hx314_0
            replace hx314_1 := Z.up HB.out hx314_1
            replace hx314_2 := Z.up HB.out hx314_2
            replace p314 := eq_true p314
            replace q314 := eq_true q314
            go_wp2_with (first | ((with_reducible refine gate_dst (N := 7) rfl ?_); (try (refine gate_guard (by rfl) ?_; dsimp only)); refine Z.bz #[.int .i64 0, .int .i64 0, .int .i64 0] 35 HB GE312 ?_; clear HB; intro gb315 w37 BK315 GE315 HB hg hb; have GW315 := GE315; have NB312_315 := Z.nl hg BK312; have NB315_312 := Z.ng hg BK312; replace BK312 := Z.bb BK312 hb; clear hb hg; have hnb38 := NB315_312.out; have hnc38 := NB312_315.out; have hcz39 := Z.c3 BK315.out; have hcz40 := Z.c2 BK312.out; have p316 : 0 ≤ (((rd_T35 l1 x23_2).f1) : Int) := Z.od; have q316 : ((rd_T35 l1 x23_2).f1) < (l0_1.length : Int) := Z.od; obtain ⟨ad316, e316, hx316_0⟩ := Kd.at_int HR0_1.out ((rd_T35 l1 x23_2).f1) p316 q316; cases e316; have hn316_0 : ad316.block ≠ gb315 := Nat.ne_of_lt (Nat.lt_of_lt_of_le (by have := World.block_lt_of_cell? _ _ hx316_0; first | rwa [add_block] at this | exact this) GW315.out); have hn316_1 : ad316.block ≠ gb315 := Nat.ne_of_lt (Nat.lt_of_lt_of_le (by have := World.block_lt_of_cell? _ _ hx316_0; first | rwa [add_block] at this | exact this) GW315.out); have hn316_2 : ad316.block ≠ gb315 := Nat.ne_of_lt (Nat.lt_of_lt_of_le (by have := World.block_lt_of_cell? _ _ hx316_0; first | rwa [add_block] at this | exact this) GW315.out); replace hx316_0 := Z.up HB.out hx316_0; replace hx316_0 := (cell_far (p := ⟨gb315, 0, none⟩) (by first | (rw [add_block]; exact hn316_0) | (show (Addr.add _ _).block ≠ _; rw [add_block]; exact hn316_0) | exact hn316_0) (.int .i64 ((rd_T35 l1 x23_2).f0))).trans hx316_0; replace hx316_0 := (cell_far (p := ⟨gb315, 1, none⟩) (by first | (rw [add_block]; exact hn316_1) | (show (Addr.add _ _).block ≠ _; rw [add_block]; exact hn316_1) | exact hn316_1) (.int .i64 ((rd_T35 l1 x23_2).f1))).trans hx316_0; replace hx316_0 := (cell_far (p := ⟨gb315, 2, none⟩) (by first | (rw [add_block]; exact hn316_2) | (show (Addr.add _ _).block ≠ _; rw [add_block]; exact hn316_2) | exact hn316_2) (.int .i64 ((rd_T35 l1 x23_2).f2))).trans hx316_0; (try have hy316_0 := fun (n_ : Nat) => (show (((((w37.drewN n_).setCell ⟨gb315, 0, none⟩ (.int .i64 ((rd_T35 l1 x23_2).f0))).setCell ⟨gb315, 1, none⟩ (.int .i64 ((rd_T35 l1 x23_2).f1))).setCell ⟨gb315, 2, none⟩ (.int .i64 ((rd_T35 l1 x23_2).f2)))).cell? _ = some _ from hx316_0)); clear hn316_0; clear hn316_1; clear hn316_2; replace p316 := eq_true p316; replace q316 := eq_true q316) | (go_at_call 23; (with_reducible refine (impl_headsOf.calls (rd l0_1 ((rd_T35 l1 x23_2).f1)) t317 _ A35.out).mono ?_); rintro e w' ⟨rfl, ⟨nd, rfl⟩⟩; (try first | exact ⟨rfl, _, World.drewN_drewN _ _ _⟩ | exact ⟨rfl, _, Eq.trans (World.drewN_drewN _ _ _) (congrArg (World.drewN _) (Nat.add_assoc _ _ _))⟩)))
            repeat (go_quiet (first | ((with_reducible refine gate_dst (N := 7) rfl ?_); (try (refine gate_guard (by rfl) ?_; dsimp only)); refine Z.bz #[.int .i64 0, .int .i64 0, .int .i64 0] 35 HB GE312 ?_; clear HB; intro gb315 w37 BK315 GE315 HB hg hb; have GW315 := GE315; have NB312_315 := Z.nl hg BK312; have NB315_312 := Z.ng hg BK312; replace BK312 := Z.bb BK312 hb; clear hb hg; have hnb38 := NB315_312.out; have hnc38 := NB312_315.out; have hcz39 := Z.c3 BK315.out; have hcz40 := Z.c2 BK312.out; have p316 : 0 ≤ (((rd_T35 l1 x23_2).f1) : Int) := Z.od; have q316 : ((rd_T35 l1 x23_2).f1) < (l0_1.length : Int) := Z.od; obtain ⟨ad316, e316, hx316_0⟩ := Kd.at_int HR0_1.out ((rd_T35 l1 x23_2).f1) p316 q316; cases e316; have hn316_0 : ad316.block ≠ gb315 := Nat.ne_of_lt (Nat.lt_of_lt_of_le (by have := World.block_lt_of_cell? _ _ hx316_0; first | rwa [add_block] at this | exact this) GW315.out); have hn316_1 : ad316.block ≠ gb315 := Nat.ne_of_lt (Nat.lt_of_lt_of_le (by have := World.block_lt_of_cell? _ _ hx316_0; first | rwa [add_block] at this | exact this) GW315.out); have hn316_2 : ad316.block ≠ gb315 := Nat.ne_of_lt (Nat.lt_of_lt_of_le (by have := World.block_lt_of_cell? _ _ hx316_0; first | rwa [add_block] at this | exact this) GW315.out); replace hx316_0 := Z.up HB.out hx316_0; replace hx316_0 := (cell_far (p := ⟨gb315, 0, none⟩) (by first | (rw [add_block]; exact hn316_0) | (show (Addr.add _ _).block ≠ _; rw [add_block]; exact hn316_0) | exact hn316_0) (.int .i64 ((rd_T35 l1 x23_2).f0))).trans hx316_0; replace hx316_0 := (cell_far (p := ⟨gb315, 1, none⟩) (by first | (rw [add_block]; exact hn316_1) | (show (Addr.add _ _).block ≠ _; rw [add_block]; exact hn316_1) | exact hn316_1) (.int .i64 ((rd_T35 l1 x23_2).f1))).trans hx316_0; replace hx316_0 := (cell_far (p := ⟨gb315, 2, none⟩) (by first | (rw [add_block]; exact hn316_2) | (show (Addr.add _ _).block ≠ _; rw [add_block]; exact hn316_2) | exact hn316_2) (.int .i64 ((rd_T35 l1 x23_2).f2))).trans hx316_0; (try have hy316_0 := fun (n_ : Nat) => (show (((((w37.drewN n_).setCell ⟨gb315, 0, none⟩ (.int .i64 ((rd_T35 l1 x23_2).f0))).setCell ⟨gb315, 1, none⟩ (.int .i64 ((rd_T35 l1 x23_2).f1))).setCell ⟨gb315, 2, none⟩ (.int .i64 ((rd_T35 l1 x23_2).f2)))).cell? _ = some _ from hx316_0)); clear hn316_0; clear hn316_1; clear hn316_2; replace p316 := eq_true p316; replace q316 := eq_true q316) | (go_at_call 23; (with_reducible refine (impl_headsOf.calls (rd l0_1 ((rd_T35 l1 x23_2).f1)) t317 _ A35.out).mono ?_); rintro e w' ⟨rfl, ⟨nd, rfl⟩⟩; (try first | exact ⟨rfl, _, World.drewN_drewN _ _ _⟩ | exact ⟨rfl, _, Eq.trans (World.drewN_drewN _ _ _) (congrArg (World.drewN _) (Nat.add_assoc _ _ _))⟩))); try go_wp2_with (first | ((with_reducible refine gate_dst (N := 7) rfl ?_); (try (refine gate_guard (by rfl) ?_; dsimp only)); refine Z.bz #[.int .i64 0, .int .i64 0, .int .i64 0] 35 HB GE312 ?_; clear HB; intro gb315 w37 BK315 GE315 HB hg hb; have GW315 := GE315; have NB312_315 := Z.nl hg BK312; have NB315_312 := Z.ng hg BK312; replace BK312 := Z.bb BK312 hb; clear hb hg; have hnb38 := NB315_312.out; have hnc38 := NB312_315.out; have hcz39 := Z.c3 BK315.out; have hcz40 := Z.c2 BK312.out; have p316 : 0 ≤ (((rd_T35 l1 x23_2).f1) : Int) := Z.od; have q316 : ((rd_T35 l1 x23_2).f1) < (l0_1.length : Int) := Z.od; obtain ⟨ad316, e316, hx316_0⟩ := Kd.at_int HR0_1.out ((rd_T35 l1 x23_2).f1) p316 q316; cases e316; have hn316_0 : ad316.block ≠ gb315 := Nat.ne_of_lt (Nat.lt_of_lt_of_le (by have := World.block_lt_of_cell? _ _ hx316_0; first | rwa [add_block] at this | exact this) GW315.out); have hn316_1 : ad316.block ≠ gb315 := Nat.ne_of_lt (Nat.lt_of_lt_of_le (by have := World.block_lt_of_cell? _ _ hx316_0; first | rwa [add_block] at this | exact this) GW315.out); have hn316_2 : ad316.block ≠ gb315 := Nat.ne_of_lt (Nat.lt_of_lt_of_le (by have := World.block_lt_of_cell? _ _ hx316_0; first | rwa [add_block] at this | exact this) GW315.out); replace hx316_0 := Z.up HB.out hx316_0; replace hx316_0 := (cell_far (p := ⟨gb315, 0, none⟩) (by first | (rw [add_block]; exact hn316_0) | (show (Addr.add _ _).block ≠ _; rw [add_block]; exact hn316_0) | exact hn316_0) (.int .i64 ((rd_T35 l1 x23_2).f0))).trans hx316_0; replace hx316_0 := (cell_far (p := ⟨gb315, 1, none⟩) (by first | (rw [add_block]; exact hn316_1) | (show (Addr.add _ _).block ≠ _; rw [add_block]; exact hn316_1) | exact hn316_1) (.int .i64 ((rd_T35 l1 x23_2).f1))).trans hx316_0; replace hx316_0 := (cell_far (p := ⟨gb315, 2, none⟩) (by first | (rw [add_block]; exact hn316_2) | (show (Addr.add _ _).block ≠ _; rw [add_block]; exact hn316_2) | exact hn316_2) (.int .i64 ((rd_T35 l1 x23_2).f2))).trans hx316_0; (try have hy316_0 := fun (n_ : Nat) => (show (((((w37.drewN n_).setCell ⟨gb315, 0, none⟩ (.int .i64 ((rd_T35 l1 x23_2).f0))).setCell ⟨gb315, 1, none⟩ (.int .i64 ((rd_T35 l1 x23_2).f1))).setCell ⟨gb315, 2, none⟩ (.int .i64 ((rd_T35 l1 x23_2).f2)))).cell? _ = some _ from hx316_0)); clear hn316_0; clear hn316_1; clear hn316_2; replace p316 := eq_true p316; replace q316 := eq_true q316) | (go_at_call 23; (with_reducible refine (impl_headsOf.calls (rd l0_1 ((rd_T35 l1 x23_2).f1)) t317 _ A35.out).mono ?_); rintro e w' ⟨rfl, ⟨nd, rfl⟩⟩; (try first | exact ⟨rfl, _, World.drewN_drewN _ _ _⟩ | exact ⟨rfl, _, Eq.trans (World.drewN_drewN _ _ _) (congrArg (World.drewN _) (Nat.add_assoc _ _ _))⟩))))
            go_ret
            exact ⟨by first | rfl | (simp [errW_none, errW_some] <;> rfl) | (simp [*, errW_none, errW_some] <;> rfl), by repeat (first | (with_reducible first | exact HB.out | apply below_alloc | apply pw_below_drewN | apply below_drew1 | refine below_set ?_ GE312.out | refine below_set ?_ GE315.out) | exact HB.out)⟩
           ·rw [if_neg c36] at H
            have c36b0 : decide (t317 < ((rd_T35 l1 x23_2).f2)) = false := decide_eq_false c36
            clear c36
            have H' := Aside0.mk H
            clear H
            have p314 : 0 ≤ (x23_2 : Int) := Z.od
            have q314 : x23_2 < (l1.length : Int) := Z.od
            obtain ⟨ad314, rfl, hx314_0, hx314_1, hx314_2⟩ := at_T35 HR1.out x23_2 p314 q314
            replace hx314_0 := Z.up HB.out hx314_0
            replace hx314_1 := Z.up HB.out hx314_1
            replace hx314_2 := Z.up HB.out hx314_2
            replace p314 := eq_true p314
            replace q314 := eq_true q314
            go_wp2_with (first | ((with_reducible refine gate_dst (N := 7) rfl ?_); (try (refine gate_guard (by rfl) ?_; dsimp only)); refine Z.bz #[.int .i64 0, .int .i64 0, .int .i64 0] 35 HB GE312 ?_; clear HB; intro gb315 w41 BK315 GE315 HB hg hb; have GW315 := GE315; have NB312_315 := Z.nl hg BK312; have NB315_312 := Z.ng hg BK312; replace BK312 := Z.bb BK312 hb; clear hb hg; have hnb42 := NB315_312.out; have hnc42 := NB312_315.out; have hcz43 := Z.c3 BK315.out; have hcz44 := Z.c2 BK312.out; have p316 : 0 ≤ (((rd_T35 l1 x23_2).f1) : Int) := Z.od; have q316 : ((rd_T35 l1 x23_2).f1) < (l0_1.length : Int) := Z.od; obtain ⟨ad316, e316, hx316_0⟩ := Kd.at_int HR0_1.out ((rd_T35 l1 x23_2).f1) p316 q316; cases e316; have hn316_0 : ad316.block ≠ gb315 := Nat.ne_of_lt (Nat.lt_of_lt_of_le (by have := World.block_lt_of_cell? _ _ hx316_0; first | rwa [add_block] at this | exact this) GW315.out); have hn316_1 : ad316.block ≠ gb315 := Nat.ne_of_lt (Nat.lt_of_lt_of_le (by have := World.block_lt_of_cell? _ _ hx316_0; first | rwa [add_block] at this | exact this) GW315.out); have hn316_2 : ad316.block ≠ gb315 := Nat.ne_of_lt (Nat.lt_of_lt_of_le (by have := World.block_lt_of_cell? _ _ hx316_0; first | rwa [add_block] at this | exact this) GW315.out); replace hx316_0 := Z.up HB.out hx316_0; replace hx316_0 := (cell_far (p := ⟨gb315, 0, none⟩) (by first | (rw [add_block]; exact hn316_0) | (show (Addr.add _ _).block ≠ _; rw [add_block]; exact hn316_0) | exact hn316_0) (.int .i64 ((rd_T35 l1 x23_2).f0))).trans hx316_0; replace hx316_0 := (cell_far (p := ⟨gb315, 1, none⟩) (by first | (rw [add_block]; exact hn316_1) | (show (Addr.add _ _).block ≠ _; rw [add_block]; exact hn316_1) | exact hn316_1) (.int .i64 ((rd_T35 l1 x23_2).f1))).trans hx316_0; replace hx316_0 := (cell_far (p := ⟨gb315, 2, none⟩) (by first | (rw [add_block]; exact hn316_2) | (show (Addr.add _ _).block ≠ _; rw [add_block]; exact hn316_2) | exact hn316_2) (.int .i64 ((rd_T35 l1 x23_2).f2))).trans hx316_0; (try have hy316_0 := fun (n_ : Nat) => (show (((((w41.drewN n_).setCell ⟨gb315, 0, none⟩ (.int .i64 ((rd_T35 l1 x23_2).f0))).setCell ⟨gb315, 1, none⟩ (.int .i64 ((rd_T35 l1 x23_2).f1))).setCell ⟨gb315, 2, none⟩ (.int .i64 ((rd_T35 l1 x23_2).f2)))).cell? _ = some _ from hx316_0)); clear hn316_0; clear hn316_1; clear hn316_2; replace p316 := eq_true p316; replace q316 := eq_true q316) | (go_at_call 23; (with_reducible refine (impl_headsOf.calls (rd l0_1 ((rd_T35 l1 x23_2).f1)) t317 _ A35.out).mono ?_); rintro e w' ⟨rfl, ⟨nd, rfl⟩⟩; (try first | exact ⟨rfl, _, World.drewN_drewN _ _ _⟩ | exact ⟨rfl, _, Eq.trans (World.drewN_drewN _ _ _) (congrArg (World.drewN _) (Nat.add_assoc _ _ _))⟩)))
            repeat (go_quiet (first | ((with_reducible refine gate_dst (N := 7) rfl ?_); (try (refine gate_guard (by rfl) ?_; dsimp only)); refine Z.bz #[.int .i64 0, .int .i64 0, .int .i64 0] 35 HB GE312 ?_; clear HB; intro gb315 w41 BK315 GE315 HB hg hb; have GW315 := GE315; have NB312_315 := Z.nl hg BK312; have NB315_312 := Z.ng hg BK312; replace BK312 := Z.bb BK312 hb; clear hb hg; have hnb42 := NB315_312.out; have hnc42 := NB312_315.out; have hcz43 := Z.c3 BK315.out; have hcz44 := Z.c2 BK312.out; have p316 : 0 ≤ (((rd_T35 l1 x23_2).f1) : Int) := Z.od; have q316 : ((rd_T35 l1 x23_2).f1) < (l0_1.length : Int) := Z.od; obtain ⟨ad316, e316, hx316_0⟩ := Kd.at_int HR0_1.out ((rd_T35 l1 x23_2).f1) p316 q316; cases e316; have hn316_0 : ad316.block ≠ gb315 := Nat.ne_of_lt (Nat.lt_of_lt_of_le (by have := World.block_lt_of_cell? _ _ hx316_0; first | rwa [add_block] at this | exact this) GW315.out); have hn316_1 : ad316.block ≠ gb315 := Nat.ne_of_lt (Nat.lt_of_lt_of_le (by have := World.block_lt_of_cell? _ _ hx316_0; first | rwa [add_block] at this | exact this) GW315.out); have hn316_2 : ad316.block ≠ gb315 := Nat.ne_of_lt (Nat.lt_of_lt_of_le (by have := World.block_lt_of_cell? _ _ hx316_0; first | rwa [add_block] at this | exact this) GW315.out); replace hx316_0 := Z.up HB.out hx316_0; replace hx316_0 := (cell_far (p := ⟨gb315, 0, none⟩) (by first | (rw [add_block]; exact hn316_0) | (show (Addr.add _ _).block ≠ _; rw [add_block]; exact hn316_0) | exact hn316_0) (.int .i64 ((rd_T35 l1 x23_2).f0))).trans hx316_0; replace hx316_0 := (cell_far (p := ⟨gb315, 1, none⟩) (by first | (rw [add_block]; exact hn316_1) | (show (Addr.add _ _).block ≠ _; rw [add_block]; exact hn316_1) | exact hn316_1) (.int .i64 ((rd_T35 l1 x23_2).f1))).trans hx316_0; replace hx316_0 := (cell_far (p := ⟨gb315, 2, none⟩) (by first | (rw [add_block]; exact hn316_2) | (show (Addr.add _ _).block ≠ _; rw [add_block]; exact hn316_2) | exact hn316_2) (.int .i64 ((rd_T35 l1 x23_2).f2))).trans hx316_0; (try have hy316_0 := fun (n_ : Nat) => (show (((((w41.drewN n_).setCell ⟨gb315, 0, none⟩ (.int .i64 ((rd_T35 l1 x23_2).f0))).setCell ⟨gb315, 1, none⟩ (.int .i64 ((rd_T35 l1 x23_2).f1))).setCell ⟨gb315, 2, none⟩ (.int .i64 ((rd_T35 l1 x23_2).f2)))).cell? _ = some _ from hx316_0)); clear hn316_0; clear hn316_1; clear hn316_2; replace p316 := eq_true p316; replace q316 := eq_true q316) | (go_at_call 23; (with_reducible refine (impl_headsOf.calls (rd l0_1 ((rd_T35 l1 x23_2).f1)) t317 _ A35.out).mono ?_); rintro e w' ⟨rfl, ⟨nd, rfl⟩⟩; (try first | exact ⟨rfl, _, World.drewN_drewN _ _ _⟩ | exact ⟨rfl, _, Eq.trans (World.drewN_drewN _ _ _) (congrArg (World.drewN _) (Nat.add_assoc _ _ _))⟩))); try go_wp2_with (first | ((with_reducible refine gate_dst (N := 7) rfl ?_); (try (refine gate_guard (by rfl) ?_; dsimp only)); refine Z.bz #[.int .i64 0, .int .i64 0, .int .i64 0] 35 HB GE312 ?_; clear HB; intro gb315 w41 BK315 GE315 HB hg hb; have GW315 := GE315; have NB312_315 := Z.nl hg BK312; have NB315_312 := Z.ng hg BK312; replace BK312 := Z.bb BK312 hb; clear hb hg; have hnb42 := NB315_312.out; have hnc42 := NB312_315.out; have hcz43 := Z.c3 BK315.out; have hcz44 := Z.c2 BK312.out; have p316 : 0 ≤ (((rd_T35 l1 x23_2).f1) : Int) := Z.od; have q316 : ((rd_T35 l1 x23_2).f1) < (l0_1.length : Int) := Z.od; obtain ⟨ad316, e316, hx316_0⟩ := Kd.at_int HR0_1.out ((rd_T35 l1 x23_2).f1) p316 q316; cases e316; have hn316_0 : ad316.block ≠ gb315 := Nat.ne_of_lt (Nat.lt_of_lt_of_le (by have := World.block_lt_of_cell? _ _ hx316_0; first | rwa [add_block] at this | exact this) GW315.out); have hn316_1 : ad316.block ≠ gb315 := Nat.ne_of_lt (Nat.lt_of_lt_of_le (by have := World.block_lt_of_cell? _ _ hx316_0; first | rwa [add_block] at this | exact this) GW315.out); have hn316_2 : ad316.block ≠ gb315 := Nat.ne_of_lt (Nat.lt_of_lt_of_le (by have := World.block_lt_of_cell? _ _ hx316_0; first | rwa [add_block] at this | exact this) GW315.out); replace hx316_0 := Z.up HB.out hx316_0; replace hx316_0 := (cell_far (p := ⟨gb315, 0, none⟩) (by first | (rw [add_block]; exact hn316_0) | (show (Addr.add _ _).block ≠ _; rw [add_block]; exact hn316_0) | exact hn316_0) (.int .i64 ((rd_T35 l1 x23_2).f0))).trans hx316_0; replace hx316_0 := (cell_far (p := ⟨gb315, 1, none⟩) (by first | (rw [add_block]; exact hn316_1) | (show (Addr.add _ _).block ≠ _; rw [add_block]; exact hn316_1) | exact hn316_1) (.int .i64 ((rd_T35 l1 x23_2).f1))).trans hx316_0; replace hx316_0 := (cell_far (p := ⟨gb315, 2, none⟩) (by first | (rw [add_block]; exact hn316_2) | (show (Addr.add _ _).block ≠ _; rw [add_block]; exact hn316_2) | exact hn316_2) (.int .i64 ((rd_T35 l1 x23_2).f2))).trans hx316_0; (try have hy316_0 := fun (n_ : Nat) => (show (((((w41.drewN n_).setCell ⟨gb315, 0, none⟩ (.int .i64 ((rd_T35 l1 x23_2).f0))).setCell ⟨gb315, 1, none⟩ (.int .i64 ((rd_T35 l1 x23_2).f1))).setCell ⟨gb315, 2, none⟩ (.int .i64 ((rd_T35 l1 x23_2).f2)))).cell? _ = some _ from hx316_0)); clear hn316_0; clear hn316_1; clear hn316_2; replace p316 := eq_true p316; replace q316 := eq_true q316) | (go_at_call 23; (with_reducible refine (impl_headsOf.calls (rd l0_1 ((rd_T35 l1 x23_2).f1)) t317 _ A35.out).mono ?_); rintro e w' ⟨rfl, ⟨nd, rfl⟩⟩; (try first | exact ⟨rfl, _, World.drewN_drewN _ _ _⟩ | exact ⟨rfl, _, Eq.trans (World.drewN_drewN _ _ _) (congrArg (World.drewN _) (Nat.add_assoc _ _ _))⟩))))
            go_roundg k2
            case measure => have := HJ2.out; have := HK2.out; omega
            case rel => exact ⟨(wrap64 (x5_2 + 1)), (wrap64 (x23_2 + 1)), (by first | rfl | (simp; done) | (simp [*]; done)), (by first | rfl | (simp; done) | (simp [*]; done)), H', ⟨by have := HJ2.out; have := HK2.out; omega⟩, ⟨by (with_reducible repeat (first | refine blk_drewN ?_ _ | refine blk_drew ?_ | refine blk_alloc ?_ _)); refine blk_far ?_ NB312_315.out _; (with_reducible repeat (first | refine blk_drewN ?_ _ | refine blk_drew ?_ | refine blk_alloc ?_ _)); refine blk_far ?_ NB312_315.out _; (with_reducible repeat (first | refine blk_drewN ?_ _ | refine blk_drew ?_ | refine blk_alloc ?_ _)); refine blk_far ?_ NB312_315.out _; (with_reducible repeat (first | refine blk_drewN ?_ _ | refine blk_drew ?_ | refine blk_alloc ?_ _)); exact BK312.out⟩, ⟨by repeat (first | (with_reducible first | exact HB.out | apply below_alloc | apply pw_below_drewN | apply below_drew1 | refine below_set ?_ GE312.out | refine below_set ?_ GE315.out) | exact HB.out)⟩⟩
       ·rw [if_neg c18] at H
        have c18b0 : (((rd_T35 l1 x23_2).f0) == 0) = false := beq_eq_false_iff_ne.mpr c18
        have c18b1 : (((rd_T35 l1 x23_2).f0) != 0) = true := bne_iff_ne.mpr c18
        have HC45 := Aside0.mk H
        clear H
        have p314 : 0 ≤ (x23_2 : Int) := Z.od
        have q314 : x23_2 < (l1.length : Int) := Z.od
        obtain ⟨ad314, rfl, hx314_0, hx314_1, hx314_2⟩ := at_T35 HR1.out x23_2 p314 q314
        replace hx314_0 := Z.up HB.out hx314_0
        replace hx314_1 := Z.up HB.out hx314_1
        replace hx314_2 := Z.up HB.out hx314_2
        replace p314 := eq_true p314
        replace q314 := eq_true q314
        go_upto_if 61 with (first | ((with_reducible refine gate_dst (N := 7) rfl ?_); (try (refine gate_guard (by rfl) ?_; dsimp only)); refine Z.bz #[.int .i64 0, .int .i64 0, .int .i64 0] 35 HB GE312 ?_; clear HB; intro gb315 w46 BK315 GE315 HB hg hb; have GW315 := GE315; have NB312_315 := Z.nl hg BK312; have NB315_312 := Z.ng hg BK312; replace BK312 := Z.bb BK312 hb; clear hb hg; have hnb47 := NB315_312.out; have hnc47 := NB312_315.out; have hcz48 := Z.c3 BK315.out))
        repeat (go_quiet (first | ((with_reducible refine gate_dst (N := 7) rfl ?_); (try (refine gate_guard (by rfl) ?_; dsimp only)); refine Z.bz #[.int .i64 0, .int .i64 0, .int .i64 0] 35 HB GE312 ?_; clear HB; intro gb315 w46 BK315 GE315 HB hg hb; have GW315 := GE315; have NB312_315 := Z.nl hg BK312; have NB315_312 := Z.ng hg BK312; replace BK312 := Z.bb BK312 hb; clear hb hg; have hnb47 := NB315_312.out; have hnc47 := NB312_315.out; have hcz48 := Z.c3 BK315.out)); go_upto_if 61 with (first | ((with_reducible refine gate_dst (N := 7) rfl ?_); (try (refine gate_guard (by rfl) ?_; dsimp only)); refine Z.bz #[.int .i64 0, .int .i64 0, .int .i64 0] 35 HB GE312 ?_; clear HB; intro gb315 w46 BK315 GE315 HB hg hb; have GW315 := GE315; have NB312_315 := Z.nl hg BK312; have NB315_312 := Z.ng hg BK312; replace BK312 := Z.bb BK312 hb; clear hb hg; have hnb47 := NB315_312.out; have hnc47 := NB312_315.out; have hcz48 := Z.c3 BK315.out)))
        (try simp only [Act.put, List.setIfInBounds_toArray, List.set_cons_zero, List.set_cons_succ])
        go_cut [61] (fun v61 wc => ∃ (kq : Nat) (x61_44 : Bool), v61 = .bool x61_44 ∧ Aside0 (impl_isTerm.j2 kq x5_2 l1 (l1.length : Int) x23_2 x61_44 a0_0 l0_1 ((rd_T35 l1 x23_2).f0) ((rd_T35 l1 x23_2).f1) ((rd_T35 l1 x23_2).f2) = some r) ∧ Aside0 (kq ≤ k2) ∧ Aside0 (wc.heap[gb312]? = some (.cells #[.int .i64 a0_0, (.slice A0_1 l0_1.length c0_1)] 25 (0, 0))) ∧ Aside0 (wc.heap[gb315]? = some (.cells #[.int .i64 ((rd_T35 l1 x23_2).f0), .int .i64 ((rd_T35 l1 x23_2).f1), .int .i64 ((rd_T35 l1 x23_2).f2)] 35 (0, 0))) ∧ Aside0 (Below w.heap.size w wc))
        case first =>
         have H := HC45.out
         clear HC45
         by_cases c49 : ((rd_T35 l1 x23_2).f0) = 1
         ·rw [if_pos c49] at H
          have c49b0 : (((rd_T35 l1 x23_2).f0) == 1) = true := beq_iff_eq.mpr c49
          have c49b1 : (((rd_T35 l1 x23_2).f0) != 1) = false := bne_eq_false_iff_eq.mpr c49
          clear c49
          (first | rw [c49b0] | (simp only [i64_w, i32_w]; rw [c49b0]) | skip)
          have H' := Aside0.mk H
          clear H
          go_wp2
          repeat (go_quiet (fail); try go_wp2)
          go_meet
          case rel => exact ⟨_, ((((rd_T35 l1 x23_2).f0) == 1)), (by first | rfl | (simp; done) | (simp [*]; done)), H', ⟨by have := HJ2.out; have := HK2.out; first | omega | exact Nat.le_refl _⟩, ⟨by (with_reducible repeat (first | refine blk_drewN ?_ _ | refine blk_drew ?_ | refine blk_alloc ?_ _)); refine blk_far ?_ NB312_315.out _; (with_reducible repeat (first | refine blk_drewN ?_ _ | refine blk_drew ?_ | refine blk_alloc ?_ _)); refine blk_far ?_ NB312_315.out _; (with_reducible repeat (first | refine blk_drewN ?_ _ | refine blk_drew ?_ | refine blk_alloc ?_ _)); refine blk_far ?_ NB312_315.out _; (with_reducible repeat (first | refine blk_drewN ?_ _ | refine blk_drew ?_ | refine blk_alloc ?_ _)); exact BK312.out⟩, ⟨by (with_reducible repeat (first | refine blk_drewN ?_ _ | refine blk_drew ?_ | refine blk_alloc ?_ _)); refine blk_put (cs := #[.int .i64 ((rd_T35 l1 x23_2).f0), .int .i64 ((rd_T35 l1 x23_2).f1), .int .i64 0]) ?_ 2 _ rfl; (with_reducible repeat (first | refine blk_drewN ?_ _ | refine blk_drew ?_ | refine blk_alloc ?_ _)); refine blk_put (cs := #[.int .i64 ((rd_T35 l1 x23_2).f0), .int .i64 0, .int .i64 0]) ?_ 1 _ rfl; (with_reducible repeat (first | refine blk_drewN ?_ _ | refine blk_drew ?_ | refine blk_alloc ?_ _)); refine blk_put (cs := #[.int .i64 0, .int .i64 0, .int .i64 0]) ?_ 0 _ rfl; (with_reducible repeat (first | refine blk_drewN ?_ _ | refine blk_drew ?_ | refine blk_alloc ?_ _)); exact BK315.out⟩, ⟨by repeat (first | (with_reducible first | exact HB.out | apply below_alloc | apply pw_below_drewN | apply below_drew1 | refine below_set ?_ GE312.out | refine below_set ?_ GE315.out) | exact HB.out)⟩⟩
         ·rw [if_neg c49] at H
          have c49b0 : (((rd_T35 l1 x23_2).f0) == 1) = false := beq_eq_false_iff_ne.mpr c49
          have c49b1 : (((rd_T35 l1 x23_2).f0) != 1) = true := bne_iff_ne.mpr c49
          (first | rw [c49b0] | (simp only [i64_w, i32_w]; rw [c49b0]) | skip)
          have H' := Aside0.mk H
          clear H
          go_wp2
          repeat (go_quiet (fail); try go_wp2)
          go_meet
          case rel => exact ⟨_, ((((rd_T35 l1 x23_2).f0) == 2)), (by first | rfl | (simp; done) | (simp [*]; done)), H', ⟨by have := HJ2.out; have := HK2.out; first | omega | exact Nat.le_refl _⟩, ⟨by (with_reducible repeat (first | refine blk_drewN ?_ _ | refine blk_drew ?_ | refine blk_alloc ?_ _)); refine blk_far ?_ NB312_315.out _; (with_reducible repeat (first | refine blk_drewN ?_ _ | refine blk_drew ?_ | refine blk_alloc ?_ _)); refine blk_far ?_ NB312_315.out _; (with_reducible repeat (first | refine blk_drewN ?_ _ | refine blk_drew ?_ | refine blk_alloc ?_ _)); refine blk_far ?_ NB312_315.out _; (with_reducible repeat (first | refine blk_drewN ?_ _ | refine blk_drew ?_ | refine blk_alloc ?_ _)); exact BK312.out⟩, ⟨by (with_reducible repeat (first | refine blk_drewN ?_ _ | refine blk_drew ?_ | refine blk_alloc ?_ _)); refine blk_put (cs := #[.int .i64 ((rd_T35 l1 x23_2).f0), .int .i64 ((rd_T35 l1 x23_2).f1), .int .i64 0]) ?_ 2 _ rfl; (with_reducible repeat (first | refine blk_drewN ?_ _ | refine blk_drew ?_ | refine blk_alloc ?_ _)); refine blk_put (cs := #[.int .i64 ((rd_T35 l1 x23_2).f0), .int .i64 0, .int .i64 0]) ?_ 1 _ rfl; (with_reducible repeat (first | refine blk_drewN ?_ _ | refine blk_drew ?_ | refine blk_alloc ?_ _)); refine blk_put (cs := #[.int .i64 0, .int .i64 0, .int .i64 0]) ?_ 0 _ rfl; (with_reducible repeat (first | refine blk_drewN ?_ _ | refine blk_drew ?_ | refine blk_alloc ?_ _)); exact BK315.out⟩, ⟨by repeat (first | (with_reducible first | exact HB.out | apply below_alloc | apply pw_below_drewN | apply below_drew1 | refine below_set ?_ GE312.out | refine below_set ?_ GE315.out) | exact HB.out)⟩⟩
        case rest =>
         clear HC45
         try clear c1
         try clear c2
         try clear p2
         try clear c3
         try clear p3
         try clear q3
         try clear hx3
         try clear c4
         try clear c6
         try clear p6
         try clear c7
         try clear c7b0
         try clear c7b1
         try clear c14
         try clear c15
         try clear c15b0
         try clear c16
         try clear c16b0
         try clear c17
         try clear c17b0
         try clear c18
         try clear c18b0
         try clear c18b1
         try clear c19
         try clear c19b0
         try clear c20
         try clear c21
         try clear c23
         try clear c23b0
         try clear c25
         try clear c28
         try clear c28b0
         try clear c30
         try clear p31
         try clear q31
         try clear hx31
         try clear c33
         try clear c33b0
         try clear c34
         try clear c34b0
         try clear c36
         try clear c36b0
         try clear c38
         try clear c42
         try clear c47
         try clear c49
         try clear c49b0
         try clear c49b1
         try clear hcz10_0
         try clear hcz10_1
         try clear hcz12_0
         try clear hcz12_1
         try clear hcz22_0
         try clear hcz22_1
         try clear hcz22_2
         try clear hcz26_0
         try clear hcz26_1
         try clear hcz26_2
         try clear hcz27_0
         try clear hcz27_1
         try clear hcz31_0
         try clear hcz31_1
         try clear hcz31_2
         try clear hcz32_0
         try clear hcz32_1
         try clear hcz39_0
         try clear hcz39_1
         try clear hcz39_2
         try clear hcz40_0
         try clear hcz40_1
         try clear hcz43_0
         try clear hcz43_1
         try clear hcz43_2
         try clear hcz44_0
         try clear hcz44_1
         try clear hcz48_0
         try clear hcz48_1
         try clear hcz48_2
         try clear hcz8_0
         try clear hcz8_1
         try clear hfz10_0
         try clear hfz10_1
         try clear hfz12_0
         try clear hfz12_1
         try clear hfz22_0
         try clear hfz22_1
         try clear hfz22_2
         try clear hfz26_0
         try clear hfz26_1
         try clear hfz26_2
         try clear hfz27_0
         try clear hfz27_1
         try clear hfz31_0
         try clear hfz31_1
         try clear hfz31_2
         try clear hfz32_0
         try clear hfz32_1
         try clear hfz39_0
         try clear hfz39_1
         try clear hfz39_2
         try clear hfz40_0
         try clear hfz40_1
         try clear hfz43_0
         try clear hfz43_1
         try clear hfz43_2
         try clear hfz44_0
         try clear hfz44_1
         try clear hfz48_0
         try clear hfz48_1
         try clear hfz48_2
         try clear hfz8_0
         try clear hfz8_1
         try clear hx314_0
         try clear hx314_1
         try clear hx314_2
         try clear hx316_0
         try clear p2
         try clear p314
         try clear p316
         try clear q314
         try clear q316
         obtain ⟨kq, x61_44, rfl, HA, HJ44, BK312, BK315, HB⟩ := hcut
         cases kq with
         | zero => exact absurd HA.out (by simp [impl_isTerm.j2])
         | succ kj44 =>
          have H := HA.out
          clear HA
          simp only [impl_isTerm.j2] at H
          by_cases c50 : x61_44 = true
          ·subst c50
           rw [if_pos rfl] at H
           by_cases c51 : ((rd_T35 l1 x23_2).f1) = 0
           ·rw [if_pos c51] at H
            have c51b0 : (((rd_T35 l1 x23_2).f1) == 0) = true := beq_iff_eq.mpr c51
            have c51b1 : (((rd_T35 l1 x23_2).f1) != 0) = false := bne_eq_false_iff_eq.mpr c51
            clear c51
            by_cases c52 : ((rd_T35 l1 x23_2).f2) = 0
            ·rw [if_pos c52] at H
             have c52b0 : (((rd_T35 l1 x23_2).f2) == 0) = true := beq_iff_eq.mpr c52
             have c52b1 : (((rd_T35 l1 x23_2).f2) != 0) = false := bne_eq_false_iff_eq.mpr c52
             clear c52
             by_cases c53 : x5_2 < 2
             ·rw [if_pos c53] at H
              have c53b0 := decide_eq_true c53
              clear c53
              obtain rfl := Option.some.inj H
              have hnb54 := NB315_312.out
              have hnc54 := NB312_315.out
              have hcz55 := Z.c3 BK315.out
              go_wp2
              repeat (go_quiet (fail); try go_wp2)
              go_ret
              exact ⟨by first | rfl | (simp [errW_none, errW_some] <;> rfl) | (simp [*, errW_none, errW_some] <;> rfl), by repeat (first | (with_reducible first | exact HB.out | apply below_alloc | apply pw_below_drewN | apply below_drew1 | refine below_set ?_ GE312.out | refine below_set ?_ GE315.out) | exact HB.out)⟩
             ·rw [if_neg c53] at H
              have c53b0 := decide_eq_false c53
              clear c53
              have H' := Aside0.mk H
              clear H
              have hnb56 := NB315_312.out
              have hnc56 := NB312_315.out
              have hcz57 := Z.c3 BK315.out
              go_wp2
              repeat (go_quiet (fail); try go_wp2)
              go_roundg kj44
              case measure => have := HJ2.out; have := HK2.out; have := HJ44.out; omega
              case rel => exact ⟨(wrap64 (x5_2 - 1)), (wrap64 (x23_2 + 1)), (by first | rfl | (simp; done) | (simp [*]; done)), (by first | rfl | (simp; done) | (simp [*]; done)), H', ⟨by have := HJ2.out; have := HK2.out; have := HJ44.out; omega⟩, ⟨by (with_reducible repeat (first | refine blk_drewN ?_ _ | refine blk_drew ?_ | refine blk_alloc ?_ _)); exact BK312.out⟩, ⟨by repeat (first | (with_reducible first | exact HB.out | apply below_alloc | apply pw_below_drewN | apply below_drew1 | refine below_set ?_ GE312.out | refine below_set ?_ GE315.out) | exact HB.out)⟩⟩
            ·rw [if_neg c52] at H
             have c52b0 : (((rd_T35 l1 x23_2).f2) == 0) = false := beq_eq_false_iff_ne.mpr c52
             have c52b1 : (((rd_T35 l1 x23_2).f2) != 0) = true := bne_iff_ne.mpr c52
             obtain rfl := Option.some.inj H
             have hnb58 := NB315_312.out
             have hnc58 := NB312_315.out
             have hcz59 := Z.c3 BK315.out
             go_wp2
             repeat (go_quiet (fail); try go_wp2)
             go_ret
             exact ⟨by first | rfl | (simp [errW_none, errW_some] <;> rfl) | (simp [*, errW_none, errW_some] <;> rfl), by repeat (first | (with_reducible first | exact HB.out | apply below_alloc | apply pw_below_drewN | apply below_drew1 | refine below_set ?_ GE312.out | refine below_set ?_ GE315.out) | exact HB.out)⟩
           ·rw [if_neg c51] at H
            have c51b0 : (((rd_T35 l1 x23_2).f1) == 0) = false := beq_eq_false_iff_ne.mpr c51
            have c51b1 : (((rd_T35 l1 x23_2).f1) != 0) = true := bne_iff_ne.mpr c51
            obtain rfl := Option.some.inj H
            have hnb60 := NB315_312.out
            have hnc60 := NB312_315.out
            have hcz61 := Z.c3 BK315.out
            go_wp2
            repeat (go_quiet (fail); try go_wp2)
            go_ret
            exact ⟨by first | rfl | (simp [errW_none, errW_some] <;> rfl) | (simp [*, errW_none, errW_some] <;> rfl), by repeat (first | (with_reducible first | exact HB.out | apply below_alloc | apply pw_below_drewN | apply below_drew1 | refine below_set ?_ GE312.out | refine below_set ?_ GE315.out) | exact HB.out)⟩
          ·replace c50 := Bool.eq_false_iff.mpr c50
           subst c50
           rw [if_neg (show ¬ (false = true) by decide)] at H
           obtain rfl := Option.some.inj H
           go_wp2
           repeat (go_quiet (fail); try go_wp2)
           go_ret
           exact ⟨by first | rfl | (simp [errW_none, errW_some] <;> rfl) | (simp [*, errW_none, errW_some] <;> rfl), by repeat (first | (with_reducible first | exact HB.out | apply below_alloc | apply pw_below_drewN | apply below_drew1 | refine below_set ?_ GE312.out | refine below_set ?_ GE315.out) | exact HB.out)⟩
      ·rw [if_neg c15] at H
       have c15b0 := decide_eq_false c15
       clear c15
       obtain rfl := Option.some.inj H
       go_wp2
       repeat (go_quiet (fail); try go_wp2)
       go_ret
       exact ⟨by first | rfl | (simp [errW_none, errW_some] <;> rfl) | (simp [*, errW_none, errW_some] <;> rfl), Z.bs HB.out GE312.out⟩

end Go.Proofs.Ytenjngocdinfmaa.PAll

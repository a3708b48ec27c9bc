/- Walks of functions that All reaches, in the form of the print. -/
-- PRINTED
import Derived.Test.YtenjngocdinfmaaCAll8
import Derived.Test.YtenjngocdinfmaaCAll9
namespace Go.Proofs.Ytenjngocdinfmaa.PAll
open Go.RowKit Go.Proofs.YtenjngocdinfmaaW.PrintWords Go.Proofs.YtenjngocdinfmaaW.PrintLast Go.Proofs.YtenjngocdinfmaaW.PrintMore
attribute [local go_sem] max2_int min2_int max_two min_two max_three min_three max_four min_four
set_option linter.unusedVariables false
set_option linter.unusedSimpArgs false

/-! ### impl_StrongerOk: function 13 -/
mutual
def impl_StrongerOk.j0 : Nat → List (S35) → Int → Int → Bool → Int → List Int → Option (Bool)
 | 0, _, _, _, _, _, _ => none
 | k + 1, x1, x2, x3, x33, x471000, x471001 => if x33 = true then (some false) else (if 0 ≤ x471000 then (impl_StrongerOk.l0 k x1 x2 x3 (shl .i64 1 x471000) 0 x471000 x471001) else (none))
def impl_StrongerOk.l0 : Nat → List (S35) → Int → Int → Int → Int → Int → List Int → Option (Bool)
 | 0, _, _, _, _, _, _, _ => none
 | k + 1, x1, x2, x3, x36, x37, x471000, x471001 => if x37 < x36 then (if 0 ≤ x2 then (if (Go.bits .and .i64 (shr .i64 x37 x2) 1) = 1 then (impl_StrongerOk.j2 k x1 x2 x3 x37 x36 x37 true x471000 x471001) else (if 0 ≤ x3 then (impl_StrongerOk.j2 k x1 x2 x3 x37 x36 x37 ((Go.bits .and .i64 (shr .i64 x37 x3) 1) == 1) x471000 x471001) else (none))) else (none)) else (some true)
def impl_StrongerOk.j2 : Nat → List (S35) → Int → Int → Int → Int → Int → Bool → Int → List Int → Option (Bool)
 | 0, _, _, _, _, _, _, _, _, _ => none
 | k + 1, x1, x2, x3, x9, x36, x37, x51, x471000, x471001 => if x51 = true then (impl_StrongerOk.l0 k x1 x2 x3 x36 (wrap64 (x37 + 1)) x471000 x471001) else (if 0 ≤ x3 then ((impl_consents.f k x471000 x471001 x1 (Go.bits .or .i64 x9 (shl .i64 1 x3))).bind fun t472 => (if t472 = true then (if 0 ≤ x2 then ((impl_consents.f k x471000 x471001 x1 (Go.bits .or .i64 x9 (shl .i64 1 x2))).bind fun t473 => (if t473 = true then (impl_StrongerOk.l0 k x1 x2 x3 x36 (wrap64 (x37 + 1)) x471000 x471001) else (some false))) else (none)) else (impl_StrongerOk.l0 k x1 x2 x3 x36 (wrap64 (x37 + 1)) x471000 x471001))) else (none))
end
def impl_StrongerOk.f (k : Nat) (a0_0 : Int) (l0_1 : List Int) (l1 : List (S35)) (a2 : Int) (a3 : Int) : Option (Bool) := (impl_isTerm.f k a0_0 l0_1 l1).bind fun t471 => (if t471 = true then (if a2 < 0 then (impl_StrongerOk.j0 k l1 a2 a3 true a0_0 l0_1) else (if a2 ≥ a0_0 then (impl_StrongerOk.j0 k l1 a2 a3 true a0_0 l0_1) else (if a3 < 0 then (impl_StrongerOk.j0 k l1 a2 a3 true a0_0 l0_1) else (impl_StrongerOk.j0 k l1 a2 a3 (decide (a3 ≥ a0_0)) a0_0 l0_1)))) else (impl_StrongerOk.j0 k l1 a2 a3 true a0_0 l0_1))
def impl_StrongerOk.T7 : Bool × List (List Nat × List Nat) := (true, [([], []), ([], []), ([], []), ([], []), ([3], [3]), ([2, 4], [2, 4]), ([0, 1, 5], [0, 1, 5]), ([6, 6], [6]), ([7], [7]), ([7], [7]), ([7], [7]), ([7], [7]), ([11, 7], [7, 11]), ([10, 12, 7], [7, 10, 12]), ([8, 9, 13, 7, 7], [7, 8, 9, 13]), ([14, 7], [7, 14]), ([7, 15], [7, 15])])
def impl_StrongerOk.B7 : List Nat := [0, 0, 0, 0, 8, 28, 63, 127, 255, 255, 255, 255, 2303, 7423, 16383, 32767, 65535]
theorem impl_StrongerOk.tab7 : rtab .any (opsOf Try.f13 7) = impl_StrongerOk.T7 := by kernel_rfl
theorem impl_StrongerOk.bits7 : waitsOk impl_StrongerOk.T7.2 impl_StrongerOk.B7 = true := by kernel_rfl
set_option maxHeartbeats 8000000 in
set_option maxRecDepth 100000 in
theorem impl_StrongerOk.calls (k : Nat) (a0_0 : Int) (A0_1 : Option Addr) (c0_1 : Nat) (l0_1 : List Int) (A1 : Option Addr) (c1 : Nat) (l1 : List (S35)) (a2 : Int) (a3 : Int) (r : Bool) (w : World) (hr0_1 : Kd.C (Kd.int .i64) w A0_1 l0_1.length l0_1) (hc0_1 : l0_1.length ≤ c0_1) (hr1 : Kd.C k35 w A1 l1.length l1) (hc1 : l1.length ≤ c1) (h : impl_StrongerOk.f k a0_0 l0_1 l1 a2 a3 = some r) :
  Calls Try.prog 13 #[.agg #[.int .i64 a0_0, .slice A0_1 l0_1.length c0_1], .slice A1 l1.length c1, .int .i64 a2, .int .i64 a3] w fun e w' => e = .returned (.bool r) ∧ Below w.heap.size w w' := by
 have hu25 := Try.underlying25
 have HR0_1 := Aside0.mk hr0_1
 have HC0_1 := Aside0.mk hc0_1
 clear hr0_1 hc0_1
 have HR1 := Aside0.mk hr1
 have HC1 := Aside0.mk hc1
 clear hr1 hc1
 have HB := Aside0.mk (Below.refl w.heap.size w)
 have H := h
 clear h
 unfold impl_StrongerOk.f at H
 have HC5 := Aside0.mk H
 clear H
 go_enter Try.func13, Try.ntmps13
 go_upto_region 1 with (first | ((with_reducible refine gate_dst (N := 4) rfl ?_); refine Z.bx #[.int .i64 a0_0, .slice A0_1 l0_1.length c0_1] 25 HB ?_; clear HB; intro gb470 w6 BK470 GE470 HB hg hb; have GW470 := GE470; clear hb hg))
 (try simp only [Act.put, List.setIfInBounds_toArray, List.set_cons_zero, List.set_cons_succ])
 go_cut [33] (fun v33 wc => ∃ (kq : Nat) (x33_4 : Bool), v33 = .bool x33_4 ∧ Aside0 (impl_StrongerOk.j0 kq l1 a2 a3 x33_4 a0_0 l0_1 = some r) ∧ Aside0 (kq ≤ k) ∧ Aside0 (wc.heap[gb470]? = some (.cells #[.int .i64 a0_0, (.slice A0_1 l0_1.length c0_1)] 25 (0, 0))) ∧ Aside0 (Below w.heap.size w wc))
 case first =>
  have H := HC5.out
  clear HC5
  replace H := Option.bind_eq_some_iff.mp H
  obtain ⟨t471, A70, H⟩ := H
  try dsimp only at H
  have A7 := Aside0.mk A70
  clear A70
  by_cases c8 : t471 = true
  ·subst c8
   rw [if_pos rfl] at H
   by_cases c9 : a2 < 0
   ·rw [if_pos c9] at H
    have c9b0 := decide_eq_true c9
    clear c9
    (first | rw [c9b0] | (simp only [i64_w, i32_w]; rw [c9b0]) | skip)
    have H' := Aside0.mk H
    clear H
    have hcz10 := Z.c2 BK470.out
    go_wp2_with (first | ((with_reducible refine gate_callee (f := 20) rfl ?_); refine goesL_ (some 12) rfl rfl Try.func20 (by kernel_rfl) rfl #[.agg #[.int .i64 a0_0, .slice A0_1 l0_1.length c0_1], .slice A1 l1.length c1] rfl Z.ar ?_; (with_reducible refine (impl_isTerm.calls k a0_0 _ _ l0_1 _ _ l1 true _ ?q1 ?q2 ?q3 ?q4 A7.out).mono ?_); (case q1 => exact Z.cc HR0_1 HB); (case q2 => exact HC0_1.out); (case q3 => exact Z.cc HR1 HB); (case q4 => exact HC1.out); rintro e w11 ⟨rfl, hb⟩; refine ⟨_, rfl, ?_⟩; replace BK470 := Z.bb BK470 hb; replace HB := Z.st (Z.bs HB.out GE470.out) hb; (try clear hb); (try clear hb2); (try clear hk); (try clear hi)))
    go_meet
    case rel => exact ⟨_, (true), (by first | rfl | (simp; done) | (simp [*]; done)), H', ⟨by first | omega | exact Nat.le_refl _⟩, ⟨by (with_reducible repeat (first | refine blk_drewN ?_ _ | refine blk_drew ?_ | refine blk_alloc ?_ _)); exact BK470.out⟩, ⟨Z.bs HB.out GE470.out⟩⟩
   ·rw [if_neg c9] at H
    have c9b0 := decide_eq_false c9
    clear c9
    (first | rw [c9b0] | (simp only [i64_w, i32_w]; rw [c9b0]) | skip)
    by_cases c12 : a2 ≥ a0_0
    ·rw [if_pos c12] at H
     have c12b0 : decide (a0_0 ≤ a2) = true := decide_eq_true c12
     clear c12
     have H' := Aside0.mk H
     clear H
     have hcz13 := Z.c2 BK470.out
     go_wp2_with (first | ((with_reducible refine gate_callee (f := 20) rfl ?_); refine goesL_ (some 12) rfl rfl Try.func20 (by kernel_rfl) rfl #[.agg #[.int .i64 a0_0, .slice A0_1 l0_1.length c0_1], .slice A1 l1.length c1] rfl Z.ar ?_; (with_reducible refine (impl_isTerm.calls k a0_0 _ _ l0_1 _ _ l1 true _ ?q1 ?q2 ?q3 ?q4 A7.out).mono ?_); (case q1 => exact Z.cc HR0_1 HB); (case q2 => exact HC0_1.out); (case q3 => exact Z.cc HR1 HB); (case q4 => exact HC1.out); rintro e w14 ⟨rfl, hb⟩; refine ⟨_, rfl, ?_⟩; replace BK470 := Z.bb BK470 hb; replace HB := Z.st (Z.bs HB.out GE470.out) hb; (try clear hb); (try clear hb2); (try clear hk); (try clear hi); have hcz15 := Z.c2 BK470.out))
     go_meet
     case rel => exact ⟨_, (true), (by first | rfl | (simp; done) | (simp [*]; done)), H', ⟨by first | omega | exact Nat.le_refl _⟩, ⟨by (with_reducible repeat (first | refine blk_drewN ?_ _ | refine blk_drew ?_ | refine blk_alloc ?_ _)); exact BK470.out⟩, ⟨Z.bs HB.out GE470.out⟩⟩
    ·rw [if_neg c12] at H
     have c12b0 : decide (a0_0 ≤ a2) = false := decide_eq_false c12
     clear c12
     by_cases c16 : a3 < 0
     ·rw [if_pos c16] at H
      have c16b0 := decide_eq_true c16
      clear c16
      have H' := Aside0.mk H
      clear H
      have hcz17 := Z.c2 BK470.out
      go_wp2_with (first | ((with_reducible refine gate_callee (f := 20) rfl ?_); refine goesL_ (some 12) rfl rfl Try.func20 (by kernel_rfl) rfl #[.agg #[.int .i64 a0_0, .slice A0_1 l0_1.length c0_1], .slice A1 l1.length c1] rfl Z.ar ?_; (with_reducible refine (impl_isTerm.calls k a0_0 _ _ l0_1 _ _ l1 true _ ?q1 ?q2 ?q3 ?q4 A7.out).mono ?_); (case q1 => exact Z.cc HR0_1 HB); (case q2 => exact HC0_1.out); (case q3 => exact Z.cc HR1 HB); (case q4 => exact HC1.out); rintro e w18 ⟨rfl, hb⟩; refine ⟨_, rfl, ?_⟩; replace BK470 := Z.bb BK470 hb; replace HB := Z.st (Z.bs HB.out GE470.out) hb; (try clear hb); (try clear hb2); (try clear hk); (try clear hi); have hcz19 := Z.c2 BK470.out))
      go_meet
      case rel => exact ⟨_, (true), (by first | rfl | (simp; done) | (simp [*]; done)), H', ⟨by first | omega | exact Nat.le_refl _⟩, ⟨by (with_reducible repeat (first | refine blk_drewN ?_ _ | refine blk_drew ?_ | refine blk_alloc ?_ _)); exact BK470.out⟩, ⟨Z.bs HB.out GE470.out⟩⟩
     ·rw [if_neg c16] at H
      have c16b0 := decide_eq_false c16
      clear c16
      have H' := Aside0.mk H
      clear H
      have hcz20 := Z.c2 BK470.out
      go_wp2_with (first | ((with_reducible refine gate_callee (f := 20) rfl ?_); refine goesL_ (some 12) rfl rfl Try.func20 (by kernel_rfl) rfl #[.agg #[.int .i64 a0_0, .slice A0_1 l0_1.length c0_1], .slice A1 l1.length c1] rfl Z.ar ?_; (with_reducible refine (impl_isTerm.calls k a0_0 _ _ l0_1 _ _ l1 true _ ?q1 ?q2 ?q3 ?q4 A7.out).mono ?_); (case q1 => exact Z.cc HR0_1 HB); (case q2 => exact HC0_1.out); (case q3 => exact Z.cc HR1 HB); (case q4 => exact HC1.out); rintro e w21 ⟨rfl, hb⟩; refine ⟨_, rfl, ?_⟩; replace BK470 := Z.bb BK470 hb; replace HB := Z.st (Z.bs HB.out GE470.out) hb; (try clear hb); (try clear hb2); (try clear hk); (try clear hi); have hcz22 := Z.c2 BK470.out))
      go_meet
      case rel => exact ⟨_, (decide (a3 ≥ a0_0)), (by first | rfl | (simp; done) | (simp [*]; done)), H', ⟨by first | omega | exact Nat.le_refl _⟩, ⟨by (with_reducible repeat (first | refine blk_drewN ?_ _ | refine blk_drew ?_ | refine blk_alloc ?_ _)); exact BK470.out⟩, ⟨Z.bs HB.out GE470.out⟩⟩
  ·replace c8 := Bool.eq_false_iff.mpr c8
   subst c8
   rw [if_neg (show ¬ (false = true) by decide)] at H
   have H' := Aside0.mk H
   clear H
   have hcz23 := Z.c2 BK470.out
   go_wp2_with (first | ((with_reducible refine gate_callee (f := 20) rfl ?_); refine goesL_ (some 12) rfl rfl Try.func20 (by kernel_rfl) rfl #[.agg #[.int .i64 a0_0, .slice A0_1 l0_1.length c0_1], .slice A1 l1.length c1] rfl Z.ar ?_; (with_reducible refine (impl_isTerm.calls k a0_0 _ _ l0_1 _ _ l1 false _ ?q1 ?q2 ?q3 ?q4 A7.out).mono ?_); (case q1 => exact Z.cc HR0_1 HB); (case q2 => exact HC0_1.out); (case q3 => exact Z.cc HR1 HB); (case q4 => exact HC1.out); rintro e w24 ⟨rfl, hb⟩; refine ⟨_, rfl, ?_⟩; replace BK470 := Z.bb BK470 hb; replace HB := Z.st (Z.bs HB.out GE470.out) hb; (try clear hb); (try clear hb2); (try clear hk); (try clear hi)))
   go_meet
   case rel => exact ⟨_, (true), (by first | rfl | (simp; done) | (simp [*]; done)), H', ⟨by first | omega | exact Nat.le_refl _⟩, ⟨by (with_reducible repeat (first | refine blk_drewN ?_ _ | refine blk_drew ?_ | refine blk_alloc ?_ _)); exact BK470.out⟩, ⟨Z.bs HB.out GE470.out⟩⟩
 case rest =>
  clear HC5
  try clear c1
  try clear c2
  try clear p2
  try clear c8
  try clear c9
  try clear c9b0
  try clear c12
  try clear c12b0
  try clear c13
  try clear c16
  try clear c16b0
  try clear c20
  try clear hcz10_0
  try clear hcz10_1
  try clear hcz13_0
  try clear hcz13_1
  try clear hcz15_0
  try clear hcz15_1
  try clear hcz17_0
  try clear hcz17_1
  try clear hcz19_0
  try clear hcz19_1
  try clear hcz20_0
  try clear hcz20_1
  try clear hcz22_0
  try clear hcz22_1
  try clear hcz23_0
  try clear hcz23_1
  try clear hfz10_0
  try clear hfz10_1
  try clear hfz13_0
  try clear hfz13_1
  try clear hfz15_0
  try clear hfz15_1
  try clear hfz17_0
  try clear hfz17_1
  try clear hfz19_0
  try clear hfz19_1
  try clear hfz20_0
  try clear hfz20_1
  try clear hfz22_0
  try clear hfz22_1
  try clear hfz23_0
  try clear hfz23_1
  obtain ⟨kq, x33_4, rfl, HA, HJ4, BK470, HB⟩ := hcut
  cases kq with
  | zero => exact absurd HA.out (by simp [impl_StrongerOk.j0])
  | succ kj4 =>
   have H := HA.out
   clear HA
   simp only [impl_StrongerOk.j0] at H
   by_cases c25 : x33_4 = true
   ·subst c25
    rw [if_pos rfl] at H
    obtain rfl := Option.some.inj H
    go_wp2
    go_ret
    exact ⟨by first | rfl | (simp [errW_none, errW_some] <;> rfl) | (simp [*, errW_none, errW_some] <;> rfl), Z.bs HB.out GE470.out⟩
   ·replace c25 := Bool.eq_false_iff.mpr c25
    subst c25
    rw [if_neg (show ¬ (false = true) by decide)] at H
    obtain ⟨c26, H⟩ := Z.ifp H
    have c26b0 := eq_true c26
    have c26b1 : decide (0 ≤ a0_0) = true := decide_eq_true c26
    clear c26
    obtain ⟨ji27, hji27⟩ : ∃ j_ : Int, (shl .i64 1 a0_0) = j_ := ⟨_, rfl⟩
    replace H : (impl_StrongerOk.l0 kj4 l1 a2 a3 ji27 0 a0_0 l0_1) = some r := by first | (rw [hji27] at H; exact H) | (simp only [hji27] at H ⊢; exact H)
    have hji27_ : (IntKind.i64.wrap (1 * 2 ^ min a0_0.toNat 64)) = ji27 := hji27
    have hji27z : a0_0 ≤ 64 → (IntKind.i64.wrap (1 * 2 ^ a0_0.toNat)) = ji27 := shl_small hji27
    have hji27u : (IntKind.i64.wrap (2 ^ min a0_0.toNat 64)) = ji27 := by have h_ := hji27_; rw [Int.one_mul] at h_; exact h_
    have hji27v : a0_0 ≤ 64 → (IntKind.i64.wrap (2 ^ a0_0.toNat)) = ji27 := fun hle_ => by have h_ := hji27z hle_; rw [Int.one_mul] at h_; exact h_
    have hji27y : (wrap64 (1 * 2 ^ min a0_0.toNat 64)) = ji27 := (i64_w _).symm.trans hji27_
    have hji27x : a0_0 ≤ 64 → (wrap64 (1 * 2 ^ a0_0.toNat)) = ji27 := fun h_ => (i64_w _).symm.trans (hji27z h_)
    have H' := Aside0.mk H
    clear H
    have hcz28 := Z.c2 BK470.out
    go_wp2
    go_loopg [37] kj4 (fun kq v37 w' => ∃ (x37_2 : Int), v37 = .int .i64 x37_2 ∧ Aside0 (impl_StrongerOk.l0 kq l1 a2 a3 ji27 x37_2 a0_0 l0_1 = some r) ∧ Aside0 (kq ≤ kj4) ∧ Aside0 (w'.heap[gb470]? = some (.cells #[.int .i64 a0_0, (.slice A0_1 l0_1.length c0_1)] 25 (0, 0))) ∧ Aside0 (Below w.heap.size w w'))
    case atStart => exact ⟨(0), (by first | rfl | (simp; done) | (simp [*]; done)), H', ⟨Nat.le_refl _⟩, ⟨by (with_reducible repeat (first | refine blk_drewN ?_ _ | refine blk_drew ?_ | refine blk_alloc ?_ _)); exact BK470.out⟩, ⟨Z.bs HB.out GE470.out⟩⟩
    case round =>
     clear H'
     try clear c1
     try clear c2
     try clear p2
     try clear p6
     try clear c8
     try clear c9
     try clear c9b0
     try clear c12
     try clear c12b0
     try clear c13
     try clear c16
     try clear c16b0
     try clear c20
     try clear c25
     try clear c26
     try clear c26b0
     try clear c26b1
     try clear hcz10_0
     try clear hcz10_1
     try clear hcz13_0
     try clear hcz13_1
     try clear hcz15_0
     try clear hcz15_1
     try clear hcz17_0
     try clear hcz17_1
     try clear hcz19_0
     try clear hcz19_1
     try clear hcz20_0
     try clear hcz20_1
     try clear hcz22_0
     try clear hcz22_1
     try clear hcz23_0
     try clear hcz23_1
     try clear hcz28_0
     try clear hcz28_1
     try clear hfz10_0
     try clear hfz10_1
     try clear hfz13_0
     try clear hfz13_1
     try clear hfz15_0
     try clear hfz15_1
     try clear hfz17_0
     try clear hfz17_1
     try clear hfz19_0
     try clear hfz19_1
     try clear hfz20_0
     try clear hfz20_1
     try clear hfz22_0
     try clear hfz22_1
     try clear hfz23_0
     try clear hfz23_1
     try clear hfz28_0
     try clear hfz28_1
     try clear p2
     obtain ⟨x37_2, rfl, HA, HK2, BK470, HB⟩ := hrel
     cases gk with
     | zero => exact absurd HA.out (by simp [impl_StrongerOk.l0])
     | succ k2 =>
      have H := HA.out
      clear HA
      simp only [impl_StrongerOk.l0] at H
      by_cases c29 : x37_2 < ji27
      ·rw [if_pos c29] at H
       have c29b0 := decide_eq_true c29
       clear c29
       have HC30 := Aside0.mk H
       clear H
       go_upto_region 6 with (fail)
       go_cut [51] (fun v51 wc => ∃ (kq : Nat) (x51_29 : Bool), v51 = .bool x51_29 ∧ Aside0 (impl_StrongerOk.j2 kq l1 a2 a3 x37_2 ji27 x37_2 x51_29 a0_0 l0_1 = some r) ∧ Aside0 (kq ≤ k2) ∧ Aside0 (wc.heap[gb470]? = some (.cells #[.int .i64 a0_0, (.slice A0_1 l0_1.length c0_1)] 25 (0, 0))) ∧ Aside0 (Below w.heap.size w wc))
       case first =>
        have H := HC30.out
        clear HC30
        obtain ⟨c31, H⟩ := Z.ifp H
        have c31b0 := eq_true c31
        have c31b1 : decide (0 ≤ a2) = true := decide_eq_true c31
        clear c31
        obtain ⟨ji32, hji32⟩ : ∃ j_ : Int, (shr .i64 x37_2 a2) = j_ := ⟨_, rfl⟩
        replace H : (if (Go.bits .and .i64 (ji32) 1) = 1 then (impl_StrongerOk.j2 k2 l1 a2 a3 x37_2 ji27 x37_2 true a0_0 l0_1) else (if 0 ≤ a3 then (impl_StrongerOk.j2 k2 l1 a2 a3 x37_2 ji27 x37_2 ((Go.bits .and .i64 (shr .i64 x37_2 a3) 1) == 1) a0_0 l0_1) else (none))) = some r := by first | (rw [hji32] at H; exact H) | (simp only [hji32] at H ⊢; exact H)
        have hji32_ : (x37_2 / 2 ^ min a2.toNat 64) = ji32 := hji32
        have hji32z : a2 ≤ 64 → (x37_2 / 2 ^ a2.toNat) = ji32 := shr_small hji32
        by_cases c33 : (Go.bits .and .i64 (ji32) 1) = 1
        ·rw [if_pos c33] at H
         have c33b0 : ((Go.bits .and .i64 (ji32) 1) == 1) = true := beq_iff_eq.mpr c33
         have c33b1 : ((Go.bits .and .i64 (ji32) 1) != 1) = false := bne_eq_false_iff_eq.mpr c33
         clear c33
         (first | rw [c33b0] | (simp only [i64_w, i32_w]; rw [c33b0]) | skip)
         have H' := Aside0.mk H
         clear H
         go_wp2
         go_meet
         case rel => exact ⟨_, (true), (by first | rfl | (simp; done) | (simp [*]; done)), H', ⟨by have := HJ4.out; have := HK2.out; first | omega | exact Nat.le_refl _⟩, ⟨by (with_reducible repeat (first | refine blk_drewN ?_ _ | refine blk_drew ?_ | refine blk_alloc ?_ _)); exact BK470.out⟩, ⟨Z.bs HB.out GE470.out⟩⟩
        ·rw [if_neg c33] at H
         have c33b0 : ((Go.bits .and .i64 (ji32) 1) == 1) = false := beq_eq_false_iff_ne.mpr c33
         have c33b1 : ((Go.bits .and .i64 (ji32) 1) != 1) = true := bne_iff_ne.mpr c33
         (first | rw [c33b0] | (simp only [i64_w, i32_w]; rw [c33b0]) | skip)
         obtain ⟨c34, H⟩ := Z.ifp H
         have c34b0 := eq_true c34
         have c34b1 : decide (0 ≤ a3) = true := decide_eq_true c34
         clear c34
         obtain ⟨ji35, hji35⟩ : ∃ j_ : Int, (shr .i64 x37_2 a3) = j_ := ⟨_, rfl⟩
         replace H : (impl_StrongerOk.j2 k2 l1 a2 a3 x37_2 ji27 x37_2 ((Go.bits .and .i64 (ji35) 1) == 1) a0_0 l0_1) = some r := by first | (rw [hji35] at H; exact H) | (simp only [hji35] at H ⊢; exact H)
         have hji35_ : (x37_2 / 2 ^ min a3.toNat 64) = ji35 := hji35
         have hji35z : a3 ≤ 64 → (x37_2 / 2 ^ a3.toNat) = ji35 := shr_small hji35
         have H' := Aside0.mk H
         clear H
         go_wp2
         go_meet
         case rel => exact ⟨_, (((Go.bits .and .i64 (ji35) 1) == 1)), (by first | rfl | (simp; done) | (simp only [← hji35] <;> (first | rfl | simp)) | (simp [*]; done)), H', ⟨by have := HJ4.out; have := HK2.out; first | omega | exact Nat.le_refl _⟩, ⟨by (with_reducible repeat (first | refine blk_drewN ?_ _ | refine blk_drew ?_ | refine blk_alloc ?_ _)); exact BK470.out⟩, ⟨Z.bs HB.out GE470.out⟩⟩
       case rest =>
        clear HC30
        try clear c1
        try clear c2
        try clear p2
        try clear c3
        try clear p6
        try clear c8
        try clear c9
        try clear c9b0
        try clear c12
        try clear c12b0
        try clear c13
        try clear c16
        try clear c16b0
        try clear c20
        try clear c25
        try clear c26
        try clear c26b0
        try clear c26b1
        try clear c29
        try clear c29b0
        try clear c31
        try clear c31b0
        try clear c31b1
        try clear c33
        try clear c33b0
        try clear c33b1
        try clear c34
        try clear c34b0
        try clear c34b1
        try clear hcz10_0
        try clear hcz10_1
        try clear hcz13_0
        try clear hcz13_1
        try clear hcz15_0
        try clear hcz15_1
        try clear hcz17_0
        try clear hcz17_1
        try clear hcz19_0
        try clear hcz19_1
        try clear hcz20_0
        try clear hcz20_1
        try clear hcz22_0
        try clear hcz22_1
        try clear hcz23_0
        try clear hcz23_1
        try clear hcz28_0
        try clear hcz28_1
        try clear hfz10_0
        try clear hfz10_1
        try clear hfz13_0
        try clear hfz13_1
        try clear hfz15_0
        try clear hfz15_1
        try clear hfz17_0
        try clear hfz17_1
        try clear hfz19_0
        try clear hfz19_1
        try clear hfz20_0
        try clear hfz20_1
        try clear hfz22_0
        try clear hfz22_1
        try clear hfz23_0
        try clear hfz23_1
        try clear hfz28_0
        try clear hfz28_1
        try clear p2
        try clear p6
        obtain ⟨kq, x51_29, rfl, HA, HJ29, BK470, HB⟩ := hcut
        cases kq with
        | zero => exact absurd HA.out (by simp [impl_StrongerOk.j2])
        | succ kj29 =>
         have H := HA.out
         clear HA
         simp only [impl_StrongerOk.j2] at H
         by_cases c36 : x51_29 = true
         ·subst c36
          rw [if_pos rfl] at H
          have H' := Aside0.mk H
          clear H
          go_wp2
          go_roundg kj29
          case measure => have := HJ4.out; have := HK2.out; have := HJ29.out; omega
          case rel => exact ⟨(wrap64 (x37_2 + 1)), (by first | rfl | (simp; done) | (simp [*]; done)), H', ⟨by have := HJ4.out; have := HK2.out; have := HJ29.out; omega⟩, ⟨by (with_reducible repeat (first | refine blk_drewN ?_ _ | refine blk_drew ?_ | refine blk_alloc ?_ _)); exact BK470.out⟩, ⟨Z.bs HB.out GE470.out⟩⟩
         ·replace c36 := Bool.eq_false_iff.mpr c36
          subst c36
          rw [if_neg (show ¬ (false = true) by decide)] at H
          obtain ⟨c37, H⟩ := Z.ifp H
          have c37b0 := eq_true c37
          have c37b1 : decide (0 ≤ a3) = true := decide_eq_true c37
          clear c37
          obtain ⟨ji38, hji38⟩ : ∃ j_ : Int, (shl .i64 1 a3) = j_ := ⟨_, rfl⟩
          replace H : ((impl_consents.f kj29 a0_0 l0_1 l1 (Go.bits .or .i64 x37_2 (ji38))).bind fun t472 => (if t472 = true then (if 0 ≤ a2 then ((impl_consents.f kj29 a0_0 l0_1 l1 (Go.bits .or .i64 x37_2 (shl .i64 1 a2))).bind fun t473 => (if t473 = true then (impl_StrongerOk.l0 kj29 l1 a2 a3 ji27 (wrap64 (x37_2 + 1)) a0_0 l0_1) else (some false))) else (none)) else (impl_StrongerOk.l0 kj29 l1 a2 a3 ji27 (wrap64 (x37_2 + 1)) a0_0 l0_1))) = some r := by first | (rw [hji38] at H; exact H) | (simp only [hji38] at H ⊢; exact H)
          have hji38_ : (IntKind.i64.wrap (1 * 2 ^ min a3.toNat 64)) = ji38 := hji38
          have hji38z : a3 ≤ 64 → (IntKind.i64.wrap (1 * 2 ^ a3.toNat)) = ji38 := shl_small hji38
          have hji38u : (IntKind.i64.wrap (2 ^ min a3.toNat 64)) = ji38 := by have h_ := hji38_; rw [Int.one_mul] at h_; exact h_
          have hji38v : a3 ≤ 64 → (IntKind.i64.wrap (2 ^ a3.toNat)) = ji38 := fun hle_ => by have h_ := hji38z hle_; rw [Int.one_mul] at h_; exact h_
          have hji38y : (wrap64 (1 * 2 ^ min a3.toNat 64)) = ji38 := (i64_w _).symm.trans hji38_
          have hji38x : a3 ≤ 64 → (wrap64 (1 * 2 ^ a3.toNat)) = ji38 := fun h_ => (i64_w _).symm.trans (hji38z h_)
          replace H := Option.bind_eq_some_iff.mp H
          obtain ⟨t472, A390, H⟩ := H
          try dsimp only at H
          have A39 := Aside0.mk A390
          clear A390
          by_cases c40 : t472 = true
          ·subst c40
           rw [if_pos rfl] at H
           obtain ⟨c41, H⟩ := Z.ifp H
           have c41b0 := eq_true c41
           have c41b1 : decide (0 ≤ a2) = true := decide_eq_true c41
           clear c41
           obtain ⟨ji42, hji42⟩ : ∃ j_ : Int, (shl .i64 1 a2) = j_ := ⟨_, rfl⟩
           replace H : ((impl_consents.f kj29 a0_0 l0_1 l1 (Go.bits .or .i64 x37_2 (ji42))).bind fun t473 => (if t473 = true then (impl_StrongerOk.l0 kj29 l1 a2 a3 ji27 (wrap64 (x37_2 + 1)) a0_0 l0_1) else (some false))) = some r := by first | (rw [hji42] at H; exact H) | (simp only [hji42] at H ⊢; exact H)
           (try rw [hji42] at A39)
           have hji42_ : (IntKind.i64.wrap (1 * 2 ^ min a2.toNat 64)) = ji42 := hji42
           have hji42z : a2 ≤ 64 → (IntKind.i64.wrap (1 * 2 ^ a2.toNat)) = ji42 := shl_small hji42
           have hji42u : (IntKind.i64.wrap (2 ^ min a2.toNat 64)) = ji42 := by have h_ := hji42_; rw [Int.one_mul] at h_; exact h_
           have hji42v : a2 ≤ 64 → (IntKind.i64.wrap (2 ^ a2.toNat)) = ji42 := fun hle_ => by have h_ := hji42z hle_; rw [Int.one_mul] at h_; exact h_
           have hji42y : (wrap64 (1 * 2 ^ min a2.toNat 64)) = ji42 := (i64_w _).symm.trans hji42_
           have hji42x : a2 ≤ 64 → (wrap64 (1 * 2 ^ a2.toNat)) = ji42 := fun h_ => (i64_w _).symm.trans (hji42z h_)
           replace H := Option.bind_eq_some_iff.mp H
           obtain ⟨t473, A430, H⟩ := H
           try dsimp only at H
           have A43 := Aside0.mk A430
           clear A430
           by_cases c44 : t473 = true
           ·subst c44
            rw [if_pos rfl] at H
            have H' := Aside0.mk H
            clear H
            try go_wp2
            replace BK470 := Aside0.mk (blk_drew BK470.out)
            replace HB := Aside0.mk (below_drew1 HB.out)
            refine start_ (n := 17) (S := fun w' => w'.cell? ⟨gb470, 0, none⟩ = some (.int .i64 a0_0) ∧ w'.cell? ⟨gb470, 1, none⟩ = some (.slice A0_1 l0_1.length c0_1)) (ds := []) #[false, false, false, false, false, false, false, false, false, false, false, false, false, false, false, false, false] (by kernel_rfl) rfl rfl ⟨(blk_cell BK470.out 0).trans rfl, (blk_cell BK470.out 1).trans rfl⟩ (fun hHeld => ?_); refine with_tabW impl_StrongerOk.tab7 impl_StrongerOk.bits7 (fun HT_ HW_ => ?_)
            generalize wc.drew = w45 at BK470 HB hHeld ⊢
            refine Z.pv 1 53 17 2 HT_.out ?_
            refine Z.pv 2 54 17 6 HT_.out ?_
            refine Z.pv 3 55 17 14 HT_.out ?_
            refine Z.pv 4 56 17 30 HT_.out ?_
            refine Z.pv 5 57 17 62 HT_.out ?_
            refine Z.t2 0 52 17 63 HT_.out HW_.out hHeld ?_
            refine one_ (i := 6) (N := some 58) (Z.mb 17 127) rfl rfl (one_of HT_.out (by kernel_rfl)) (by decide) (fun K hK => ?_)
            refine goes_ Try.func28 (by kernel_rfl) rfl #[.agg #[.int .i64 a0_0, .slice A0_1 l0_1.length c0_1], .slice A1 l1.length c1, .int .i64 (Go.bits .or .i64 x37_2 (ji38))] (by rfl) rfl rfl (by (try simp only [List.map_toArray, List.map_cons, List.map_nil]); first | done | (simp only [hji38]; rfl) | rfl | (simp only [List.length_drop, List.length_take]; rfl)) ?_
            with_reducible refine (impl_consents.calls kj29 a0_0 _ _ l0_1 _ _ l1 (Go.bits .or .i64 x37_2 (ji38)) true _ ?q1 ?q2 ?q3 ?q4 A39.out).mono ?_
            (case q1 => exact Z.cc HR0_1 HB)
            (case q2 => exact HC0_1.out)
            (case q3 => exact Z.cc HR1 HB)
            (case q4 => exact HC1.out)
            rintro e w46 ⟨rfl, hb⟩
            refine ⟨_, rfl, ?_⟩
            replace BK470 := Z.bb BK470 hb
            replace HB := Z.st (Z.bs HB.out GE470.out) hb
            (try clear hb)
            (try clear hb2)
            (try clear hk)
            (try clear hi)
            refine hK.out _ _ ⟨(blk_cell BK470.out 0).trans rfl, (blk_cell BK470.out 1).trans rfl⟩ (fun hHeld => ?_)
            clear hK K
            refine Z.nm ?_
            refine Z.pv 7 59 17 255 HT_.out ?_
            refine Z.pv 9 61 17 767 HT_.out ?_
            refine Z.pv 10 62 17 1791 HT_.out ?_
            refine Z.pv 11 63 17 3839 HT_.out ?_
            refine Z.pv 12 64 17 7935 HT_.out ?_
            refine Z.pv 13 65 17 16127 HT_.out ?_
            refine Z.t2 8 60 17 16383 HT_.out HW_.out hHeld ?_
            refine one_ (i := 14) (N := some 66) (Z.mb 17 32767) rfl rfl (one_of HT_.out (by kernel_rfl)) (by decide) (fun K hK => ?_)
            refine goes_ Try.func28 (by kernel_rfl) rfl #[.agg #[.int .i64 a0_0, .slice A0_1 l0_1.length c0_1], .slice A1 l1.length c1, .int .i64 (Go.bits .or .i64 x37_2 (ji42))] (by rfl) rfl rfl (by (try simp only [List.map_toArray, List.map_cons, List.map_nil]); first | done | (simp only [hji42]; rfl) | rfl | (simp only [List.length_drop, List.length_take]; rfl)) ?_
            with_reducible refine (impl_consents.calls kj29 a0_0 _ _ l0_1 _ _ l1 (Go.bits .or .i64 x37_2 (ji42)) true _ ?q1 ?q2 ?q3 ?q4 A43.out).mono ?_
            (case q1 => exact Z.cc HR0_1 HB)
            (case q2 => exact HC0_1.out)
            (case q3 => exact Z.cc HR1 HB)
            (case q4 => exact HC1.out)
            rintro e w47 ⟨rfl, hb⟩
            refine ⟨_, rfl, ?_⟩
            replace BK470 := Z.bb BK470 hb
            replace HB := Z.st (Z.bs HB.out GE470.out) hb
            (try clear hb)
            (try clear hb2)
            (try clear hk)
            (try clear hi)
            refine hK.out _ _ ⟨(blk_cell BK470.out 0).trans rfl, (blk_cell BK470.out 1).trans rfl⟩ (fun hHeld => ?_)
            clear hK K
            refine Z.nm ?_
            refine Z.pv 15 67 17 65535 HT_.out ?_
            refine Z.pv 16 68 17 131071 HT_.out ?_
            refine done_ (done_of HT_.out (by kernel_rfl)) ?_
            try go_wp2
            go_roundg kj29
            case measure => have := HJ4.out; have := HK2.out; have := HJ29.out; omega
            case rel => exact ⟨(wrap64 (x37_2 + 1)), (by first | rfl | (simp; done) | (simp [*]; done)), H', ⟨by have := HJ4.out; have := HK2.out; have := HJ29.out; omega⟩, ⟨by (with_reducible repeat (first | refine blk_drewN ?_ _ | refine blk_drew ?_ | refine blk_alloc ?_ _)); exact BK470.out⟩, ⟨Z.bs HB.out GE470.out⟩⟩
           ·replace c44 := Bool.eq_false_iff.mpr c44
            subst c44
            rw [if_neg (show ¬ (false = true) by decide)] at H
            obtain rfl := Option.some.inj H
            try go_wp2
            replace BK470 := Aside0.mk (blk_drew BK470.out)
            replace HB := Aside0.mk (below_drew1 HB.out)
            refine start_ (n := 17) (S := fun w' => w'.cell? ⟨gb470, 0, none⟩ = some (.int .i64 a0_0) ∧ w'.cell? ⟨gb470, 1, none⟩ = some (.slice A0_1 l0_1.length c0_1)) (ds := []) #[false, false, false, false, false, false, false, false, false, false, false, false, false, false, false, false, false] (by kernel_rfl) rfl rfl ⟨(blk_cell BK470.out 0).trans rfl, (blk_cell BK470.out 1).trans rfl⟩ (fun hHeld => ?_); refine with_tabW impl_StrongerOk.tab7 impl_StrongerOk.bits7 (fun HT_ HW_ => ?_)
            generalize wc.drew = w48 at BK470 HB hHeld ⊢
            refine Z.pv 1 53 17 2 HT_.out ?_
            refine Z.pv 2 54 17 6 HT_.out ?_
            refine Z.pv 3 55 17 14 HT_.out ?_
            refine Z.pv 4 56 17 30 HT_.out ?_
            refine Z.pv 5 57 17 62 HT_.out ?_
            refine Z.t2 0 52 17 63 HT_.out HW_.out hHeld ?_
            refine one_ (i := 6) (N := some 58) (Z.mb 17 127) rfl rfl (one_of HT_.out (by kernel_rfl)) (by decide) (fun K hK => ?_)
            refine goes_ Try.func28 (by kernel_rfl) rfl #[.agg #[.int .i64 a0_0, .slice A0_1 l0_1.length c0_1], .slice A1 l1.length c1, .int .i64 (Go.bits .or .i64 x37_2 (ji38))] (by rfl) rfl rfl (by (try simp only [List.map_toArray, List.map_cons, List.map_nil]); first | done | (simp only [hji38]; rfl) | rfl | (simp only [List.length_drop, List.length_take]; rfl)) ?_
            with_reducible refine (impl_consents.calls kj29 a0_0 _ _ l0_1 _ _ l1 (Go.bits .or .i64 x37_2 (ji38)) true _ ?q1 ?q2 ?q3 ?q4 A39.out).mono ?_
            (case q1 => exact Z.cc HR0_1 HB)
            (case q2 => exact HC0_1.out)
            (case q3 => exact Z.cc HR1 HB)
            (case q4 => exact HC1.out)
            rintro e w49 ⟨rfl, hb⟩
            refine ⟨_, rfl, ?_⟩
            replace BK470 := Z.bb BK470 hb
            replace HB := Z.st (Z.bs HB.out GE470.out) hb
            (try clear hb)
            (try clear hb2)
            (try clear hk)
            (try clear hi)
            refine hK.out _ _ ⟨(blk_cell BK470.out 0).trans rfl, (blk_cell BK470.out 1).trans rfl⟩ (fun hHeld => ?_)
            clear hK K
            refine Z.nm ?_
            refine Z.pv 7 59 17 255 HT_.out ?_
            refine Z.pv 9 61 17 767 HT_.out ?_
            refine Z.pv 10 62 17 1791 HT_.out ?_
            refine Z.pv 11 63 17 3839 HT_.out ?_
            refine Z.pv 12 64 17 7935 HT_.out ?_
            refine Z.pv 13 65 17 16127 HT_.out ?_
            refine Z.t2 8 60 17 16383 HT_.out HW_.out hHeld ?_
            refine one_ (i := 14) (N := some 66) (Z.mb 17 32767) rfl rfl (one_of HT_.out (by kernel_rfl)) (by decide) (fun K hK => ?_)
            refine goes_ Try.func28 (by kernel_rfl) rfl #[.agg #[.int .i64 a0_0, .slice A0_1 l0_1.length c0_1], .slice A1 l1.length c1, .int .i64 (Go.bits .or .i64 x37_2 (ji42))] (by rfl) rfl rfl (by (try simp only [List.map_toArray, List.map_cons, List.map_nil]); first | done | (simp only [hji42]; rfl) | rfl | (simp only [List.length_drop, List.length_take]; rfl)) ?_
            with_reducible refine (impl_consents.calls kj29 a0_0 _ _ l0_1 _ _ l1 (Go.bits .or .i64 x37_2 (ji42)) false _ ?q1 ?q2 ?q3 ?q4 A43.out).mono ?_
            (case q1 => exact Z.cc HR0_1 HB)
            (case q2 => exact HC0_1.out)
            (case q3 => exact Z.cc HR1 HB)
            (case q4 => exact HC1.out)
            rintro e w50 ⟨rfl, hb⟩
            refine ⟨_, rfl, ?_⟩
            replace BK470 := Z.bb BK470 hb
            replace HB := Z.st (Z.bs HB.out GE470.out) hb
            (try clear hb)
            (try clear hb2)
            (try clear hk)
            (try clear hi)
            refine hK.out _ _ ⟨(blk_cell BK470.out 0).trans rfl, (blk_cell BK470.out 1).trans rfl⟩ (fun hHeld => ?_)
            clear hK K
            refine Z.nm ?_
            refine Z.pv 15 67 17 65535 HT_.out ?_
            refine Z.pv 16 68 17 131071 HT_.out ?_
            refine done_ (done_of HT_.out (by kernel_rfl)) ?_
            try go_wp2
            go_ret
            exact ⟨by first | rfl | (simp [errW_none, errW_some] <;> rfl) | (simp only [← hji27, ← hji38, ← hji42]; first | rfl | (simp [errW_none, errW_some] <;> rfl)) | (simp [*, errW_none, errW_some] <;> rfl), Z.bs HB.out GE470.out⟩
          ·replace c40 := Bool.eq_false_iff.mpr c40
           subst c40
           rw [if_neg (show ¬ (false = true) by decide)] at H
           have H' := Aside0.mk H
           clear H
           try go_wp2
           replace BK470 := Aside0.mk (blk_drew BK470.out)
           replace HB := Aside0.mk (below_drew1 HB.out)
           refine start_ (n := 17) (S := fun w' => w'.cell? ⟨gb470, 0, none⟩ = some (.int .i64 a0_0) ∧ w'.cell? ⟨gb470, 1, none⟩ = some (.slice A0_1 l0_1.length c0_1)) (ds := []) #[false, false, false, false, false, false, false, false, false, false, false, false, false, false, false, false, false] (by kernel_rfl) rfl rfl ⟨(blk_cell BK470.out 0).trans rfl, (blk_cell BK470.out 1).trans rfl⟩ (fun hHeld => ?_); refine with_tabW impl_StrongerOk.tab7 impl_StrongerOk.bits7 (fun HT_ HW_ => ?_)
           generalize wc.drew = w51 at BK470 HB hHeld ⊢
           refine Z.pv 1 53 17 2 HT_.out ?_
           refine Z.pv 2 54 17 6 HT_.out ?_
           refine Z.pv 3 55 17 14 HT_.out ?_
           refine Z.pv 4 56 17 30 HT_.out ?_
           refine Z.pv 5 57 17 62 HT_.out ?_
           refine Z.t2 0 52 17 63 HT_.out HW_.out hHeld ?_
           refine one_ (i := 6) (N := some 58) (Z.mb 17 127) rfl rfl (one_of HT_.out (by kernel_rfl)) (by decide) (fun K hK => ?_)
           refine goes_ Try.func28 (by kernel_rfl) rfl #[.agg #[.int .i64 a0_0, .slice A0_1 l0_1.length c0_1], .slice A1 l1.length c1, .int .i64 (Go.bits .or .i64 x37_2 (ji38))] (by rfl) rfl rfl (by (try simp only [List.map_toArray, List.map_cons, List.map_nil]); first | done | (simp only [hji38]; rfl) | rfl | (simp only [List.length_drop, List.length_take]; rfl)) ?_
           with_reducible refine (impl_consents.calls kj29 a0_0 _ _ l0_1 _ _ l1 (Go.bits .or .i64 x37_2 (ji38)) false _ ?q1 ?q2 ?q3 ?q4 A39.out).mono ?_
           (case q1 => exact Z.cc HR0_1 HB)
           (case q2 => exact HC0_1.out)
           (case q3 => exact Z.cc HR1 HB)
           (case q4 => exact HC1.out)
           rintro e w52 ⟨rfl, hb⟩
           refine ⟨_, rfl, ?_⟩
           replace BK470 := Z.bb BK470 hb
           replace HB := Z.st (Z.bs HB.out GE470.out) hb
           (try clear hb)
           (try clear hb2)
           (try clear hk)
           (try clear hi)
           refine hK.out _ _ ⟨(blk_cell BK470.out 0).trans rfl, (blk_cell BK470.out 1).trans rfl⟩ (fun hHeld => ?_)
           clear hK K
           refine Z.nm ?_
           refine Z.pv 7 59 17 255 HT_.out ?_
           refine Z.pu 8 60 17 511 HT_.out ?_
           refine Z.pu 9 61 17 1023 HT_.out ?_
           refine Z.pu 10 62 17 2047 HT_.out ?_
           refine Z.pu 11 63 17 4095 HT_.out ?_
           refine Z.pu 12 64 17 8191 HT_.out ?_
           refine Z.pu 13 65 17 16383 HT_.out ?_
           refine Z.pu 14 66 17 32767 HT_.out ?_
           refine Z.pu 15 67 17 65535 HT_.out ?_
           refine Z.pv 16 68 17 131071 HT_.out ?_
           refine done_ (done_of HT_.out (by kernel_rfl)) ?_
           try go_wp2
           go_roundg kj29
           case measure => have := HJ4.out; have := HK2.out; have := HJ29.out; omega
           case rel => exact ⟨(wrap64 (x37_2 + 1)), (by first | rfl | (simp; done) | (simp [*]; done)), H', ⟨by have := HJ4.out; have := HK2.out; have := HJ29.out; omega⟩, ⟨by (with_reducible repeat (first | refine blk_drewN ?_ _ | refine blk_drew ?_ | refine blk_alloc ?_ _)); exact BK470.out⟩, ⟨Z.bs HB.out GE470.out⟩⟩
      ·rw [if_neg c29] at H
       have c29b0 := decide_eq_false c29
       clear c29
       obtain rfl := Option.some.inj H
       go_wp2
       go_ret
       exact ⟨by first | rfl | (simp [errW_none, errW_some] <;> rfl) | (simp only [← hji27]; first | rfl | (simp [errW_none, errW_some] <;> rfl)) | (simp [*, errW_none, errW_some] <;> rfl), Z.bs HB.out GE470.out⟩
end Go.Proofs.Ytenjngocdinfmaa.PAll

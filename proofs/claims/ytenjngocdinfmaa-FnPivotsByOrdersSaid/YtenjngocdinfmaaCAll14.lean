/- Walks of functions that All reaches, in the form of the print. -/
-- PRINTED
import Derived.Test.YtenjngocdinfmaaCAll8
import Derived.Test.YtenjngocdinfmaaCAll13
namespace Go.Proofs.Ytenjngocdinfmaa.PAll
open Go.RowKit Go.Proofs.YtenjngocdinfmaaW.PrintWords Go.Proofs.YtenjngocdinfmaaW.PrintLast Go.Proofs.YtenjngocdinfmaaW.PrintMore
attribute [local go_sem] max2_int min2_int max_two min_two max_three min_three max_four min_four
set_option linter.unusedVariables false
set_option linter.unusedSimpArgs false

/-! ### impl_factorial: function 22 -/
def impl_factorial.l0 : Nat → Int → Int → Int → Option (Int)
 | 0, _, _, _ => none
 | k + 1, x0, x3, x4 => if x4 ≤ x0 then (impl_factorial.l0 k x0 (wrap64 (x3 * x4)) (wrap64 (x4 + 1))) else (some x3)
def impl_factorial.f (k : Nat) (a0 : Int) : Option (Int) := impl_factorial.l0 k a0 1 2
theorem impl_factorial.mono_l : ∀ k, (∀ y0 y1 y2, LeO (impl_factorial.l0 k y0 y1 y2) (impl_factorial.l0 (k + 1) y0 y1 y2))
 | 0 => fun _ _ _ r h => by simp [impl_factorial.l0] at h
 | k + 1 => by
  have ih0 := impl_factorial.mono_l k
  ·intro y0 y1 y2
   unfold impl_factorial.l0
   repeat' first
   | (with_reducible exact LeO.refl _)
   | exact ih0 _ _ _
   | exact LeO.none _
   | refine LeO.ite ?_ ?_
   | refine LeO.bind ?_ (fun _ => ?_)
theorem impl_factorial.mono : ∀ a0 k, LeO (impl_factorial.f k a0) (impl_factorial.f (k + 1) a0) := by
 intro a0 k
 have ih0 := impl_factorial.mono_l k
 unfold impl_factorial.f
 repeat' first
   | (with_reducible exact LeO.refl _)
   | exact ih0 _ _ _
   | exact LeO.none _
   | refine LeO.ite ?_ ?_
   | refine LeO.bind ?_ (fun _ => ?_)
set_option maxHeartbeats 8000000 in
set_option maxRecDepth 100000 in
theorem impl_factorial.calls (k : Nat) (a0 : Int) (r : Int) (w : World) (h : impl_factorial.f k a0 = some r) :
  Calls Try.prog 22 #[.int .i64 a0] w fun e w' => e = .returned (.int .i64 r) ∧ Drawn0 w w' := by
 have H := h
 clear h
 unfold impl_factorial.f at H
 have H' := Aside0.mk H
 clear H
 go_enter Try.func22, Try.ntmps22
 go_wp2
 go_loopg [3, 4] k (fun kq v3 v4 w' => ∃ (x3_1 : Int) (x4_1 : Int), v3 = .int .i64 x3_1 ∧ v4 = .int .i64 x4_1 ∧ Aside0 (impl_factorial.l0 kq a0 x3_1 x4_1 = some r) ∧ Aside0 (kq ≤ k) ∧ Drawn0 w w')
 case atStart => exact ⟨(1), (2), (by first | rfl | (simp; done) | (simp [*]; done)), (by first | rfl | (simp; done) | (simp [*]; done)), H', ⟨Nat.le_refl _⟩, by repeat (first | exact Drawn0.refl _ | apply Drawn0.step)⟩
 case round =>
  clear H'
  obtain ⟨x3_1, x4_1, rfl, rfl, HA, HK1, ⟨m1, rfl⟩⟩ := hrel
  cases gk with
  | zero => exact absurd HA.out (by simp [impl_factorial.l0])
  | succ k1 =>
   have H := HA.out
   clear HA
   simp only [impl_factorial.l0] at H
   by_cases c2 : x4_1 ≤ a0
   ·rw [if_pos c2] at H
    have c2b0 := decide_eq_true c2
    clear c2
    have H' := Aside0.mk H
    clear H
    go_wp2
    go_roundg k1
    case measure => have := HK1.out; omega
    case rel => exact ⟨(wrap64 (x3_1 * x4_1)), (wrap64 (x4_1 + 1)), (by first | rfl | (simp; done) | (simp [*]; done)), (by first | rfl | (simp; done) | (simp [*]; done)), H', ⟨by have := HK1.out; omega⟩, by repeat (first | exact Drawn0.refl _ | apply Drawn0.step)⟩
   ·rw [if_neg c2] at H
    have c2b0 := decide_eq_false c2
    clear c2
    obtain rfl := Option.some.inj H
    go_wp2
    go_ret
    exact ⟨by first | rfl | (simp; done) | (simp [*]; done), by repeat (first | exact Drawn0.refl _ | apply Drawn0.step)⟩

/-! ### impl_PivotsOf: function 7 -/
mutual
def impl_PivotsOf.j0 : Nat → List (S35) → Int → Bool → Int → List Int → Option (Int)
 | 0, _, _, _, _, _ => none
 | k + 1, x1, x2, x23, x418000, x418001 => if x23 = true then (some (-1)) else ((impl_swingsOf.f k x418000 x418001 x1 x2).bind fun t419 => (impl_PivotsOf.l0 k 0 t419 (t419.length : Int) 0 x418000 x418001))
def impl_PivotsOf.l0 : Nat → Int → List Int → Int → Int → Int → List Int → Option (Int)
 | 0, _, _, _, _, _, _ => none
 | k + 1, x7, x27, x28, x29, x418000, x418001 => if x29 < x28 then (if 0 ≤ x29 then (if x29 < (x27.length : Int) then ((impl_headsOf.f (rd x27 x29)).bind fun t423 => ((impl_factorial.f k t423).bind fun t424 => ((impl_headsOf.f (rd x27 x29)).bind fun t425 => ((impl_factorial.f k (wrap64 ((wrap64 (x418000 - 1)) - t425))).bind fun t426 => (impl_PivotsOf.l0 k (wrap64 (x7 + (wrap64 (t424 * t426)))) x27 x28 (wrap64 (x29 + 1)) x418000 x418001))))) else (none)) else (none)) else (some x7)
end
def impl_PivotsOf.f (k : Nat) (a0_0 : Int) (l0_1 : List Int) (l1 : List (S35)) (a2 : Int) : Option (Int) := (impl_isTerm.f k a0_0 l0_1 l1).bind fun t418 => (if t418 = true then (if a2 < 0 then (impl_PivotsOf.j0 k l1 a2 true a0_0 l0_1) else (impl_PivotsOf.j0 k l1 a2 (decide (a2 ≥ a0_0)) a0_0 l0_1)) else (impl_PivotsOf.j0 k l1 a2 true a0_0 l0_1))
def impl_PivotsOf.T7 : Bool × List (List Nat × List Nat) := (true, [([], []), ([], []), ([1], [1]), ([2, 2], [2]), ([], []), ([4], [4]), ([5], [5]), ([], []), ([7, 3], [7]), ([6, 8], [6, 8]), ([9, 8], [9]), ([3, 10], [3, 10]), ([0, 11], [0, 11]), ([12, 10, 0, 1, 2, 3, 4, 5, 6, 7, 8, 9, 10, 11, 12], [0, 12])])
def impl_PivotsOf.B7 : List Nat := [0, 0, 2, 6, 0, 16, 48, 0, 142, 510, 1022, 2046, 4095, 8191]
theorem impl_PivotsOf.tab7 : rtab .any (opsOf Try.f7 7) = impl_PivotsOf.T7 := by kernel_rfl
theorem impl_PivotsOf.bits7 : waitsOk impl_PivotsOf.T7.2 impl_PivotsOf.B7 = true := by kernel_rfl
set_option maxHeartbeats 8000000 in
set_option maxRecDepth 100000 in
theorem impl_PivotsOf.calls (k : Nat) (a0_0 : Int) (A0_1 : Option Addr) (c0_1 : Nat) (l0_1 : List Int) (A1 : Option Addr) (c1 : Nat) (l1 : List (S35)) (a2 : Int) (r : Int) (w : World) (hr0_1 : Kd.C (Kd.int .i64) w A0_1 l0_1.length l0_1) (hc0_1 : l0_1.length ≤ c0_1) (hr1 : Kd.C k35 w A1 l1.length l1) (hc1 : l1.length ≤ c1) (h : impl_PivotsOf.f k a0_0 l0_1 l1 a2 = some r) :
  Calls Try.prog 7 #[.agg #[.int .i64 a0_0, .slice A0_1 l0_1.length c0_1], .slice A1 l1.length c1, .int .i64 a2] w fun e w' => e = .returned (.int .i64 r) ∧ Below w.heap.size w w' := by
 have hu25 := Try.underlying25
 have HR0_1 := Aside0.mk hr0_1
 have HC0_1 := Aside0.mk hc0_1
 clear hr0_1 hc0_1
 have HR1 := Aside0.mk hr1
 have HC1 := Aside0.mk hc1
 clear hr1 hc1
 have HB := Aside0.mk (Below.refl w.heap.size w)
 have H := h
 clear h
 unfold impl_PivotsOf.f at H
 have HC4 := Aside0.mk H
 clear H
 go_enter Try.func7, Try.ntmps7
 go_upto_region 1 with (first | ((with_reducible refine gate_dst (N := 3) rfl ?_); refine Z.bx #[.int .i64 a0_0, .slice A0_1 l0_1.length c0_1] 25 HB ?_; clear HB; intro gb417 w5 BK417 GE417 HB hg hb; have GW417 := GE417; clear hb hg))
 repeat (go_quiet (first | ((with_reducible refine gate_dst (N := 3) rfl ?_); refine Z.bx #[.int .i64 a0_0, .slice A0_1 l0_1.length c0_1] 25 HB ?_; clear HB; intro gb417 w5 BK417 GE417 HB hg hb; have GW417 := GE417; clear hb hg)); go_upto_region 1 with (first | ((with_reducible refine gate_dst (N := 3) rfl ?_); refine Z.bx #[.int .i64 a0_0, .slice A0_1 l0_1.length c0_1] 25 HB ?_; clear HB; intro gb417 w5 BK417 GE417 HB hg hb; have GW417 := GE417; clear hb hg)))
 (try simp only [Act.put, List.setIfInBounds_toArray, List.set_cons_zero, List.set_cons_succ])
 go_cut [23] (fun v23 wc => ∃ (kq : Nat) (x23_3 : Bool), v23 = .bool x23_3 ∧ Aside0 (impl_PivotsOf.j0 kq l1 a2 x23_3 a0_0 l0_1 = some r) ∧ Aside0 (kq ≤ k) ∧ Aside0 (wc.heap[gb417]? = some (.cells #[.int .i64 a0_0, (.slice A0_1 l0_1.length c0_1)] 25 (0, 0))) ∧ Aside0 (Below w.heap.size w wc))
 case first =>
  have H := HC4.out
  clear HC4
  replace H := Option.bind_eq_some_iff.mp H
  obtain ⟨t418, A60, H⟩ := H
  try dsimp only at H
  have A6 := Aside0.mk A60
  clear A60
  by_cases c7 : t418 = true
  ·subst c7
   rw [if_pos rfl] at H
   by_cases c8 : a2 < 0
   ·rw [if_pos c8] at H
    have c8b0 := decide_eq_true c8
    clear c8
    (first | rw [c8b0] | (simp only [i64_w, i32_w]; rw [c8b0]) | skip)
    have H' := Aside0.mk H
    clear H
    have hcz9 := Z.c2 BK417.out
    go_wp2_with (first | (go_at_call 20; (with_reducible refine (impl_isTerm.calls k a0_0 _ _ l0_1 _ _ l1 true _ ?q1 ?q2 ?q3 ?q4 A6.out).mono ?_); (case q1 => exact Z.cc HR0_1 HB); (case q2 => exact HC0_1.out); (case q3 => exact Z.cc HR1 HB); (case q4 => exact HC1.out); rintro e w10 ⟨rfl, hb⟩; replace BK417 := Z.bb BK417 hb; replace HB := Z.st (Z.bs HB.out GE417.out) hb; (try clear hb); (try clear hb2); (try clear hk); (try clear hi)))
    repeat (go_quiet (first | (go_at_call 20; (with_reducible refine (impl_isTerm.calls k a0_0 _ _ l0_1 _ _ l1 true _ ?q1 ?q2 ?q3 ?q4 A6.out).mono ?_); (case q1 => exact Z.cc HR0_1 HB); (case q2 => exact HC0_1.out); (case q3 => exact Z.cc HR1 HB); (case q4 => exact HC1.out); rintro e w10 ⟨rfl, hb⟩; replace BK417 := Z.bb BK417 hb; replace HB := Z.st (Z.bs HB.out GE417.out) hb; (try clear hb); (try clear hb2); (try clear hk); (try clear hi))); try go_wp2_with (first | (go_at_call 20; (with_reducible refine (impl_isTerm.calls k a0_0 _ _ l0_1 _ _ l1 true _ ?q1 ?q2 ?q3 ?q4 A6.out).mono ?_); (case q1 => exact Z.cc HR0_1 HB); (case q2 => exact HC0_1.out); (case q3 => exact Z.cc HR1 HB); (case q4 => exact HC1.out); rintro e w10 ⟨rfl, hb⟩; replace BK417 := Z.bb BK417 hb; replace HB := Z.st (Z.bs HB.out GE417.out) hb; (try clear hb); (try clear hb2); (try clear hk); (try clear hi))))
    go_meet
    case rel => exact ⟨_, (true), (by first | rfl | (simp; done) | (simp [*]; done)), H', ⟨by first | omega | exact Nat.le_refl _⟩, ⟨by (with_reducible repeat (first | refine blk_drewN ?_ _ | refine blk_drew ?_ | refine blk_alloc ?_ _)); exact BK417.out⟩, ⟨Z.bs HB.out GE417.out⟩⟩
   ·rw [if_neg c8] at H
    have c8b0 := decide_eq_false c8
    clear c8
    (first | rw [c8b0] | (simp only [i64_w, i32_w]; rw [c8b0]) | skip)
    have H' := Aside0.mk H
    clear H
    have hcz11 := Z.c2 BK417.out
    go_wp2_with (first | (go_at_call 20; (with_reducible refine (impl_isTerm.calls k a0_0 _ _ l0_1 _ _ l1 true _ ?q1 ?q2 ?q3 ?q4 A6.out).mono ?_); (case q1 => exact Z.cc HR0_1 HB); (case q2 => exact HC0_1.out); (case q3 => exact Z.cc HR1 HB); (case q4 => exact HC1.out); rintro e w12 ⟨rfl, hb⟩; replace BK417 := Z.bb BK417 hb; replace HB := Z.st (Z.bs HB.out GE417.out) hb; (try clear hb); (try clear hb2); (try clear hk); (try clear hi); have hcz13 := Z.c2 BK417.out))
    repeat (go_quiet (first | (go_at_call 20; (with_reducible refine (impl_isTerm.calls k a0_0 _ _ l0_1 _ _ l1 true _ ?q1 ?q2 ?q3 ?q4 A6.out).mono ?_); (case q1 => exact Z.cc HR0_1 HB); (case q2 => exact HC0_1.out); (case q3 => exact Z.cc HR1 HB); (case q4 => exact HC1.out); rintro e w12 ⟨rfl, hb⟩; replace BK417 := Z.bb BK417 hb; replace HB := Z.st (Z.bs HB.out GE417.out) hb; (try clear hb); (try clear hb2); (try clear hk); (try clear hi); have hcz13 := Z.c2 BK417.out)); try go_wp2_with (first | (go_at_call 20; (with_reducible refine (impl_isTerm.calls k a0_0 _ _ l0_1 _ _ l1 true _ ?q1 ?q2 ?q3 ?q4 A6.out).mono ?_); (case q1 => exact Z.cc HR0_1 HB); (case q2 => exact HC0_1.out); (case q3 => exact Z.cc HR1 HB); (case q4 => exact HC1.out); rintro e w12 ⟨rfl, hb⟩; replace BK417 := Z.bb BK417 hb; replace HB := Z.st (Z.bs HB.out GE417.out) hb; (try clear hb); (try clear hb2); (try clear hk); (try clear hi); have hcz13 := Z.c2 BK417.out)))
    go_meet
    case rel => exact ⟨_, (decide (a2 ≥ a0_0)), (by first | rfl | (simp; done) | (simp [*]; done)), H', ⟨by first | omega | exact Nat.le_refl _⟩, ⟨by (with_reducible repeat (first | refine blk_drewN ?_ _ | refine blk_drew ?_ | refine blk_alloc ?_ _)); exact BK417.out⟩, ⟨Z.bs HB.out GE417.out⟩⟩
  ·replace c7 := Bool.eq_false_iff.mpr c7
   subst c7
   rw [if_neg (show ¬ (false = true) by decide)] at H
   have H' := Aside0.mk H
   clear H
   have hcz14 := Z.c2 BK417.out
   go_wp2_with (first | (go_at_call 20; (with_reducible refine (impl_isTerm.calls k a0_0 _ _ l0_1 _ _ l1 false _ ?q1 ?q2 ?q3 ?q4 A6.out).mono ?_); (case q1 => exact Z.cc HR0_1 HB); (case q2 => exact HC0_1.out); (case q3 => exact Z.cc HR1 HB); (case q4 => exact HC1.out); rintro e w15 ⟨rfl, hb⟩; replace BK417 := Z.bb BK417 hb; replace HB := Z.st (Z.bs HB.out GE417.out) hb; (try clear hb); (try clear hb2); (try clear hk); (try clear hi)))
   repeat (go_quiet (first | (go_at_call 20; (with_reducible refine (impl_isTerm.calls k a0_0 _ _ l0_1 _ _ l1 false _ ?q1 ?q2 ?q3 ?q4 A6.out).mono ?_); (case q1 => exact Z.cc HR0_1 HB); (case q2 => exact HC0_1.out); (case q3 => exact Z.cc HR1 HB); (case q4 => exact HC1.out); rintro e w15 ⟨rfl, hb⟩; replace BK417 := Z.bb BK417 hb; replace HB := Z.st (Z.bs HB.out GE417.out) hb; (try clear hb); (try clear hb2); (try clear hk); (try clear hi))); try go_wp2_with (first | (go_at_call 20; (with_reducible refine (impl_isTerm.calls k a0_0 _ _ l0_1 _ _ l1 false _ ?q1 ?q2 ?q3 ?q4 A6.out).mono ?_); (case q1 => exact Z.cc HR0_1 HB); (case q2 => exact HC0_1.out); (case q3 => exact Z.cc HR1 HB); (case q4 => exact HC1.out); rintro e w15 ⟨rfl, hb⟩; replace BK417 := Z.bb BK417 hb; replace HB := Z.st (Z.bs HB.out GE417.out) hb; (try clear hb); (try clear hb2); (try clear hk); (try clear hi))))
   go_meet
   case rel => exact ⟨_, (true), (by first | rfl | (simp; done) | (simp [*]; done)), H', ⟨by first | omega | exact Nat.le_refl _⟩, ⟨by (with_reducible repeat (first | refine blk_drewN ?_ _ | refine blk_drew ?_ | refine blk_alloc ?_ _)); exact BK417.out⟩, ⟨Z.bs HB.out GE417.out⟩⟩
 case rest =>
  clear HC4
  try clear c1
  try clear p2
  try clear c7
  try clear c8
  try clear c8b0
  try clear hcz11_0
  try clear hcz11_1
  try clear hcz13_0
  try clear hcz13_1
  try clear hcz14_0
  try clear hcz14_1
  try clear hcz9_0
  try clear hcz9_1
  try clear hfz11_0
  try clear hfz11_1
  try clear hfz13_0
  try clear hfz13_1
  try clear hfz14_0
  try clear hfz14_1
  try clear hfz9_0
  try clear hfz9_1
  obtain ⟨kq, x23_3, rfl, HA, HJ3, BK417, HB⟩ := hcut
  cases kq with
  | zero => exact absurd HA.out (by simp [impl_PivotsOf.j0])
  | succ kj3 =>
   have H := HA.out
   clear HA
   simp only [impl_PivotsOf.j0] at H
   by_cases c16 : x23_3 = true
   ·subst c16
    rw [if_pos rfl] at H
    obtain rfl := Option.some.inj H
    go_wp2
    repeat (go_quiet (fail); try go_wp2)
    go_ret
    exact ⟨by first | rfl | (simp [errW_none, errW_some] <;> rfl) | (simp [*, errW_none, errW_some] <;> rfl), Z.bs HB.out GE417.out⟩
   ·replace c16 := Bool.eq_false_iff.mpr c16
    subst c16
    rw [if_neg (show ¬ (false = true) by decide)] at H
    replace H := Option.bind_eq_some_iff.mp H
    obtain ⟨t419, A170, H⟩ := H
    try dsimp only at H
    have A17 := Aside0.mk A170
    clear A170
    have H' := Aside0.mk H
    clear H
    have hcz18 := Z.c2 BK417.out
    go_wp2_with (first | (go_at_call 21; (with_reducible refine (impl_swingsOf.calls kj3 a0_0 _ _ l0_1 _ _ l1 a2 t419 _ ?q1 ?q2 ?q3 ?q4 A17.out).mono ?_); (case q1 => exact Z.cc HR0_1 HB); (case q2 => exact HC0_1.out); (case q3 => exact Z.cc HR1 HB); (case q4 => exact HC1.out); rintro e w19 ⟨v420, rfl, ho0, hb⟩; have HO421 := Aside0.mk (Kd.R_lower ho0 (below_size (Z.bs HB.out GE417.out))); replace BK417 := Z.bb BK417 hb; replace HB := Z.st (Z.bs HB.out GE417.out) hb; (try clear hb); (try clear hb2); (try clear hk); (try clear hi); (try clear ho0); obtain ⟨Ao20, co20, eo20⟩ := Kd.R_slice HO421.out; subst eo20))
    repeat (go_quiet (first | (go_at_call 21; (with_reducible refine (impl_swingsOf.calls kj3 a0_0 _ _ l0_1 _ _ l1 a2 t419 _ ?q1 ?q2 ?q3 ?q4 A17.out).mono ?_); (case q1 => exact Z.cc HR0_1 HB); (case q2 => exact HC0_1.out); (case q3 => exact Z.cc HR1 HB); (case q4 => exact HC1.out); rintro e w19 ⟨v420, rfl, ho0, hb⟩; have HO421 := Aside0.mk (Kd.R_lower ho0 (below_size (Z.bs HB.out GE417.out))); replace BK417 := Z.bb BK417 hb; replace HB := Z.st (Z.bs HB.out GE417.out) hb; (try clear hb); (try clear hb2); (try clear hk); (try clear hi); (try clear ho0); obtain ⟨Ao20, co20, eo20⟩ := Kd.R_slice HO421.out; subst eo20)); try go_wp2_with (first | (go_at_call 21; (with_reducible refine (impl_swingsOf.calls kj3 a0_0 _ _ l0_1 _ _ l1 a2 t419 _ ?q1 ?q2 ?q3 ?q4 A17.out).mono ?_); (case q1 => exact Z.cc HR0_1 HB); (case q2 => exact HC0_1.out); (case q3 => exact Z.cc HR1 HB); (case q4 => exact HC1.out); rintro e w19 ⟨v420, rfl, ho0, hb⟩; have HO421 := Aside0.mk (Kd.R_lower ho0 (below_size (Z.bs HB.out GE417.out))); replace BK417 := Z.bb BK417 hb; replace HB := Z.st (Z.bs HB.out GE417.out) hb; (try clear hb); (try clear hb2); (try clear hk); (try clear hi); (try clear ho0); obtain ⟨Ao20, co20, eo20⟩ := Kd.R_slice HO421.out; subst eo20)))
    go_loopg [7, 29] kj3 (fun kq v7 v29 w' => ∃ (x7_2 : Int) (x29_2 : Int), v7 = .int .i64 x7_2 ∧ v29 = .int .i64 x29_2 ∧ Aside0 (impl_PivotsOf.l0 kq x7_2 t419 (t419.length : Int) x29_2 a0_0 l0_1 = some r) ∧ Aside0 (kq ≤ kj3) ∧ Aside0 (Kd.R (Kd.int .i64) 3 w' w.heap.size (fun _ => True) (.slice Ao20 t419.length co20) t419) ∧ Aside0 (w'.heap[gb417]? = some (.cells #[.int .i64 a0_0, (.slice A0_1 l0_1.length c0_1)] 25 (0, 0))) ∧ Aside0 (Below w.heap.size w w'))
    case atStart => exact ⟨(0), (0), (by first | rfl | (simp; done) | (simp [*]; done)), (by first | rfl | (simp; done) | (simp [*]; done)), H', ⟨Nat.le_refl _⟩, ⟨by (with_reducible repeat (first | apply Kd.R_alloc | apply Kd.R_drewN | apply Kd.R_drew)); exact HO421.out⟩, ⟨by (with_reducible repeat (first | refine blk_drewN ?_ _ | refine blk_drew ?_ | refine blk_alloc ?_ _)); exact BK417.out⟩, ⟨Z.bs HB.out GE417.out⟩⟩
    case round =>
     clear H'
     try clear c1
     try clear p2
     try clear c7
     try clear c8
     try clear c8b0
     try clear c16
     try clear hcz11_0
     try clear hcz11_1
     try clear hcz13_0
     try clear hcz13_1
     try clear hcz14_0
     try clear hcz14_1
     try clear hcz18_0
     try clear hcz18_1
     try clear hcz9_0
     try clear hcz9_1
     try clear hfz11_0
     try clear hfz11_1
     try clear hfz13_0
     try clear hfz13_1
     try clear hfz14_0
     try clear hfz14_1
     try clear hfz18_0
     try clear hfz18_1
     try clear hfz9_0
     try clear hfz9_1
     try clear p2
     obtain ⟨x7_2, x29_2, rfl, rfl, HA, HK2, HO_27, BK417, HB⟩ := hrel
     cases gk with
     | zero => exact absurd HA.out (by simp [impl_PivotsOf.l0])
     | succ k2 =>
      have H := HA.out
      clear HA
      simp only [impl_PivotsOf.l0] at H
      by_cases c21 : x29_2 < (t419.length : Int)
      ·rw [if_pos c21] at H
       have c21b0 := decide_eq_true c21
       clear c21
       obtain ⟨c22, H⟩ := Z.ifp H
       have c22b0 : decide (0 ≤ x29_2) = true := decide_eq_true c22
       clear c22
       obtain ⟨c23, H⟩ := Z.ifp H
       have c23b0 : decide (x29_2 < (t419.length : Int)) = true := decide_eq_true c23
       clear c23
       replace H := Option.bind_eq_some_iff.mp H
       obtain ⟨t423, A240, H⟩ := H
       try dsimp only at H
       have A24 := Aside0.mk A240
       clear A240
       replace H := Option.bind_eq_some_iff.mp H
       obtain ⟨t424, A250, H⟩ := H
       try dsimp only at H
       have A25 := Aside0.mk A250
       clear A250
       replace H := Option.bind_eq_some_iff.mp H
       obtain ⟨t425, A260, H⟩ := H
       try dsimp only at H
       have A26 := Aside0.mk A260
       clear A260
       replace H := Option.bind_eq_some_iff.mp H
       obtain ⟨t426, A270, H⟩ := H
       try dsimp only at H
       have A27 := Aside0.mk A270
       clear A270
       have H' := Aside0.mk H
       clear H
       have p422 : 0 ≤ (x29_2 : Int) := Z.od
       have q422 : x29_2 < (t419.length : Int) := Z.od
       obtain ⟨ad422, e422, hx422_0⟩ := Kd.at_int (Kd.R_reads' HO_27.out).2.2 x29_2 p422 q422
       cases e422
       replace p422 := eq_true p422
       replace q422 := eq_true q422
       go_wp2
       replace BK417 := Aside0.mk (blk_drew BK417.out)
       replace HB := Aside0.mk (below_drew1 HB.out)
       replace HO_27 := Aside0.mk (Kd.R_drew HO_27.out)
       refine start_ (n := 14) (S := fun w' => w'.cell? ⟨gb417, 0, none⟩ = some (.int .i64 a0_0)) (ds := []) #[false, false, false, false, false, false, false, false, false, false, false, false, false, false] (by kernel_rfl) rfl rfl ((blk_cell BK417.out 0).trans rfl) (fun hHeld => ?_); refine with_tabW impl_PivotsOf.tab7 impl_PivotsOf.bits7 (fun HT_ HW_ => ?_)
       refine Z.pv 0 33 14 1 HT_.out ?_
       refine Z.pv 1 34 14 3 HT_.out ?_
       refine Z.pv 4 37 14 19 HT_.out ?_
       refine Z.t1 5 38 14 51 HT_.out HW_.out hHeld ?_
       refine Z.pv 6 39 14 115 HT_.out ?_
       refine Z.pv 7 40 14 243 HT_.out ?_
       refine one_ (i := 2) (N := some 35) (Z.mb 14 247) rfl rfl (one_of HT_.out (by kernel_rfl)) (by decide) (fun K hK => ?_)
       refine goes_ Try.func23 (by kernel_rfl) rfl #[.int .i64 (rd t419 x29_2)] (by rfl) rfl rfl Z.ar ?_
       (with_reducible refine (impl_headsOf.calls (rd t419 x29_2) t423 _ A24.out).mono ?_)
       rintro e w' ⟨rfl, hd⟩
       refine ⟨_, rfl, ?_⟩
       replace BK417 := Aside0.mk (blk_below BK417.out hd.below)
       replace HB := Aside0.mk (below_step HB.out hd.below)
       replace HO_27 := Aside0.mk (Kd.R_below HO_27.out hd.below)
       clear hHeld hd
       refine hK.out _ _ ((blk_cell BK417.out 0).trans rfl) (fun hHeld => ?_)
       clear hK K
       refine Z.nm ?_
       refine one_ (i := 3) (N := some 36) (Z.mb 14 255) rfl rfl (one_of HT_.out (by kernel_rfl)) (by decide) (fun K hK => ?_)
       refine goes_ Try.func22 (by kernel_rfl) rfl #[.int .i64 t423] (by rfl) rfl rfl Z.ar ?_
       (with_reducible refine (impl_factorial.calls k2 t423 t424 _ A25.out).mono ?_)
       rintro e w' ⟨rfl, hd⟩
       refine ⟨_, rfl, ?_⟩
       replace BK417 := Aside0.mk (blk_below BK417.out hd.below)
       replace HB := Aside0.mk (below_step HB.out hd.below)
       replace HO_27 := Aside0.mk (Kd.R_below HO_27.out hd.below)
       clear hHeld hd
       refine hK.out _ _ ((blk_cell BK417.out 0).trans rfl) (fun hHeld => ?_)
       clear hK K
       refine Z.nm ?_
       refine one_ (i := 8) (N := some 41) (Z.mb 14 511) rfl rfl (one_of HT_.out (by kernel_rfl)) (by decide) (fun K hK => ?_)
       refine goes_ Try.func23 (by kernel_rfl) rfl #[.int .i64 (rd t419 x29_2)] (by rfl) rfl rfl Z.ar ?_
       (with_reducible refine (impl_headsOf.calls (rd t419 x29_2) t425 _ A26.out).mono ?_)
       rintro e w' ⟨rfl, hd⟩
       refine ⟨_, rfl, ?_⟩
       replace BK417 := Aside0.mk (blk_below BK417.out hd.below)
       replace HB := Aside0.mk (below_step HB.out hd.below)
       replace HO_27 := Aside0.mk (Kd.R_below HO_27.out hd.below)
       clear hHeld hd
       refine hK.out _ _ ((blk_cell BK417.out 0).trans rfl) (fun hHeld => ?_)
       clear hK K
       refine Z.nm ?_
       refine Z.pv 9 42 14 1023 HT_.out ?_
       refine one_ (i := 10) (N := some 43) (Z.mb 14 2047) rfl rfl (one_of HT_.out (by kernel_rfl)) (by decide) (fun K hK => ?_)
       refine goes_ Try.func22 (by kernel_rfl) rfl #[.int .i64 (wrap64 ((wrap64 (a0_0 - 1)) - t425))] (by rfl) rfl rfl Z.ar ?_
       (with_reducible refine (impl_factorial.calls k2 (wrap64 ((wrap64 (a0_0 - 1)) - t425)) t426 _ A27.out).mono ?_)
       rintro e w' ⟨rfl, hd⟩
       refine ⟨_, rfl, ?_⟩
       replace BK417 := Aside0.mk (blk_below BK417.out hd.below)
       replace HB := Aside0.mk (below_step HB.out hd.below)
       replace HO_27 := Aside0.mk (Kd.R_below HO_27.out hd.below)
       clear hHeld hd
       refine hK.out _ _ ((blk_cell BK417.out 0).trans rfl) (fun hHeld => ?_)
       clear hK K
       refine Z.nm ?_
       refine Z.pv 11 44 14 4095 HT_.out ?_
       refine Z.pv 12 45 14 8191 HT_.out ?_
       refine Z.pv 13 7 14 16383 HT_.out ?_
       refine done_ (done_of HT_.out (by kernel_rfl)) ?_
       clear hHeld
       try go_wp2
       go_roundg k2
       case measure => have := HJ3.out; have := HK2.out; omega
       case rel => exact ⟨(wrap64 (x7_2 + (wrap64 (t424 * t426)))), (wrap64 (x29_2 + 1)), (by first | rfl | (simp; done) | (simp [*]; done)), (by first | rfl | (simp; done) | (simp [*]; done)), H', ⟨by have := HJ3.out; have := HK2.out; omega⟩, ⟨by (with_reducible repeat (first | apply Kd.R_alloc | apply Kd.R_drewN | apply Kd.R_drew)); exact HO_27.out⟩, ⟨by (with_reducible repeat (first | refine blk_drewN ?_ _ | refine blk_drew ?_ | refine blk_alloc ?_ _)); exact BK417.out⟩, ⟨Z.bs HB.out GE417.out⟩⟩
      ·rw [if_neg c21] at H
       have c21b0 := decide_eq_false c21
       clear c21
       obtain rfl := Option.some.inj H
       go_wp2
       repeat (go_quiet (fail); try go_wp2)
       go_ret
       exact ⟨by first | rfl | (simp [errW_none, errW_some] <;> rfl) | (simp [*, errW_none, errW_some] <;> rfl), Z.bs HB.out GE417.out⟩

/-! ### impl_PivotIn: function 10 -/
mutual
def impl_PivotIn.j0 : Nat → List (S35) → List Int → Bool → Int → List Int → Option (Int)
 | 0, _, _, _, _, _ => none
 | k + 1, x1, x2, x23, x428000, x428001 => if x23 = true then (some (-1)) else (impl_PivotIn.l0 k x1 x2 0 x2 (x2.length : Int) 0 x428000 x428001)
def impl_PivotIn.l0 : Nat → List (S35) → List Int → Int → List Int → Int → Int → Int → List Int → Option (Int)
 | 0, _, _, _, _, _, _, _, _ => none
 | k + 1, x1, x2, x7, x24, x25, x26, x428000, x428001 => if x26 < x25 then (if 0 ≤ x26 then (if x26 < (x24.length : Int) then (if (rd x24 x26) < 0 then (some (-1)) else (if (rd x24 x26) ≥ x428000 then (some (-1)) else (if 0 ≤ (rd x24 x26) then (if (Go.bits .and .i64 (shr .i64 x7 (rd x24 x26)) 1) = 1 then (some (-1)) else (impl_PivotIn.l0 k x1 x2 (Go.bits .or .i64 x7 (shl .i64 1 (rd x24 x26))) x24 x25 (wrap64 (x26 + 1)) x428000 x428001)) else (none)))) else (none)) else (none)) else (impl_PivotIn.l1 k x1 0 x2 (x2.length : Int) 0 x428000 x428001)
def impl_PivotIn.l1 : Nat → List (S35) → Int → List Int → Int → Int → Int → List Int → Option (Int)
 | 0, _, _, _, _, _, _, _ => none
 | k + 1, x1, x10, x50, x51, x52, x428000, x428001 => if x52 < x51 then (if 0 ≤ x52 then (if x52 < (x50.length : Int) then (if 0 ≤ (rd x50 x52) then ((impl_consents.f k x428000 x428001 x1 (Go.bits .or .i64 x10 (shl .i64 1 (rd x50 x52)))).bind fun t431 => (if t431 = true then (some (rd x50 x52)) else (impl_PivotIn.l1 k x1 (Go.bits .or .i64 x10 (shl .i64 1 (rd x50 x52))) x50 x51 (wrap64 (x52 + 1)) x428000 x428001))) else (none)) else (none)) else (none)) else (some (-1))
end
def impl_PivotIn.f (k : Nat) (a0_0 : Int) (l0_1 : List Int) (l1 : List (S35)) (l2 : List Int) : Option (Int) := (impl_isTerm.f k a0_0 l0_1 l1).bind fun t428 => (if t428 = true then (impl_PivotIn.j0 k l1 l2 ((l2.length : Int) != a0_0) a0_0 l0_1) else (impl_PivotIn.j0 k l1 l2 true a0_0 l0_1))
set_option maxHeartbeats 8000000 in
set_option maxRecDepth 100000 in
theorem impl_PivotIn.calls (k : Nat) (a0_0 : Int) (A0_1 : Option Addr) (c0_1 : Nat) (l0_1 : List Int) (A1 : Option Addr) (c1 : Nat) (l1 : List (S35)) (A2 : Option Addr) (c2 : Nat) (l2 : List Int) (r : Int) (w : World) (hr0_1 : Kd.C (Kd.int .i64) w A0_1 l0_1.length l0_1) (hc0_1 : l0_1.length ≤ c0_1) (hr1 : Kd.C k35 w A1 l1.length l1) (hc1 : l1.length ≤ c1) (hr2 : Kd.C (Kd.int .i64) w A2 l2.length l2) (hc2 : l2.length ≤ c2) (h : impl_PivotIn.f k a0_0 l0_1 l1 l2 = some r) :
  Calls Try.prog 10 #[.agg #[.int .i64 a0_0, .slice A0_1 l0_1.length c0_1], .slice A1 l1.length c1, .slice A2 l2.length c2] w fun e w' => e = .returned (.int .i64 r) ∧ Below w.heap.size w w' := by
 have hu25 := Try.underlying25
 have HR0_1 := Aside0.mk hr0_1
 have HC0_1 := Aside0.mk hc0_1
 clear hr0_1 hc0_1
 have HR1 := Aside0.mk hr1
 have HC1 := Aside0.mk hc1
 clear hr1 hc1
 have HR2 := Aside0.mk hr2
 have HC2 := Aside0.mk hc2
 clear hr2 hc2
 have HB := Aside0.mk (Below.refl w.heap.size w)
 have H := h
 clear h
 unfold impl_PivotIn.f at H
 have HC4 := Aside0.mk H
 clear H
 go_enter Try.func10, Try.ntmps10
 go_upto_region 1 with (first | ((with_reducible refine gate_dst (N := 3) rfl ?_); (try (refine gate_guard (by rfl) ?_; dsimp only)); refine Z.bx #[.int .i64 a0_0, .slice A0_1 l0_1.length c0_1] 25 HB ?_; clear HB; intro gb427 w5 BK427 GE427 HB hg hb; have GW427 := GE427; clear hb hg))
 (try simp only [Act.put, List.setIfInBounds_toArray, List.set_cons_zero, List.set_cons_succ])
 go_cut [23] (fun v23 wc => ∃ (kq : Nat) (x23_3 : Bool), v23 = .bool x23_3 ∧ Aside0 (impl_PivotIn.j0 kq l1 l2 x23_3 a0_0 l0_1 = some r) ∧ Aside0 (kq ≤ k) ∧ Aside0 (wc.heap[gb427]? = some (.cells #[.int .i64 a0_0, (.slice A0_1 l0_1.length c0_1)] 25 (0, 0))) ∧ Aside0 (Below w.heap.size w wc))
 case first =>
  have H := HC4.out
  clear HC4
  replace H := Option.bind_eq_some_iff.mp H
  obtain ⟨t428, A60, H⟩ := H
  try dsimp only at H
  have A6 := Aside0.mk A60
  clear A60
  by_cases c7 : t428 = true
  ·subst c7
   rw [if_pos rfl] at H
   have H' := Aside0.mk H
   clear H
   have hcz8 := Z.c2 BK427.out
   go_wp2_with (first | ((with_reducible refine gate_callee (f := 20) rfl ?_); refine goesL_ (some 15) rfl rfl Try.func20 (by kernel_rfl) rfl #[.agg #[.int .i64 a0_0, .slice A0_1 l0_1.length c0_1], .slice A1 l1.length c1] rfl Z.ar ?_; (with_reducible refine (impl_isTerm.calls k a0_0 _ _ l0_1 _ _ l1 true _ ?q1 ?q2 ?q3 ?q4 A6.out).mono ?_); (case q1 => exact Z.cc HR0_1 HB); (case q2 => exact HC0_1.out); (case q3 => exact Z.cc HR1 HB); (case q4 => exact HC1.out); rintro e w9 ⟨rfl, hb⟩; refine ⟨_, rfl, ?_⟩; replace BK427 := Z.bb BK427 hb; replace HB := Z.st (Z.bs HB.out GE427.out) hb; (try clear hb); (try clear hb2); (try clear hk); (try clear hi); have hcz10 := Z.c2 BK427.out))
   go_meet
   case rel => exact ⟨_, (((l2.length : Int) != a0_0)), (by first | rfl | (simp; done) | (simp [*]; done)), H', ⟨by first | omega | exact Nat.le_refl _⟩, ⟨by (with_reducible repeat (first | refine blk_drewN ?_ _ | refine blk_drew ?_ | refine blk_alloc ?_ _)); exact BK427.out⟩, ⟨Z.bs HB.out GE427.out⟩⟩
  ·replace c7 := Bool.eq_false_iff.mpr c7
   subst c7
   rw [if_neg (show ¬ (false = true) by decide)] at H
   have H' := Aside0.mk H
   clear H
   have hcz11 := Z.c2 BK427.out
   go_wp2_with (first | ((with_reducible refine gate_callee (f := 20) rfl ?_); refine goesL_ (some 15) rfl rfl Try.func20 (by kernel_rfl) rfl #[.agg #[.int .i64 a0_0, .slice A0_1 l0_1.length c0_1], .slice A1 l1.length c1] rfl Z.ar ?_; (with_reducible refine (impl_isTerm.calls k a0_0 _ _ l0_1 _ _ l1 false _ ?q1 ?q2 ?q3 ?q4 A6.out).mono ?_); (case q1 => exact Z.cc HR0_1 HB); (case q2 => exact HC0_1.out); (case q3 => exact Z.cc HR1 HB); (case q4 => exact HC1.out); rintro e w12 ⟨rfl, hb⟩; refine ⟨_, rfl, ?_⟩; replace BK427 := Z.bb BK427 hb; replace HB := Z.st (Z.bs HB.out GE427.out) hb; (try clear hb); (try clear hb2); (try clear hk); (try clear hi)))
   go_meet
   case rel => exact ⟨_, (true), (by first | rfl | (simp; done) | (simp [*]; done)), H', ⟨by first | omega | exact Nat.le_refl _⟩, ⟨by (with_reducible repeat (first | refine blk_drewN ?_ _ | refine blk_drew ?_ | refine blk_alloc ?_ _)); exact BK427.out⟩, ⟨Z.bs HB.out GE427.out⟩⟩
 case rest =>
  clear HC4
  try clear c1
  try clear c2
  try clear p2
  try clear c7
  try clear c10
  try clear hcz10_0
  try clear hcz10_1
  try clear hcz11_0
  try clear hcz11_1
  try clear hcz8_0
  try clear hcz8_1
  try clear hfz10_0
  try clear hfz10_1
  try clear hfz11_0
  try clear hfz11_1
  try clear hfz8_0
  try clear hfz8_1
  obtain ⟨kq, x23_3, rfl, HA, HJ3, BK427, HB⟩ := hcut
  cases kq with
  | zero => exact absurd HA.out (by simp [impl_PivotIn.j0])
  | succ kj3 =>
   have H := HA.out
   clear HA
   simp only [impl_PivotIn.j0] at H
   by_cases c13 : x23_3 = true
   ·subst c13
    rw [if_pos rfl] at H
    obtain rfl := Option.some.inj H
    go_wp2
    go_ret
    exact ⟨by first | rfl | (simp [errW_none, errW_some] <;> rfl) | (simp [*, errW_none, errW_some] <;> rfl), Z.bs HB.out GE427.out⟩
   ·replace c13 := Bool.eq_false_iff.mpr c13
    subst c13
    rw [if_neg (show ¬ (false = true) by decide)] at H
    have H' := Aside0.mk H
    clear H
    go_wp2
    go_loopg [7, 26] kj3 (fun kq v7 v26 w' => ∃ (x7_2 : Int) (x26_2 : Int), v7 = .int .i64 x7_2 ∧ v26 = .int .i64 x26_2 ∧ Aside0 (impl_PivotIn.l0 kq l1 l2 x7_2 l2 (l2.length : Int) x26_2 a0_0 l0_1 = some r) ∧ Aside0 (kq ≤ kj3) ∧ Aside0 (w'.heap[gb427]? = some (.cells #[.int .i64 a0_0, (.slice A0_1 l0_1.length c0_1)] 25 (0, 0))) ∧ Aside0 (Below w.heap.size w w'))
    case atStart => exact ⟨(0), (0), (by first | rfl | (simp; done) | (simp [*]; done)), (by first | rfl | (simp; done) | (simp [*]; done)), H', ⟨Nat.le_refl _⟩, ⟨by (with_reducible repeat (first | refine blk_drewN ?_ _ | refine blk_drew ?_ | refine blk_alloc ?_ _)); exact BK427.out⟩, ⟨Z.bs HB.out GE427.out⟩⟩
    case round =>
     clear H'
     try clear c1
     try clear c2
     try clear p2
     try clear c7
     try clear c10
     try clear c13
     try clear hcz10_0
     try clear hcz10_1
     try clear hcz11_0
     try clear hcz11_1
     try clear hcz8_0
     try clear hcz8_1
     try clear hfz10_0
     try clear hfz10_1
     try clear hfz11_0
     try clear hfz11_1
     try clear hfz8_0
     try clear hfz8_1
     try clear p2
     obtain ⟨x7_2, x26_2, rfl, rfl, HA, HK2, BK427, HB⟩ := hrel
     cases gk with
     | zero => exact absurd HA.out (by simp [impl_PivotIn.l0])
     | succ k2 =>
      have H := HA.out
      clear HA
      simp only [impl_PivotIn.l0] at H
      by_cases c14 : x26_2 < (l2.length : Int)
      ·rw [if_pos c14] at H
       have c14b0 := decide_eq_true c14
       clear c14
       obtain ⟨c15, H⟩ := Z.ifp H
       have c15b0 : decide (0 ≤ x26_2) = true := decide_eq_true c15
       clear c15
       obtain ⟨c16, H⟩ := Z.ifp H
       have c16b0 : decide (x26_2 < (l2.length : Int)) = true := decide_eq_true c16
       clear c16
       by_cases c17 : (rd l2 x26_2) < 0
       ·rw [if_pos c17] at H
        have c17b0 := decide_eq_true c17
        clear c17
        obtain rfl := Option.some.inj H
        have p429 : 0 ≤ (x26_2 : Int) := Z.od
        have q429 : x26_2 < (l2.length : Int) := Z.od
        obtain ⟨ad429, rfl, hx429_0⟩ := Kd.at_int HR2.out x26_2 p429 q429
        replace hx429_0 := Z.up HB.out hx429_0
        replace p429 := eq_true p429
        replace q429 := eq_true q429
        go_wp2
        go_ret
        exact ⟨by first | rfl | (simp [errW_none, errW_some] <;> rfl) | (simp [*, errW_none, errW_some] <;> rfl), Z.bs HB.out GE427.out⟩
       ·rw [if_neg c17] at H
        have c17b0 := decide_eq_false c17
        clear c17
        by_cases c18 : (rd l2 x26_2) ≥ a0_0
        ·rw [if_pos c18] at H
         have c18b0 : decide (a0_0 ≤ (rd l2 x26_2)) = true := decide_eq_true c18
         clear c18
         obtain rfl := Option.some.inj H
         have p429 : 0 ≤ (x26_2 : Int) := Z.od
         have q429 : x26_2 < (l2.length : Int) := Z.od
         obtain ⟨ad429, rfl, hx429_0⟩ := Kd.at_int HR2.out x26_2 p429 q429
         replace hx429_0 := Z.up HB.out hx429_0
         replace p429 := eq_true p429
         replace q429 := eq_true q429
         have hcz19 := Z.c2 BK427.out
         go_wp2
         go_ret
         exact ⟨by first | rfl | (simp [errW_none, errW_some] <;> rfl) | (simp [*, errW_none, errW_some] <;> rfl), Z.bs HB.out GE427.out⟩
        ·rw [if_neg c18] at H
         have c18b0 : decide (a0_0 ≤ (rd l2 x26_2)) = false := decide_eq_false c18
         clear c18
         obtain ⟨c20, H⟩ := Z.ifp H
         have c20b0 := eq_true c20
         have c20b1 : decide (0 ≤ (rd l2 x26_2)) = true := decide_eq_true c20
         clear c20
         obtain ⟨ji21, hji21⟩ : ∃ j_ : Int, (shr .i64 x7_2 (rd l2 x26_2)) = j_ := ⟨_, rfl⟩
         replace H : (if (Go.bits .and .i64 (ji21) 1) = 1 then (some (-1)) else (impl_PivotIn.l0 k2 l1 l2 (Go.bits .or .i64 x7_2 (shl .i64 1 (rd l2 x26_2))) l2 (l2.length : Int) (wrap64 (x26_2 + 1)) a0_0 l0_1)) = some r := by first | (rw [hji21] at H; exact H) | (simp only [hji21] at H ⊢; exact H)
         have hji21_ : (x7_2 / 2 ^ min (rd l2 x26_2).toNat 64) = ji21 := hji21
         have hji21z : (rd l2 x26_2) ≤ 64 → (x7_2 / 2 ^ (rd l2 x26_2).toNat) = ji21 := shr_small hji21
         by_cases c22 : (Go.bits .and .i64 (ji21) 1) = 1
         ·rw [if_pos c22] at H
          have c22b0 : ((Go.bits .and .i64 (ji21) 1) == 1) = true := beq_iff_eq.mpr c22
          have c22b1 : ((Go.bits .and .i64 (ji21) 1) != 1) = false := bne_eq_false_iff_eq.mpr c22
          clear c22
          obtain rfl := Option.some.inj H
          have p429 : 0 ≤ (x26_2 : Int) := Z.od
          have q429 : x26_2 < (l2.length : Int) := Z.od
          obtain ⟨ad429, rfl, hx429_0⟩ := Kd.at_int HR2.out x26_2 p429 q429
          replace hx429_0 := Z.up HB.out hx429_0
          replace p429 := eq_true p429
          replace q429 := eq_true q429
          have hcz23 := Z.c2 BK427.out
          go_wp2
          go_ret
          exact ⟨by first | rfl | (simp [errW_none, errW_some] <;> rfl) | (simp only [← hji21]; first | rfl | (simp [errW_none, errW_some] <;> rfl)) | (simp [*, errW_none, errW_some] <;> rfl), Z.bs HB.out GE427.out⟩
         ·rw [if_neg c22] at H
          have c22b0 : ((Go.bits .and .i64 (ji21) 1) == 1) = false := beq_eq_false_iff_ne.mpr c22
          have c22b1 : ((Go.bits .and .i64 (ji21) 1) != 1) = true := bne_iff_ne.mpr c22
          have c24b0 := eq_true (Z.od : 0 ≤ (rd l2 x26_2))
          obtain ⟨ji25, hji25⟩ : ∃ j_ : Int, (shl .i64 1 (rd l2 x26_2)) = j_ := ⟨_, rfl⟩
          replace H : (impl_PivotIn.l0 k2 l1 l2 (Go.bits .or .i64 x7_2 (ji25)) l2 (l2.length : Int) (wrap64 (x26_2 + 1)) a0_0 l0_1) = some r := by first | (rw [hji25] at H; exact H) | (simp only [hji25] at H ⊢; exact H)
          have hji25_ : (IntKind.i64.wrap (1 * 2 ^ min (rd l2 x26_2).toNat 64)) = ji25 := hji25
          have hji25z : (rd l2 x26_2) ≤ 64 → (IntKind.i64.wrap (1 * 2 ^ (rd l2 x26_2).toNat)) = ji25 := shl_small hji25
          have hji25u : (IntKind.i64.wrap (2 ^ min (rd l2 x26_2).toNat 64)) = ji25 := by have h_ := hji25_; rw [Int.one_mul] at h_; exact h_
          have hji25v : (rd l2 x26_2) ≤ 64 → (IntKind.i64.wrap (2 ^ (rd l2 x26_2).toNat)) = ji25 := fun hle_ => by have h_ := hji25z hle_; rw [Int.one_mul] at h_; exact h_
          have hji25y : (wrap64 (1 * 2 ^ min (rd l2 x26_2).toNat 64)) = ji25 := (i64_w _).symm.trans hji25_
          have hji25x : (rd l2 x26_2) ≤ 64 → (wrap64 (1 * 2 ^ (rd l2 x26_2).toNat)) = ji25 := fun h_ => (i64_w _).symm.trans (hji25z h_)
          have H' := Aside0.mk H
          clear H
          have p429 : 0 ≤ (x26_2 : Int) := Z.od
          have q429 : x26_2 < (l2.length : Int) := Z.od
          obtain ⟨ad429, rfl, hx429_0⟩ := Kd.at_int HR2.out x26_2 p429 q429
          replace hx429_0 := Z.up HB.out hx429_0
          replace p429 := eq_true p429
          replace q429 := eq_true q429
          have hcz26 := Z.c2 BK427.out
          go_wp2
          go_roundg k2
          case measure => have := HJ3.out; have := HK2.out; omega
          case rel => exact ⟨(Go.bits .or .i64 x7_2 (ji25)), (wrap64 (x26_2 + 1)), (by first | rfl | (simp; done) | (simp only [← hji25] <;> (first | rfl | simp)) | (simp [*]; done)), (by first | rfl | (simp; done) | (simp [*]; done)), H', ⟨by have := HJ3.out; have := HK2.out; omega⟩, ⟨by (with_reducible repeat (first | refine blk_drewN ?_ _ | refine blk_drew ?_ | refine blk_alloc ?_ _)); exact BK427.out⟩, ⟨Z.bs HB.out GE427.out⟩⟩
      ·rw [if_neg c14] at H
       have c14b0 := decide_eq_false c14
       clear c14
       have H' := Aside0.mk H
       clear H
       go_wp2
       go_loopg [10, 52] k2 (fun kq v10 v52 w' => ∃ (x10_3 : Int) (x52_3 : Int), v10 = .int .i64 x10_3 ∧ v52 = .int .i64 x52_3 ∧ Aside0 (impl_PivotIn.l1 kq l1 x10_3 l2 (l2.length : Int) x52_3 a0_0 l0_1 = some r) ∧ Aside0 (kq ≤ k2) ∧ Aside0 (w'.heap[gb427]? = some (.cells #[.int .i64 a0_0, (.slice A0_1 l0_1.length c0_1)] 25 (0, 0))) ∧ Aside0 (Below w.heap.size w w'))
       case atStart => exact ⟨(0), (0), (by first | rfl | (simp; done) | (simp [*]; done)), (by first | rfl | (simp; done) | (simp [*]; done)), H', ⟨Nat.le_refl _⟩, ⟨by (with_reducible repeat (first | refine blk_drewN ?_ _ | refine blk_drew ?_ | refine blk_alloc ?_ _)); exact BK427.out⟩, ⟨Z.bs HB.out GE427.out⟩⟩
       case round =>
        clear H'
        try clear c1
        try clear c2
        try clear p2
        try clear p4
        try clear q4
        try clear hx4
        try clear p6
        try clear c7
        try clear c10
        try clear c13
        try clear c14
        try clear c14b0
        try clear c15
        try clear c15b0
        try clear c16
        try clear c16b0
        try clear c17
        try clear c17b0
        try clear c18
        try clear c18b0
        try clear c20
        try clear c20b0
        try clear c20b1
        try clear c22
        try clear c22b0
        try clear c22b1
        try clear c24
        try clear c24b0
        try clear hcz10_0
        try clear hcz10_1
        try clear hcz11_0
        try clear hcz11_1
        try clear hcz19_0
        try clear hcz19_1
        try clear hcz23_0
        try clear hcz23_1
        try clear hcz26_0
        try clear hcz26_1
        try clear hcz8_0
        try clear hcz8_1
        try clear hfz10_0
        try clear hfz10_1
        try clear hfz11_0
        try clear hfz11_1
        try clear hfz19_0
        try clear hfz19_1
        try clear hfz23_0
        try clear hfz23_1
        try clear hfz26_0
        try clear hfz26_1
        try clear hfz8_0
        try clear hfz8_1
        try clear hx429_0
        try clear p2
        try clear p429
        try clear q429
        obtain ⟨x10_3, x52_3, rfl, rfl, HA, HK3, BK427, HB⟩ := hrel
        cases gk with
        | zero => exact absurd HA.out (by simp [impl_PivotIn.l1])
        | succ k3 =>
         have H := HA.out
         clear HA
         simp only [impl_PivotIn.l1] at H
         by_cases c27 : x52_3 < (l2.length : Int)
         ·rw [if_pos c27] at H
          have c27b0 := decide_eq_true c27
          clear c27
          obtain ⟨c28, H⟩ := Z.ifp H
          have c28b0 : decide (0 ≤ x52_3) = true := decide_eq_true c28
          clear c28
          obtain ⟨c29, H⟩ := Z.ifp H
          have c29b0 : decide (x52_3 < (l2.length : Int)) = true := decide_eq_true c29
          clear c29
          obtain ⟨c30, H⟩ := Z.ifp H
          have c30b0 := eq_true c30
          have c30b1 : decide (0 ≤ (rd l2 x52_3)) = true := decide_eq_true c30
          clear c30
          obtain ⟨ji31, hji31⟩ : ∃ j_ : Int, (shl .i64 1 (rd l2 x52_3)) = j_ := ⟨_, rfl⟩
          replace H : ((impl_consents.f k3 a0_0 l0_1 l1 (Go.bits .or .i64 x10_3 (ji31))).bind fun t431 => (if t431 = true then (some (rd l2 x52_3)) else (impl_PivotIn.l1 k3 l1 (Go.bits .or .i64 x10_3 (ji31)) l2 (l2.length : Int) (wrap64 (x52_3 + 1)) a0_0 l0_1))) = some r := by first | (rw [hji31] at H; exact H) | (simp only [hji31] at H ⊢; exact H)
          have hji31_ : (IntKind.i64.wrap (1 * 2 ^ min (rd l2 x52_3).toNat 64)) = ji31 := hji31
          have hji31z : (rd l2 x52_3) ≤ 64 → (IntKind.i64.wrap (1 * 2 ^ (rd l2 x52_3).toNat)) = ji31 := shl_small hji31
          have hji31u : (IntKind.i64.wrap (2 ^ min (rd l2 x52_3).toNat 64)) = ji31 := by have h_ := hji31_; rw [Int.one_mul] at h_; exact h_
          have hji31v : (rd l2 x52_3) ≤ 64 → (IntKind.i64.wrap (2 ^ (rd l2 x52_3).toNat)) = ji31 := fun hle_ => by have h_ := hji31z hle_; rw [Int.one_mul] at h_; exact h_
          have hji31y : (wrap64 (1 * 2 ^ min (rd l2 x52_3).toNat 64)) = ji31 := (i64_w _).symm.trans hji31_
          have hji31x : (rd l2 x52_3) ≤ 64 → (wrap64 (1 * 2 ^ (rd l2 x52_3).toNat)) = ji31 := fun h_ => (i64_w _).symm.trans (hji31z h_)
          replace H := Option.bind_eq_some_iff.mp H
          obtain ⟨t431, A320, H⟩ := H
          try dsimp only at H
          have A32 := Aside0.mk A320
          clear A320
          by_cases c33 : t431 = true
          ·subst c33
           rw [if_pos rfl] at H
           obtain rfl := Option.some.inj H
           have p430 : 0 ≤ (x52_3 : Int) := Z.od
           have q430 : x52_3 < (l2.length : Int) := Z.od
           obtain ⟨ad430, rfl, hx430_0⟩ := Kd.at_int HR2.out x52_3 p430 q430
           replace hx430_0 := Z.up HB.out hx430_0
           replace p430 := eq_true p430
           replace q430 := eq_true q430
           have hcz34 := Z.c2 BK427.out
           go_wp2_with (first | ((with_reducible refine gate_callee (f := 28) rfl ?_); refine goesL_ (some 63) rfl rfl Try.func28 (by kernel_rfl) rfl #[.agg #[.int .i64 a0_0, .slice A0_1 l0_1.length c0_1], .slice A1 l1.length c1, .int .i64 (Go.bits .or .i64 x10_3 (ji31))] rfl (by (try simp only [List.map_toArray, List.map_cons, List.map_nil]); first | done | (simp only [hji31]; rfl) | rfl | (simp only [List.length_drop, List.length_take]; rfl)) ?_; (with_reducible refine (impl_consents.calls k3 a0_0 _ _ l0_1 _ _ l1 (Go.bits .or .i64 x10_3 (ji31)) true _ ?q1 ?q2 ?q3 ?q4 A32.out).mono ?_); (case q1 => exact Z.cc HR0_1 HB); (case q2 => exact HC0_1.out); (case q3 => exact Z.cc HR1 HB); (case q4 => exact HC1.out); rintro e w35 ⟨rfl, hb⟩; refine ⟨_, rfl, ?_⟩; replace BK427 := Z.bb BK427 hb; replace HB := Z.st (Z.bs HB.out GE427.out) hb; (try clear hb); (try clear hb2); (try clear hk); (try clear hi)))
           go_ret
           exact ⟨by first | rfl | (simp [errW_none, errW_some] <;> rfl) | (simp only [← hji31]; first | rfl | (simp [errW_none, errW_some] <;> rfl)) | (simp [*, errW_none, errW_some] <;> rfl), Z.bs HB.out GE427.out⟩
          ·replace c33 := Bool.eq_false_iff.mpr c33
           subst c33
           rw [if_neg (show ¬ (false = true) by decide)] at H
           have H' := Aside0.mk H
           clear H
           have p430 : 0 ≤ (x52_3 : Int) := Z.od
           have q430 : x52_3 < (l2.length : Int) := Z.od
           obtain ⟨ad430, rfl, hx430_0⟩ := Kd.at_int HR2.out x52_3 p430 q430
           replace hx430_0 := Z.up HB.out hx430_0
           replace p430 := eq_true p430
           replace q430 := eq_true q430
           have hcz36 := Z.c2 BK427.out
           go_wp2_with (first | ((with_reducible refine gate_callee (f := 28) rfl ?_); refine goesL_ (some 63) rfl rfl Try.func28 (by kernel_rfl) rfl #[.agg #[.int .i64 a0_0, .slice A0_1 l0_1.length c0_1], .slice A1 l1.length c1, .int .i64 (Go.bits .or .i64 x10_3 (ji31))] rfl (by (try simp only [List.map_toArray, List.map_cons, List.map_nil]); first | done | (simp only [hji31]; rfl) | rfl | (simp only [List.length_drop, List.length_take]; rfl)) ?_; (with_reducible refine (impl_consents.calls k3 a0_0 _ _ l0_1 _ _ l1 (Go.bits .or .i64 x10_3 (ji31)) false _ ?q1 ?q2 ?q3 ?q4 A32.out).mono ?_); (case q1 => exact Z.cc HR0_1 HB); (case q2 => exact HC0_1.out); (case q3 => exact Z.cc HR1 HB); (case q4 => exact HC1.out); rintro e w37 ⟨rfl, hb⟩; refine ⟨_, rfl, ?_⟩; replace BK427 := Z.bb BK427 hb; replace HB := Z.st (Z.bs HB.out GE427.out) hb; (try clear hb); (try clear hb2); (try clear hk); (try clear hi)))
           go_roundg k3
           case measure => have := HJ3.out; have := HK2.out; have := HK3.out; omega
           case rel => exact ⟨(Go.bits .or .i64 x10_3 (ji31)), (wrap64 (x52_3 + 1)), (by first | rfl | (simp; done) | (simp only [← hji31] <;> (first | rfl | simp)) | (simp [*]; done)), (by first | rfl | (simp; done) | (simp [*]; done)), H', ⟨by have := HJ3.out; have := HK2.out; have := HK3.out; omega⟩, ⟨by (with_reducible repeat (first | refine blk_drewN ?_ _ | refine blk_drew ?_ | refine blk_alloc ?_ _)); exact BK427.out⟩, ⟨Z.bs HB.out GE427.out⟩⟩
         ·rw [if_neg c27] at H
          have c27b0 := decide_eq_false c27
          clear c27
          obtain rfl := Option.some.inj H
          go_wp2
          go_ret
          exact ⟨by first | rfl | (simp [errW_none, errW_some] <;> rfl) | (simp [*, errW_none, errW_some] <;> rfl), Z.bs HB.out GE427.out⟩

end Go.Proofs.Ytenjngocdinfmaa.PAll

/- Walks of functions that All reaches, in the form of the print. -/
-- PRINTED
import Derived.Test.YtcafckapdgaogaaCAll0
import Derived.Test.YtcafckapdgaogaaCAll14
import Derived.Test.YtcafckapdgaogaaCAll17
import Derived.Test.YtcafckapdgaogaaZ
namespace Go.Proofs.Ytcafckapdgaogaa.PAll
open Go.RowKit Go.Proofs.YtcafckapdgaogaaW.PrintWords Go.Proofs.YtcafckapdgaogaaW.PrintLast Go.Proofs.YtcafckapdgaogaaW.PrintMore
attribute [local go_sem] max2_int min2_int max_two min_two max_three min_three max_four min_four
set_option linter.unusedVariables false
set_option linter.unusedSimpArgs false

/-! ### impl_ValidActs: function 34 -/
mutual
def impl_ValidActs.j0 : Nat → List Int → List (S53) → Bool → Int → List Int → List (List (S86)) → Option ((List (S53)))
 | 0, _, _, _, _, _, _ => none
 | k + 1, x1, x2, x19, x562000, x562001, x562002 => if x19 = true then (some ([] : List (S53))) else ((some (([] : List Int) : List Int)).bind fun y563 => (if y563.length + x1.length < 17592186044416 then (impl_ValidActs.l0 k (y563 ++ x1) (([] : List (S53))) x2 (x2.length : Int) 0 x562000 x562001 x562002) else (none)))
def impl_ValidActs.l0 : Nat → List Int → List (S53) → List (S53) → Int → Int → Int → List Int → List (List (S86)) → Option ((List (S53)))
 | 0, _, _, _, _, _, _, _, _ => none
 | k + 1, x7, x8, x24, x25, x26, x562000, x562001, x562002 => if x26 < x25 then (if 0 ≤ x26 then (if x26 < (x24.length : Int) then ((impl_mayAct.f k x562000 x562001 x562002 x7 ((rd_T53 x24 x26).f0) ((rd_T53 x24 x26).f1) ((rd_T53 x24 x26).f2)).bind fun t574 => (if t574 = true then (if 0 ≤ ((rd_T53 x24 x26).f0) then (if ((rd_T53 x24 x26).f0) < (x7.length : Int) then (if x8.length < 5864062014805 then (impl_ValidActs.l0 k (x7.set (((rd_T53 x24 x26).f0) : Int).toNat ((rd_T53 x24 x26).f1)) (x8 ++ [(⟨(rd_T53 x24 x26).f0, (rd_T53 x24 x26).f1, (rd_T53 x24 x26).f2⟩ : S53)]) x24 x25 (wrap64 (x26 + 1)) x562000 x562001 x562002) else (none)) else (none)) else (none)) else (impl_ValidActs.l0 k x7 x8 x24 x25 (wrap64 (x26 + 1)) x562000 x562001 x562002))) else (none)) else (none)) else (some x8)
end
def impl_ValidActs.f (k : Nat) (a0_0 : Int) (l0_1 : List Int) (l0_2 : List (List (S86))) (l1 : List Int) (l2 : List (S53)) : Option ((List (S53))) := (impl_isState.f k a0_0 l0_1 l0_2 l1).bind fun t562 => (if t562 = true then (impl_ValidActs.j0 k l1 l2 (decide ((l2.length : Int) > 12)) a0_0 l0_1 l0_2) else (impl_ValidActs.j0 k l1 l2 true a0_0 l0_1 l0_2))
theorem impl_ValidActs.mono_l : ∀ k, (∀ y0 y1 y2 y3 y4 y5, LeO (impl_ValidActs.j0 k y0 y1 y2 y3 y4 y5) (impl_ValidActs.j0 (k + 1) y0 y1 y2 y3 y4 y5)) ∧ (∀ y0 y1 y2 y3 y4 y5 y6 y7, LeO (impl_ValidActs.l0 k y0 y1 y2 y3 y4 y5 y6 y7) (impl_ValidActs.l0 (k + 1) y0 y1 y2 y3 y4 y5 y6 y7))
 | 0 => ⟨fun _ _ _ _ _ _ r h => by simp [impl_ValidActs.j0] at h, fun _ _ _ _ _ _ _ _ r h => by simp [impl_ValidActs.l0] at h⟩
 | k + 1 => by
  obtain ⟨ih0, ih1⟩ := impl_ValidActs.mono_l k
  refine ⟨?_, ?_⟩
  ·intro y0 y1 y2 y3 y4 y5
   unfold impl_ValidActs.j0
   repeat' first
   | (with_reducible exact LeO.refl _)
   | exact ih0 _ _ _ _ _ _
   | exact ih1 _ _ _ _ _ _ _ _
   | exact impl_isState.mono _ _ _ _ _
   | exact impl_mayAct.mono _ _ _ _ _ _ _ _
   | exact LeO.none _
   | refine LeO.ite ?_ ?_
   | refine LeO.bind ?_ (fun _ => ?_)
  ·intro y0 y1 y2 y3 y4 y5 y6 y7
   unfold impl_ValidActs.l0
   repeat' first
   | (with_reducible exact LeO.refl _)
   | exact ih0 _ _ _ _ _ _
   | exact ih1 _ _ _ _ _ _ _ _
   | exact impl_isState.mono _ _ _ _ _
   | exact impl_mayAct.mono _ _ _ _ _ _ _ _
   | exact LeO.none _
   | refine LeO.ite ?_ ?_
   | refine LeO.bind ?_ (fun _ => ?_)
theorem impl_ValidActs.mono : ∀ a0 a1 a2 a3 a4 k, LeO (impl_ValidActs.f k a0 a1 a2 a3 a4) (impl_ValidActs.f (k + 1) a0 a1 a2 a3 a4) := by
 intro a0 a1 a2 a3 a4 k
 obtain ⟨ih0, ih1⟩ := impl_ValidActs.mono_l k
 unfold impl_ValidActs.f
 repeat' first
   | (with_reducible exact LeO.refl _)
   | exact ih0 _ _ _ _ _ _
   | exact ih1 _ _ _ _ _ _ _ _
   | exact impl_isState.mono _ _ _ _ _
   | exact impl_mayAct.mono _ _ _ _ _ _ _ _
   | exact LeO.none _
   | refine LeO.ite ?_ ?_
   | refine LeO.bind ?_ (fun _ => ?_)
set_option maxHeartbeats 8000000 in
set_option maxRecDepth 100000 in
theorem impl_ValidActs.calls (k : Nat) (a0_0 : Int) (A0_1 : Option Addr) (c0_1 : Nat) (l0_1 : List Int) (A0_2 : Option Addr) (c0_2 : Nat) (l0_2 : List (List (S86))) (A1 : Option Addr) (c1 : Nat) (l1 : List Int) (A2 : Option Addr) (c2 : Nat) (l2 : List (S53)) (r : List (S53)) (w : World) (hr0_1 : Kd.C (Kd.int .i64) w A0_1 l0_1.length l0_1) (hc0_1 : l0_1.length ≤ c0_1) (hr0_2 : Kd.C (Kd.slice 86 k86) w A0_2 l0_2.length l0_2) (hc0_2 : l0_2.length ≤ c0_2) (hr1 : Kd.C (Kd.int .i64) w A1 l1.length l1) (hc1 : l1.length ≤ c1) (hr2 : Kd.C k53 w A2 l2.length l2) (hc2 : l2.length ≤ c2) (h : impl_ValidActs.f k a0_0 l0_1 l0_2 l1 l2 = some r) :
  Calls Try.prog 34 #[.agg #[.int .i64 a0_0, .slice A0_1 l0_1.length c0_1, .slice A0_2 l0_2.length c0_2], .slice A1 l1.length c1, .slice A2 l2.length c2] w fun e w' => ∃ v0_ : Value, e = .returned (v0_) ∧ Kd.R k53 53 w' w.heap.size (fun _ => True) v0_ r ∧ Below w.heap.size w w' := by
 have hu35 := Try.underlying35
 have hu53 := Try.underlying53
 have HR0_1 := Aside0.mk hr0_1
 have HC0_1 := Aside0.mk hc0_1
 clear hr0_1 hc0_1
 have HR0_2 := Aside0.mk hr0_2
 have HC0_2 := Aside0.mk hc0_2
 clear hr0_2 hc0_2
 have HR1 := Aside0.mk hr1
 have HC1 := Aside0.mk hc1
 clear hr1 hc1
 have HR2 := Aside0.mk hr2
 have HC2 := Aside0.mk hc2
 clear hr2 hc2
 have HB := Aside0.mk (Below.refl w.heap.size w)
 have H := h
 clear h
 unfold impl_ValidActs.f at H
 have HC4 := Aside0.mk H
 clear H
 go_enter Try.func34, Try.ntmps34
 go_upto_region 1 with (first | ((with_reducible refine gate_dst (N := 3) rfl ?_); (try (refine gate_guard (by rfl) ?_; dsimp only)); refine Z.bx #[.int .i64 a0_0, .slice A0_1 l0_1.length c0_1, .slice A0_2 l0_2.length c0_2] 35 HB ?_; clear HB; intro gb561 w5 BK561 GE561 HB hg hb; have GW561 := GE561; clear hb hg))
 (try simp only [Act.put, List.setIfInBounds_toArray, List.set_cons_zero, List.set_cons_succ])
 go_cut [19] (fun v19 wc => ∃ (kq : Nat) (x19_3 : Bool), v19 = .bool x19_3 ∧ Aside0 (impl_ValidActs.j0 kq l1 l2 x19_3 a0_0 l0_1 l0_2 = some r) ∧ Aside0 (kq ≤ k) ∧ Aside0 (wc.heap[gb561]? = some (.cells #[.int .i64 a0_0, (.slice A0_1 l0_1.length c0_1), (.slice A0_2 l0_2.length c0_2)] 35 (0, 0))) ∧ Aside0 (Below w.heap.size w wc))
 case first =>
  have H := HC4.out
  clear HC4
  replace H := Option.bind_eq_some_iff.mp H
  obtain ⟨t562, A60, H⟩ := H
  try dsimp only at H
  have A6 := Aside0.mk A60
  clear A60
  by_cases c7 : t562 = true
  ·subst c7
   rw [if_pos rfl] at H
   have H' := Aside0.mk H
   clear H
   have hcz8 := Z.c3 BK561.out
   go_wp2_with (first | ((with_reducible refine gate_callee (f := 65) rfl ?_); refine goesL_ (some 13) rfl rfl Try.func65 (by kernel_rfl) rfl #[.agg #[.int .i64 a0_0, .slice A0_1 l0_1.length c0_1, .slice A0_2 l0_2.length c0_2], .slice A1 l1.length c1] rfl Z.ar ?_; (with_reducible refine (impl_isState.calls k a0_0 _ _ l0_1 _ _ l0_2 _ _ l1 true _ ?q1 ?q2 ?q3 ?q4 ?q5 ?q6 A6.out).mono ?_); (case q1 => exact Z.cc HR0_1 HB); (case q2 => exact HC0_1.out); (case q3 => exact Z.cc HR0_2 HB); (case q4 => exact HC0_2.out); (case q5 => exact Z.cc HR1 HB); (case q6 => exact HC1.out); rintro e w9 ⟨rfl, hb⟩; refine ⟨_, rfl, ?_⟩; replace BK561 := Z.bb BK561 hb; replace HB := Z.st (Z.bs HB.out GE561.out) hb; (try clear hb); (try clear hb2); (try clear hk); (try clear hi)))
   go_meet
   case rel => exact ⟨_, (decide ((l2.length : Int) > 12)), (by first | rfl | (simp; done) | (simp [*]; done)), H', ⟨by first | omega | exact Nat.le_refl _⟩, ⟨by (with_reducible repeat (first | refine blk_drewN ?_ _ | refine blk_drew ?_ | refine blk_alloc ?_ _)); exact BK561.out⟩, ⟨Z.bs HB.out GE561.out⟩⟩
  ·replace c7 := Bool.eq_false_iff.mpr c7
   subst c7
   rw [if_neg (show ¬ (false = true) by decide)] at H
   have H' := Aside0.mk H
   clear H
   have hcz10 := Z.c3 BK561.out
   go_wp2_with (first | ((with_reducible refine gate_callee (f := 65) rfl ?_); refine goesL_ (some 13) rfl rfl Try.func65 (by kernel_rfl) rfl #[.agg #[.int .i64 a0_0, .slice A0_1 l0_1.length c0_1, .slice A0_2 l0_2.length c0_2], .slice A1 l1.length c1] rfl Z.ar ?_; (with_reducible refine (impl_isState.calls k a0_0 _ _ l0_1 _ _ l0_2 _ _ l1 false _ ?q1 ?q2 ?q3 ?q4 ?q5 ?q6 A6.out).mono ?_); (case q1 => exact Z.cc HR0_1 HB); (case q2 => exact HC0_1.out); (case q3 => exact Z.cc HR0_2 HB); (case q4 => exact HC0_2.out); (case q5 => exact Z.cc HR1 HB); (case q6 => exact HC1.out); rintro e w11 ⟨rfl, hb⟩; refine ⟨_, rfl, ?_⟩; replace BK561 := Z.bb BK561 hb; replace HB := Z.st (Z.bs HB.out GE561.out) hb; (try clear hb); (try clear hb2); (try clear hk); (try clear hi)))
   go_meet
   case rel => exact ⟨_, (true), (by first | rfl | (simp; done) | (simp [*]; done)), H', ⟨by first | omega | exact Nat.le_refl _⟩, ⟨by (with_reducible repeat (first | refine blk_drewN ?_ _ | refine blk_drew ?_ | refine blk_alloc ?_ _)); exact BK561.out⟩, ⟨Z.bs HB.out GE561.out⟩⟩
 case rest =>
  clear HC4
  try clear c1
  try clear c2
  try clear p2
  try clear c3
  try clear c6
  try clear c7
  try clear hcz10_0
  try clear hcz10_1
  try clear hcz10_2
  try clear hcz8_0
  try clear hcz8_1
  try clear hcz8_2
  try clear hfz10_0
  try clear hfz10_1
  try clear hfz10_2
  try clear hfz8_0
  try clear hfz8_1
  try clear hfz8_2
  obtain ⟨kq, x19_3, rfl, HA, HJ3, BK561, HB⟩ := hcut
  cases kq with
  | zero => exact absurd HA.out (by simp [impl_ValidActs.j0])
  | succ kj3 =>
   have H := HA.out
   clear HA
   simp only [impl_ValidActs.j0] at H
   by_cases c12 : x19_3 = true
   ·subst c12
    rw [if_pos rfl] at H
    obtain rfl := Option.some.inj H
    go_wp2
    go_ret
    exact ⟨_, by first | rfl | (simp [errW_none, errW_some] <;> rfl) | (simp [*, errW_none, errW_some] <;> rfl), by first | exact Kd.R_nil _ _ _ _ _ | exact Kd.N_nil _ _ _ _ _ | exact Kd.V_nil _ _ _ _ _ | exact Kd.Q_nil _ _ _ _ _ | exact Kd.S_nil _ _ _ _ _, Z.bs HB.out GE561.out⟩
   ·replace c12 := Bool.eq_false_iff.mpr c12
    subst c12
    rw [if_neg (show ¬ (false = true) by decide)] at H
    obtain ⟨y563, hy563⟩ : ∃ y_ : List Int, y_ = (([] : List Int)) := ⟨_, rfl⟩
    replace H : (if y563.length + l1.length < 17592186044416 then (impl_ValidActs.l0 kj3 (y563 ++ l1) (([] : List (S53))) l2 (l2.length : Int) 0 a0_0 l0_1 l0_2) else (none)) = some r := by first | (rw [hy563]; with_reducible exact H) | (have H2_ := (Option.bind_some _ _).symm.trans H; rw [hy563]; with_reducible exact H2_) | (have H2_ := (Option.bind_some _ _).symm.trans H; with_reducible exact H2_) | with_reducible exact H | (rw [hy563]; exact H) | exact H
    have Ny563 := Aside0.mk hy563
    clear hy563
    obtain ⟨c13, H⟩ := Z.ifp H
    have LMc13 := Aside0.mk c13
    clear c13
    obtain ⟨y566, hy566⟩ : ∃ y_ : List Int, y_ = (y563 ++ l1) := ⟨_, rfl⟩
    replace H : (impl_ValidActs.l0 kj3 y566 (([] : List (S53))) l2 (l2.length : Int) 0 a0_0 l0_1 l0_2) = some r := by first | (rw [hy566]; with_reducible exact H) | (have H2_ := (Option.bind_some _ _).symm.trans H; rw [hy566]; with_reducible exact H2_) | (have H2_ := (Option.bind_some _ _).symm.trans H; with_reducible exact H2_) | with_reducible exact H | (rw [hy566]; exact H) | exact H
    have Ny566 := Aside0.mk hy566
    clear hy566
    obtain ⟨y569, hy569⟩ : ∃ y_ : List (S53), y_ = (([] : List (S53))) := ⟨_, rfl⟩
    replace H : (impl_ValidActs.l0 kj3 y566 y569 l2 (l2.length : Int) 0 a0_0 l0_1 l0_2) = some r := by first | (rw [hy569]; with_reducible exact H) | (have H2_ := (Option.bind_some _ _).symm.trans H; rw [hy569]; with_reducible exact H2_) | (have H2_ := (Option.bind_some _ _).symm.trans H; with_reducible exact H2_) | with_reducible exact H | (rw [hy569]; exact H) | exact H
    have Ny569 := Aside0.mk hy569
    clear hy569
    have H' := Aside0.mk H
    clear H
    go_wp2_with (first | ((with_reducible refine gate_dst (N := 20) rfl ?_); (try (refine gate_guard (by rfl) ?_; dsimp only)); refine Kd.R_lit (Kd.int .i64) _ 3 ?hg (N := 20) ?hd (xs := ([] : List Int)) (inner := []) (ok := fun _ => True) (okp := fun _ => True) ?hr ?hp (fun _ hk => hk) trivial (Below.refl _ _) (Nat.le_refl _) (by simp) ?_; (case hd | hg => rfl); (case hr => first | (go_simp; done) | (go_simp; rfl)); (case hp => exact (Reps.none _ _)); intro v564 w14 ho15 hb hg_ hnew_; clear hg_ hnew_; (first | rw [← Ny563.out] at ho15 | (simp only [Int.reduceToNat] at ho15; rw [← Ny563.out] at ho15)); have HO565 := Aside0.mk (Kd.R_lower ho15 (below_size (Z.bs HB.out GE561.out))); replace BK561 := Z.bb BK561 hb; replace HB := Z.st (Z.bs HB.out GE561.out) hb; clear hb ho15) | ((with_reducible refine gate_builtin (b := .append) (xs := #[.tmp 20, .tmp 21]) rfl ?_); (try (refine gate_guard (by rfl) ?_; dsimp only)); at_builtin; refine Kd.R_append_rows (Kd.int .i64) (w0 := w) w.heap.size rfl (.tmp 20) (.tmp 21) 22 3 (.int .i64 0) 8 rfl Try.underlying22 info3 rfl (by decide) (by omega) v564 y563 l1 _ _ _ (fun _ => True) (fun _ => False) rfl rfl ?aO ?aR (fun _ _ h => h) (fun _ h => h.elim) ?aF ?aB ?aS ?aL ?_; (case aR => exact Z.cc HR1 HB); (case aB => exact (Z.bs HB.out GE561.out)); (case aF => exact (fun _ _ => trivial)); (case aO => exact (by (with_reducible repeat (first | apply Kd.R_alloc | apply Kd.R_drewN | apply Kd.R_drew)); exact HO565.out)); (case aS => exact (below_size (Z.bs HB.out GE561.out))); (case aL => have := LMc13.out; omega); intro v567 w16 ho hb hg hat; rw [← Ny566.out] at ho; replace BK561 := Aside0.mk (blk_grown (g := gb561) (o := .cells #[.int .i64 a0_0, .slice A0_1 l0_1.length c0_1, .slice A0_2 l0_2.length c0_2] 35 (0, 0)) (Z.bk BK561.out) hg (Kd.R_ne HO565.out BK561.out (by decide))); replace HB := Aside0.mk (hb); have HO568 := Aside0.mk (ho); clear HO565; clear ho hb hg hat) | ((with_reducible refine gate_dst (N := 23) rfl ?_); (try (refine gate_guard (by rfl) ?_; dsimp only)); refine Kd.R_lit k53 _ 53 ?hg (N := 23) ?hd (xs := ([] : List (S53))) (inner := []) (ok := fun _ => True) (okp := fun _ => True) ?hr ?hp (fun _ hk => hk) trivial (Below.refl _ _) (Nat.le_refl _) (by simp) ?_; (case hd | hg => rfl); (case hr => first | (go_simp; done) | (go_simp; rfl)); (case hp => exact (Reps.none _ _)); intro v570 w17 ho18 hb hg_ hnew_; clear hg_ hnew_; (first | rw [← Ny569.out] at ho18 | (simp only [Int.reduceToNat] at ho18; rw [← Ny569.out] at ho18)); replace HO568 := Aside0.mk (Kd.R_below (by (with_reducible repeat (first | apply Kd.R_alloc | apply Kd.R_drewN | apply Kd.R_drew)); exact HO568.out) hb); have HO571 := Aside0.mk (Kd.R_lower ho18 (below_size (Z.bs HB.out GE561.out))); replace BK561 := Z.bb BK561 hb; replace HB := Z.st (Z.bs HB.out GE561.out) hb; clear hb ho18))
    go_loopg [8, 26] kj3 (fun kq v8 v26 w' => ∃ (x7_2 : List Int) (x8_2 : List (S53)) (x26_2 : Int), v26 = .int .i64 x26_2 ∧ Aside0 (impl_ValidActs.l0 kq x7_2 x8_2 l2 (l2.length : Int) x26_2 a0_0 l0_1 l0_2 = some r) ∧ Aside0 (kq ≤ kj3) ∧ Aside0 (Kd.R (Kd.int .i64) 3 w' w.heap.size (fun _ => True) v567 x7_2) ∧ Aside0 (Kd.R k53 53 w' w.heap.size (fun _ => True) v8 x8_2) ∧ Aside0 (w'.heap[gb561]? = some (.cells #[.int .i64 a0_0, (.slice A0_1 l0_1.length c0_1), (.slice A0_2 l0_2.length c0_2)] 35 (0, 0))) ∧ Aside0 (Below w.heap.size w w'))
    case atStart => exact ⟨(y566), (y569), (0), (by first | rfl | (simp; done) | (simp [*]; done)), H', ⟨Nat.le_refl _⟩, ⟨by (with_reducible repeat (first | apply Kd.R_alloc | apply Kd.R_drewN | apply Kd.R_drew)); exact HO568.out⟩, ⟨by (with_reducible repeat (first | apply Kd.R_alloc | apply Kd.R_drewN | apply Kd.R_drew)); exact HO571.out⟩, ⟨by (with_reducible repeat (first | refine blk_drewN ?_ _ | refine blk_drew ?_ | refine blk_alloc ?_ _)); exact BK561.out⟩, ⟨Z.bs HB.out GE561.out⟩⟩
    case round =>
     clear H'
     try clear c1
     try clear c2
     try clear p2
     try clear c3
     try clear c6
     try clear c7
     try clear c12
     try clear c13
     try clear hcz10_0
     try clear hcz10_1
     try clear hcz10_2
     try clear hcz8_0
     try clear hcz8_1
     try clear hcz8_2
     try clear hfz10_0
     try clear hfz10_1
     try clear hfz10_2
     try clear hfz8_0
     try clear hfz8_1
     try clear hfz8_2
     try clear p2
     obtain ⟨x7_2, x8_2, x26_2, rfl, HA, HK2, HO_7, HO_8, BK561, HB⟩ := hrel
     cases gk with
     | zero => exact absurd HA.out (by simp [impl_ValidActs.l0])
     | succ k2 =>
      have H := HA.out
      clear HA
      simp only [impl_ValidActs.l0] at H
      by_cases c19 : x26_2 < (l2.length : Int)
      ·rw [if_pos c19] at H
       have c19b0 := decide_eq_true c19
       clear c19
       obtain ⟨c20, H⟩ := Z.ifp H
       have c20b0 : decide (0 ≤ x26_2) = true := decide_eq_true c20
       clear c20
       obtain ⟨c21, H⟩ := Z.ifp H
       have c21b0 : decide (x26_2 < (l2.length : Int)) = true := decide_eq_true c21
       clear c21
       replace H := Option.bind_eq_some_iff.mp H
       obtain ⟨t574, A220, H⟩ := H
       try dsimp only at H
       have A22 := Aside0.mk A220
       clear A220
       by_cases c23 : t574 = true
       ·subst c23
        rw [if_pos rfl] at H
        obtain ⟨c24, H⟩ := Z.ifp H
        have c24b0 : decide (0 ≤ ((rd_T53 l2 x26_2).f0)) = true := decide_eq_true c24
        clear c24
        obtain ⟨c25, H⟩ := Z.ifp H
        have c25b0 : decide (((rd_T53 l2 x26_2).f0) < (x7_2.length : Int)) = true := decide_eq_true c25
        clear c25
        obtain ⟨y575, hy575⟩ : ∃ y_ : List Int, y_ = (x7_2.set (((rd_T53 l2 x26_2).f0) : Int).toNat ((rd_T53 l2 x26_2).f1)) := ⟨_, rfl⟩
        replace H : (if x8_2.length < 5864062014805 then (impl_ValidActs.l0 k2 y575 (x8_2 ++ [(⟨(rd_T53 l2 x26_2).f0, (rd_T53 l2 x26_2).f1, (rd_T53 l2 x26_2).f2⟩ : S53)]) l2 (l2.length : Int) (wrap64 (x26_2 + 1)) a0_0 l0_1 l0_2) else (none)) = some r := by first | (rw [hy575]; with_reducible exact H) | (have H2_ := (Option.bind_some _ _).symm.trans H; rw [hy575]; with_reducible exact H2_) | (have H2_ := (Option.bind_some _ _).symm.trans H; with_reducible exact H2_) | with_reducible exact H | (rw [hy575]; exact H) | exact H
        have Ny575 := Aside0.mk hy575
        clear hy575
        obtain ⟨c27, H⟩ := Z.ifp H
        have LMc27 := Aside0.mk c27
        clear c27
        obtain ⟨y576, hy576⟩ : ∃ y_ : List (S53), y_ = (x8_2 ++ [(⟨(rd_T53 l2 x26_2).f0, (rd_T53 l2 x26_2).f1, (rd_T53 l2 x26_2).f2⟩ : S53)]) := ⟨_, rfl⟩
        replace H : (impl_ValidActs.l0 k2 y575 y576 l2 (l2.length : Int) (wrap64 (x26_2 + 1)) a0_0 l0_1 l0_2) = some r := by first | (rw [hy576]; with_reducible exact H) | (have H2_ := (Option.bind_some _ _).symm.trans H; rw [hy576]; with_reducible exact H2_) | (have H2_ := (Option.bind_some _ _).symm.trans H; with_reducible exact H2_) | with_reducible exact H | (rw [hy576]; exact H) | exact H
        have Ny576 := Aside0.mk hy576
        clear hy576
        have H' := Aside0.mk H
        clear H
        have p572 : 0 ≤ (x26_2 : Int) := Z.od
        have q572 : x26_2 < (l2.length : Int) := Z.od
        obtain ⟨ad572, rfl, hx572_0, hx572_1, hx572_2⟩ := at_T53 HR2.out x26_2 p572 q572
        replace hx572_0 := Z.up HB.out hx572_0
        replace hx572_1 := Z.up HB.out hx572_1
        replace hx572_2 := Z.up HB.out hx572_2
        replace p572 := eq_true p572
        replace q572 := eq_true q572
        go_wp2_with (first | ((with_reducible refine gate_dst (N := 10) rfl ?_); (try (refine gate_guard (by rfl) ?_; dsimp only)); refine Z.bz #[.int .i64 0, .int .i64 0, .int .i64 0] 53 HB GE561 ?_; clear HB; intro gb573 w28 BK573 GE573 HB hg hb; have GW573 := GE573; replace HO_7 := Aside0.mk (Kd.R_below (by (with_reducible repeat (first | apply Kd.R_alloc | apply Kd.R_drewN | apply Kd.R_drew)); exact HO_7.out) hb); replace HO_8 := Aside0.mk (Kd.R_below (Kd.R_elderB (by (with_reducible repeat (first | apply Kd.R_alloc | apply Kd.R_drewN | apply Kd.R_drew)); exact HO_8.out) gb573 (Nat.le_of_eq hg.symm)) hb); have NB561_573 := Z.nl hg BK561; have NB573_561 := Z.ng hg BK561; replace BK561 := Z.bb BK561 hb; clear hb hg; have hnb29 := NB573_561.out; have hnc29 := NB561_573.out; have hcz30 := Z.c3 BK573.out; have hcz31 := Z.c3 BK561.out; obtain ⟨Ao32, co32, eo32⟩ := Kd.R_slice HO_7.out; subst eo32) | ((with_reducible refine gate_callee (f := 66) rfl ?_); refine goesL_ (some 33) rfl rfl Try.func66 (by kernel_rfl) rfl #[.agg #[.int .i64 a0_0, .slice A0_1 l0_1.length c0_1, .slice A0_2 l0_2.length c0_2], .slice Ao32 x7_2.length co32, .agg #[.int .i64 ((rd_T53 l2 x26_2).f0), .int .i64 ((rd_T53 l2 x26_2).f1), .int .i64 ((rd_T53 l2 x26_2).f2)]] rfl Z.ar ?_; (with_reducible refine (impl_mayAct.calls k2 a0_0 _ _ l0_1 _ _ l0_2 _ _ x7_2 ((rd_T53 l2 x26_2).f0) ((rd_T53 l2 x26_2).f1) ((rd_T53 l2 x26_2).f2) true _ ?q1 ?q2 ?q3 ?q4 ?q5 ?q6 A22.out).mono ?_); (case q1 => exact Kd.C_below HR0_1.out (by repeat (first | (with_reducible first | exact HB.out | apply below_alloc | apply pw_below_drewN | apply below_drew1 | refine below_set ?_ GE561.out | refine below_set ?_ GE573.out) | exact HB.out))); (case q2 => exact HC0_1.out); (case q3 => exact Kd.C_below HR0_2.out (by repeat (first | (with_reducible first | exact HB.out | apply below_alloc | apply pw_below_drewN | apply below_drew1 | refine below_set ?_ GE561.out | refine below_set ?_ GE573.out) | exact HB.out))); (case q4 => exact HC0_2.out); (case q5 => refine (Kd.R_reads' (e := 3) (base := w.heap.size) (ok := fun k_ => True) (n := x7_2.length) (c := co32) ?_).2.2; exact (by (with_reducible repeat (first | apply Kd.R_alloc | apply Kd.R_drewN | apply Kd.R_drew)); exact (Kd.R_mono (Kd.R_far (p := ⟨gb573, 2, none⟩) (Kd.R_far (p := ⟨gb573, 1, none⟩) (Kd.R_far (p := ⟨gb573, 0, none⟩) (Kd.R_types HO_7.out BK573.out (by decide)) (fun _ hk => hk.2) (.int .i64 ((rd_T53 l2 x26_2).f0))) (fun _ hk => hk.2) (.int .i64 ((rd_T53 l2 x26_2).f1))) (fun _ hk => hk.2) (.int .i64 ((rd_T53 l2 x26_2).f2))) (fun _ h_ => h_.1)))); (case q6 => exact (Kd.R_reads' HO_7.out).2.1); rintro e w33 ⟨rfl, hb⟩; refine ⟨_, rfl, ?_⟩; replace HO_7 := Aside0.mk (Kd.R_below (by (with_reducible repeat (first | apply Kd.R_alloc | apply Kd.R_drewN | apply Kd.R_drew)); exact (Kd.R_mono (Kd.R_far (p := ⟨gb573, 2, none⟩) (Kd.R_far (p := ⟨gb573, 1, none⟩) (Kd.R_far (p := ⟨gb573, 0, none⟩) (Kd.R_types HO_7.out BK573.out (by decide)) (fun _ hk => hk.2) (.int .i64 ((rd_T53 l2 x26_2).f0))) (fun _ hk => hk.2) (.int .i64 ((rd_T53 l2 x26_2).f1))) (fun _ hk => hk.2) (.int .i64 ((rd_T53 l2 x26_2).f2))) (fun _ h_ => h_.1))) hb); replace HO_8 := Aside0.mk (Kd.R_below (by (with_reducible repeat (first | apply Kd.R_alloc | apply Kd.R_drewN | apply Kd.R_drew)); exact (Kd.R_mono (Kd.R_far (p := ⟨gb573, 2, none⟩) (Kd.R_far (p := ⟨gb573, 1, none⟩) (Kd.R_far (p := ⟨gb573, 0, none⟩) (Kd.R_mono HO_8.out (fun k_ hk => (⟨hk, hk.2⟩ : _ ∧ k_ ≠ gb573))) (fun _ hk => hk.2) (.int .i64 ((rd_T53 l2 x26_2).f0))) (fun _ hk => hk.2) (.int .i64 ((rd_T53 l2 x26_2).f1))) (fun _ hk => hk.2) (.int .i64 ((rd_T53 l2 x26_2).f2))) (fun _ h_ => h_.1))) hb); replace BK561 := Aside0.mk (blk_below (g := gb561) (o := .cells #[.int .i64 a0_0, .slice A0_1 l0_1.length c0_1, .slice A0_2 l0_2.length c0_2] 35 (0, 0)) (by (with_reducible repeat (first | refine blk_drewN ?_ _ | refine blk_drew ?_ | refine blk_alloc ?_ _)); refine blk_far ?_ NB561_573.out _; (with_reducible repeat (first | refine blk_drewN ?_ _ | refine blk_drew ?_ | refine blk_alloc ?_ _)); refine blk_far ?_ NB561_573.out _; (with_reducible repeat (first | refine blk_drewN ?_ _ | refine blk_drew ?_ | refine blk_alloc ?_ _)); refine blk_far ?_ NB561_573.out _; (with_reducible repeat (first | refine blk_drewN ?_ _ | refine blk_drew ?_ | refine blk_alloc ?_ _)); exact BK561.out) hb); replace BK573 := Aside0.mk (blk_below (g := gb573) (o := .cells #[.int .i64 ((rd_T53 l2 x26_2).f0), .int .i64 ((rd_T53 l2 x26_2).f1), .int .i64 ((rd_T53 l2 x26_2).f2)] 53 (0, 0)) (by (with_reducible repeat (first | refine blk_drewN ?_ _ | refine blk_drew ?_ | refine blk_alloc ?_ _)); refine blk_put (cs := #[.int .i64 ((rd_T53 l2 x26_2).f0), .int .i64 ((rd_T53 l2 x26_2).f1), .int .i64 0]) ?_ 2 _ rfl; (with_reducible repeat (first | refine blk_drewN ?_ _ | refine blk_drew ?_ | refine blk_alloc ?_ _)); refine blk_put (cs := #[.int .i64 ((rd_T53 l2 x26_2).f0), .int .i64 0, .int .i64 0]) ?_ 1 _ rfl; (with_reducible repeat (first | refine blk_drewN ?_ _ | refine blk_drew ?_ | refine blk_alloc ?_ _)); refine blk_put (cs := #[.int .i64 0, .int .i64 0, .int .i64 0]) ?_ 0 _ rfl; (with_reducible repeat (first | refine blk_drewN ?_ _ | refine blk_drew ?_ | refine blk_alloc ?_ _)); exact BK573.out) hb); replace HB := Aside0.mk (below_step (by repeat (first | (with_reducible first | exact HB.out | apply below_alloc | apply pw_below_drewN | apply below_drew1 | refine below_set ?_ GE561.out | refine below_set ?_ GE573.out) | exact HB.out)) hb); (try clear hb); (try clear hb2); (try clear hk); (try clear hi); have hcz34 := Z.c3 BK573.out; have p26 : 0 ≤ (((rd_T53 l2 x26_2).f0) : Int) := Z.od; have q26 : (((rd_T53 l2 x26_2).f0) : Int) < ((x7_2.length : Int) : Int) := Z.od; obtain ⟨go26, co26, eo26, gb26, gl26, cl26, HG26⟩ := Kd.R_form HO_7.out (by omega); (first | cases eo26 | (injection eo26 with ea_ en_ ec_; (first | subst ea_ | (injection ea_ with ea_; subst ea_)); subst ec_; clear en_)); have GB26 := Aside0.mk gb26; have GG26 := Aside0.mk HG26; clear gb26 gl26 HG26; obtain ⟨hx26_0, hf26_0⟩ := Kd.R_celln 0 HO_7.out (((rd_T53 l2 x26_2).f0) : Int) p26 q26; replace p26 := eq_true p26; replace q26 := eq_true q26; obtain ⟨hy35_, hz35_⟩ := Kd.R_celln 0 HO_7.out (((rd_T53 l2 x26_2).f0) : Int) (Z.od) (Z.od); have HP35 := Kd.R_putg HO_7.out (((rd_T53 l2 x26_2).f0) : Int) ((rd_T53 l2 x26_2).f1)) | ((with_reducible refine gate_store (t := 3) (p := 39) rfl ?_); refine store_event (t := 3) (p := 39) (v := ?vo_w36) (w1 := (w33.setCell ⟨go26, (((rd_T53 l2 x26_2).f0) : Int).toNat, none⟩ (.int .i64 ((rd_T53 l2 x26_2).f1)))) ?hg ?ho ?hn ?hr ?_; (case ho => rfl); (case hg => rfl); (case hn => rfl); (case hr => first | (go_simp; done) | (go_simp; rfl)); intro w36 hw; have hg : w33.grownBy w36 (some go26) := (by rw [hw]; exact HP35.2); have hp_ : Kd.R (Kd.int .i64) 3 w36 w.heap.size (fun _ => True) (.slice (some ⟨go26, 0, none⟩) x7_2.length co32) y575 := (by rw [hw, Ny575.out]; exact HP35.1); clear HP35; replace HO_8 := Aside0.mk (Kd.R_over' (v := (.slice (some ⟨go26, 0, none⟩) x7_2.length co32)) (by (with_reducible repeat (first | apply Kd.R_alloc | apply Kd.R_drewN | apply Kd.R_drew)); exact HO_8.out) (Kd.R_typed HO_7.out) (by decide) hg); replace BK561 := Aside0.mk (blk_grown (g := gb561) (o := .cells #[.int .i64 a0_0, .slice A0_1 l0_1.length c0_1, .slice A0_2 l0_2.length c0_2] 35 (0, 0)) (Z.bk BK561.out) hg (Kd.R_ne HO_7.out BK561.out (by decide))); replace BK573 := Aside0.mk (blk_grown (g := gb573) (o := .cells #[.int .i64 ((rd_T53 l2 x26_2).f0), .int .i64 ((rd_T53 l2 x26_2).f1), .int .i64 ((rd_T53 l2 x26_2).f2)] 53 (0, 0)) (Z.bk BK573.out) hg (Kd.R_ne HO_7.out BK573.out (by decide))); replace HO_7 := Aside0.mk (hp_); replace HB := Aside0.mk ((by rw [hw]; exact below_set (HB.out) GB26.out : Below w.heap.size w w36)); clear hg hw hp_; have hcz37 := Z.c3 BK573.out) | ((with_reducible refine gate_builtin (b := .append) (xs := #[.tmp 40, .tmp 42]) rfl ?_); (try (refine gate_guard (by rfl) ?_; dsimp only)); at_builtin; refine Kd.R_append k53 (w0 := w) w.heap.size rfl (.tmp 40) (.tmp 42) 38 53 (.agg #[(.int .i64 0), (.int .i64 0), (.int .i64 0)]) 24 rfl Try.underlying38 info53 rfl (by decide) (by omega) u8 x8_2 (⟨(rd_T53 l2 x26_2).f0, (rd_T53 l2 x26_2).f1, (rd_T53 l2 x26_2).f2⟩ : S53) [.int .i64 ((rd_T53 l2 x26_2).f0), .int .i64 ((rd_T53 l2 x26_2).f1), .int .i64 ((rd_T53 l2 x26_2).f2)] (fun k_ => k_ ≠ gb573) (fun _ => False) rfl rfl ?aP (fun _ hk => hk.elim) ?aF ?aO ?aB ?aS ?aL ?_; (case aP => exact k53_mkM _ _ _ (⟨(rd_T53 l2 x26_2).f0, (rd_T53 l2 x26_2).f1, (rd_T53 l2 x26_2).f2⟩ : S53)); (case aB => exact (by repeat (first | (with_reducible first | exact HB.out | apply below_alloc | apply pw_below_drewN | apply below_drew1 | refine below_set ?_ GE561.out | refine below_set ?_ GE573.out) | exact HB.out))); (case aF => exact (fun k_ hk => Kd.freshB (g := gb573) (o := .cells #[.int .i64 ((rd_T53 l2 x26_2).f0), .int .i64 ((rd_T53 l2 x26_2).f1), .int .i64 ((rd_T53 l2 x26_2).f2)] 53 (0, 0)) (Z.bk BK573.out) k_ hk)); (case aO => exact (by (with_reducible repeat (first | apply Kd.R_alloc | apply Kd.R_drewN | apply Kd.R_drew)); exact Kd.R_mono HO_8.out (fun _ hk => hk.2))); (case aS => exact (below_size (by repeat (first | (with_reducible first | exact HB.out | apply below_alloc | apply pw_below_drewN | apply below_drew1 | refine below_set ?_ GE561.out | refine below_set ?_ GE573.out) | exact HB.out)))); (case aL => have := LMc27.out; omega); intro v577 w38 ho hb hg hat; rw [← Ny576.out] at ho; replace HO_7 := Aside0.mk (Kd.R_over' (by (with_reducible repeat (first | apply Kd.R_alloc | apply Kd.R_drewN | apply Kd.R_drew)); exact HO_7.out) (Kd.R_typed (by (with_reducible repeat (first | apply Kd.R_alloc | apply Kd.R_drewN | apply Kd.R_drew)); exact HO_8.out)) (by decide) hg); replace BK561 := Aside0.mk (blk_grown (g := gb561) (o := .cells #[.int .i64 a0_0, .slice A0_1 l0_1.length c0_1, .slice A0_2 l0_2.length c0_2] 35 (0, 0)) (Z.bk BK561.out) hg (Kd.R_ne HO_8.out BK561.out (by decide))); replace BK573 := Aside0.mk (blk_grown (g := gb573) (o := .cells #[.int .i64 ((rd_T53 l2 x26_2).f0), .int .i64 ((rd_T53 l2 x26_2).f1), .int .i64 ((rd_T53 l2 x26_2).f2)] 53 (0, 0)) (Z.bk BK573.out) hg (Kd.R_away HO_8.out (fun _ hk => hk.2))); replace HB := Aside0.mk (hb); have HO578 := Aside0.mk (ho); clear HO_8; clear ho hb hg hat))
        go_roundg k2
        case measure => have := HJ3.out; have := HK2.out; omega
        case rel => exact ⟨(y575), (y576), (wrap64 (x26_2 + 1)), (by first | rfl | (simp; done) | (simp [*]; done)), H', ⟨by have := HJ3.out; have := HK2.out; omega⟩, ⟨by (with_reducible repeat (first | apply Kd.R_alloc | apply Kd.R_drewN | apply Kd.R_drew)); exact HO_7.out⟩, ⟨by (with_reducible repeat (first | apply Kd.R_alloc | apply Kd.R_drewN | apply Kd.R_drew)); exact Kd.R_mono HO578.out (fun _ hk => trivial)⟩, ⟨by (with_reducible repeat (first | refine blk_drewN ?_ _ | refine blk_drew ?_ | refine blk_alloc ?_ _)); exact BK561.out⟩, ⟨by repeat (first | (with_reducible first | exact HB.out | apply below_alloc | apply pw_below_drewN | apply below_drew1 | refine below_set ?_ GE561.out | refine below_set ?_ GE573.out) | exact HB.out)⟩⟩
       ·replace c23 := Bool.eq_false_iff.mpr c23
        subst c23
        rw [if_neg (show ¬ (false = true) by decide)] at H
        have H' := Aside0.mk H
        clear H
        have p572 : 0 ≤ (x26_2 : Int) := Z.od
        have q572 : x26_2 < (l2.length : Int) := Z.od
        obtain ⟨ad572, rfl, hx572_0, hx572_1, hx572_2⟩ := at_T53 HR2.out x26_2 p572 q572
        replace hx572_0 := Z.up HB.out hx572_0
        replace hx572_1 := Z.up HB.out hx572_1
        replace hx572_2 := Z.up HB.out hx572_2
        replace p572 := eq_true p572
        replace q572 := eq_true q572
        go_wp2_with (first | ((with_reducible refine gate_dst (N := 10) rfl ?_); (try (refine gate_guard (by rfl) ?_; dsimp only)); refine Z.bz #[.int .i64 0, .int .i64 0, .int .i64 0] 53 HB GE561 ?_; clear HB; intro gb573 w39 BK573 GE573 HB hg hb; have GW573 := GE573; replace HO_7 := Aside0.mk (Kd.R_below (by (with_reducible repeat (first | apply Kd.R_alloc | apply Kd.R_drewN | apply Kd.R_drew)); exact HO_7.out) hb); replace HO_8 := Aside0.mk (Kd.R_below (Kd.R_elderB (by (with_reducible repeat (first | apply Kd.R_alloc | apply Kd.R_drewN | apply Kd.R_drew)); exact HO_8.out) gb573 (Nat.le_of_eq hg.symm)) hb); have NB561_573 := Z.nl hg BK561; have NB573_561 := Z.ng hg BK561; replace BK561 := Z.bb BK561 hb; clear hb hg; have hnb40 := NB573_561.out; have hnc40 := NB561_573.out; have hcz41 := Z.c3 BK573.out; have hcz42 := Z.c3 BK561.out; obtain ⟨Ao43, co43, eo43⟩ := Kd.R_slice HO_7.out; subst eo43) | ((with_reducible refine gate_callee (f := 66) rfl ?_); refine goesL_ (some 33) rfl rfl Try.func66 (by kernel_rfl) rfl #[.agg #[.int .i64 a0_0, .slice A0_1 l0_1.length c0_1, .slice A0_2 l0_2.length c0_2], .slice Ao43 x7_2.length co43, .agg #[.int .i64 ((rd_T53 l2 x26_2).f0), .int .i64 ((rd_T53 l2 x26_2).f1), .int .i64 ((rd_T53 l2 x26_2).f2)]] rfl Z.ar ?_; (with_reducible refine (impl_mayAct.calls k2 a0_0 _ _ l0_1 _ _ l0_2 _ _ x7_2 ((rd_T53 l2 x26_2).f0) ((rd_T53 l2 x26_2).f1) ((rd_T53 l2 x26_2).f2) false _ ?q1 ?q2 ?q3 ?q4 ?q5 ?q6 A22.out).mono ?_); (case q1 => exact Kd.C_below HR0_1.out (by repeat (first | (with_reducible first | exact HB.out | apply below_alloc | apply pw_below_drewN | apply below_drew1 | refine below_set ?_ GE561.out | refine below_set ?_ GE573.out) | exact HB.out))); (case q2 => exact HC0_1.out); (case q3 => exact Kd.C_below HR0_2.out (by repeat (first | (with_reducible first | exact HB.out | apply below_alloc | apply pw_below_drewN | apply below_drew1 | refine below_set ?_ GE561.out | refine below_set ?_ GE573.out) | exact HB.out))); (case q4 => exact HC0_2.out); (case q5 => refine (Kd.R_reads' (e := 3) (base := w.heap.size) (ok := fun k_ => True) (n := x7_2.length) (c := co43) ?_).2.2; exact (by (with_reducible repeat (first | apply Kd.R_alloc | apply Kd.R_drewN | apply Kd.R_drew)); exact (Kd.R_mono (Kd.R_far (p := ⟨gb573, 2, none⟩) (Kd.R_far (p := ⟨gb573, 1, none⟩) (Kd.R_far (p := ⟨gb573, 0, none⟩) (Kd.R_types HO_7.out BK573.out (by decide)) (fun _ hk => hk.2) (.int .i64 ((rd_T53 l2 x26_2).f0))) (fun _ hk => hk.2) (.int .i64 ((rd_T53 l2 x26_2).f1))) (fun _ hk => hk.2) (.int .i64 ((rd_T53 l2 x26_2).f2))) (fun _ h_ => h_.1)))); (case q6 => exact (Kd.R_reads' HO_7.out).2.1); rintro e w44 ⟨rfl, hb⟩; refine ⟨_, rfl, ?_⟩; replace HO_7 := Aside0.mk (Kd.R_below (by (with_reducible repeat (first | apply Kd.R_alloc | apply Kd.R_drewN | apply Kd.R_drew)); exact (Kd.R_mono (Kd.R_far (p := ⟨gb573, 2, none⟩) (Kd.R_far (p := ⟨gb573, 1, none⟩) (Kd.R_far (p := ⟨gb573, 0, none⟩) (Kd.R_types HO_7.out BK573.out (by decide)) (fun _ hk => hk.2) (.int .i64 ((rd_T53 l2 x26_2).f0))) (fun _ hk => hk.2) (.int .i64 ((rd_T53 l2 x26_2).f1))) (fun _ hk => hk.2) (.int .i64 ((rd_T53 l2 x26_2).f2))) (fun _ h_ => h_.1))) hb); replace HO_8 := Aside0.mk (Kd.R_below (by (with_reducible repeat (first | apply Kd.R_alloc | apply Kd.R_drewN | apply Kd.R_drew)); exact (Kd.R_mono (Kd.R_far (p := ⟨gb573, 2, none⟩) (Kd.R_far (p := ⟨gb573, 1, none⟩) (Kd.R_far (p := ⟨gb573, 0, none⟩) (Kd.R_mono HO_8.out (fun k_ hk => (⟨hk, hk.2⟩ : _ ∧ k_ ≠ gb573))) (fun _ hk => hk.2) (.int .i64 ((rd_T53 l2 x26_2).f0))) (fun _ hk => hk.2) (.int .i64 ((rd_T53 l2 x26_2).f1))) (fun _ hk => hk.2) (.int .i64 ((rd_T53 l2 x26_2).f2))) (fun _ h_ => h_.1))) hb); replace BK561 := Aside0.mk (blk_below (g := gb561) (o := .cells #[.int .i64 a0_0, .slice A0_1 l0_1.length c0_1, .slice A0_2 l0_2.length c0_2] 35 (0, 0)) (by (with_reducible repeat (first | refine blk_drewN ?_ _ | refine blk_drew ?_ | refine blk_alloc ?_ _)); refine blk_far ?_ NB561_573.out _; (with_reducible repeat (first | refine blk_drewN ?_ _ | refine blk_drew ?_ | refine blk_alloc ?_ _)); refine blk_far ?_ NB561_573.out _; (with_reducible repeat (first | refine blk_drewN ?_ _ | refine blk_drew ?_ | refine blk_alloc ?_ _)); refine blk_far ?_ NB561_573.out _; (with_reducible repeat (first | refine blk_drewN ?_ _ | refine blk_drew ?_ | refine blk_alloc ?_ _)); exact BK561.out) hb); replace BK573 := Aside0.mk (blk_below (g := gb573) (o := .cells #[.int .i64 ((rd_T53 l2 x26_2).f0), .int .i64 ((rd_T53 l2 x26_2).f1), .int .i64 ((rd_T53 l2 x26_2).f2)] 53 (0, 0)) (by (with_reducible repeat (first | refine blk_drewN ?_ _ | refine blk_drew ?_ | refine blk_alloc ?_ _)); refine blk_put (cs := #[.int .i64 ((rd_T53 l2 x26_2).f0), .int .i64 ((rd_T53 l2 x26_2).f1), .int .i64 0]) ?_ 2 _ rfl; (with_reducible repeat (first | refine blk_drewN ?_ _ | refine blk_drew ?_ | refine blk_alloc ?_ _)); refine blk_put (cs := #[.int .i64 ((rd_T53 l2 x26_2).f0), .int .i64 0, .int .i64 0]) ?_ 1 _ rfl; (with_reducible repeat (first | refine blk_drewN ?_ _ | refine blk_drew ?_ | refine blk_alloc ?_ _)); refine blk_put (cs := #[.int .i64 0, .int .i64 0, .int .i64 0]) ?_ 0 _ rfl; (with_reducible repeat (first | refine blk_drewN ?_ _ | refine blk_drew ?_ | refine blk_alloc ?_ _)); exact BK573.out) hb); replace HB := Aside0.mk (below_step (by repeat (first | (with_reducible first | exact HB.out | apply below_alloc | apply pw_below_drewN | apply below_drew1 | refine below_set ?_ GE561.out | refine below_set ?_ GE573.out) | exact HB.out)) hb); (try clear hb); (try clear hb2); (try clear hk); (try clear hi)))
        go_roundg k2
        case measure => have := HJ3.out; have := HK2.out; omega
        case rel => exact ⟨(x7_2), (x8_2), (wrap64 (x26_2 + 1)), (by first | rfl | (simp; done) | (simp [*]; done)), H', ⟨by have := HJ3.out; have := HK2.out; omega⟩, ⟨by (with_reducible repeat (first | apply Kd.R_alloc | apply Kd.R_drewN | apply Kd.R_drew)); exact HO_7.out⟩, ⟨by (with_reducible repeat (first | apply Kd.R_alloc | apply Kd.R_drewN | apply Kd.R_drew)); exact Kd.R_mono HO_8.out (fun _ hk => trivial)⟩, ⟨by (with_reducible repeat (first | refine blk_drewN ?_ _ | refine blk_drew ?_ | refine blk_alloc ?_ _)); exact BK561.out⟩, ⟨by repeat (first | (with_reducible first | exact HB.out | apply below_alloc | apply pw_below_drewN | apply below_drew1 | refine below_set ?_ GE561.out | refine below_set ?_ GE573.out) | exact HB.out)⟩⟩
      ·rw [if_neg c19] at H
       have c19b0 := decide_eq_false c19
       clear c19
       obtain rfl := Option.some.inj H
       go_wp2
       go_ret
       exact ⟨_, by first | rfl | (simp [errW_none, errW_some] <;> rfl) | (simp [*, errW_none, errW_some] <;> rfl), by (with_reducible repeat (first | apply Kd.R_alloc | apply Kd.R_drewN | apply Kd.R_drew)); exact HO_8.out, Z.bs HB.out GE561.out⟩
/-! ### laws_heldActS: function 35 -/
def laws_heldActS.l0 : Nat → List (S53) → Int → Int → Option (Int)
 | 0, _, _, _ => none
 | k + 1, x0, x1, x5 => if x5 < (x0.length : Int) then (if 0 ≤ x5 then (if ((rd_T53 x0 x5).f0) = x1 then (if ((rd_T53 x0 x5).f1) = (wrap64 (x1 + 1)) then (if ((rd_T53 x0 x5).f2) = (wrap64 ((wrap64 (x1 + 1)) + 1)) then (laws_heldActS.l0 k x0 (wrap64 ((wrap64 ((wrap64 (x1 + 1)) + 1)) + 1)) (wrap64 (x5 + 1))) else (some (-1))) else (some (-1))) else (some (-1))) else (none)) else (some x1)
def laws_heldActS.f (k : Nat) (l0 : List (S53)) (a1 : Int) : Option (Int) := laws_heldActS.l0 k l0 a1 0
set_option maxHeartbeats 8000000 in
set_option maxRecDepth 100000 in
theorem laws_heldActS.calls (k : Nat) (A0 : Option Addr) (c0 : Nat) (l0 : List (S53)) (a1 : Int) (r : Int) (w : World) (hr0 : Kd.C k53 w A0 l0.length l0) (hc0 : l0.length ≤ c0) (h : laws_heldActS.f k l0 a1 = some r) :
  Calls Try.prog 35 #[.slice A0 l0.length c0, .int .i64 a1] w fun e w' => e = .returned (.int .i64 r) ∧ Drawn0 w w' := by
 have HR0 := Aside0.mk hr0
 have HC0 := Aside0.mk hc0
 clear hr0 hc0
 have H := h
 clear h
 unfold laws_heldActS.f at H
 have H' := Aside0.mk H
 clear H
 go_enter Try.func35, Try.ntmps35
 go_wp2
 go_loopg [1, 5] k (fun kq v1 v5 w' => ∃ (x1_1 : Int) (x5_1 : Int), v1 = .int .i64 x1_1 ∧ v5 = .int .i64 x5_1 ∧ Aside0 (laws_heldActS.l0 kq l0 x1_1 x5_1 = some r) ∧ Aside0 (kq ≤ k) ∧ Drawn0 w w')
 case atStart => exact ⟨(a1), (0), (by first | rfl | (simp; done) | (simp [*]; done)), (by first | rfl | (simp; done) | (simp [*]; done)), H', ⟨Nat.le_refl _⟩, by repeat (first | exact Drawn0.refl _ | apply Drawn0.step)⟩
 case round =>
  clear H'
  try clear p2
  obtain ⟨x1_1, x5_1, rfl, rfl, HA, HK1, ⟨m1, rfl⟩⟩ := hrel
  cases gk with
  | zero => exact absurd HA.out (by simp [laws_heldActS.l0])
  | succ k1 =>
   have H := HA.out
   clear HA
   simp only [laws_heldActS.l0] at H
   by_cases c3 : x5_1 < (l0.length : Int)
   ·rw [if_pos c3] at H
    have c3b0 := decide_eq_true c3
    clear c3
    obtain ⟨c4, H⟩ := Z.ifp H
    have c4b0 : decide (0 ≤ x5_1) = true := decide_eq_true c4
    clear c4
    by_cases c5 : ((rd_T53 l0 x5_1).f0) = x1_1
    ·rw [if_pos c5] at H
     have c5b0 : (((rd_T53 l0 x5_1).f0) == x1_1) = true := beq_iff_eq.mpr c5
     have c5b1 : (((rd_T53 l0 x5_1).f0) != x1_1) = false := bne_eq_false_iff_eq.mpr c5
     clear c5
     by_cases c6 : ((rd_T53 l0 x5_1).f1) = (wrap64 (x1_1 + 1))
     ·rw [if_pos c6] at H
      have c6b0 : (((rd_T53 l0 x5_1).f1) == (wrap64 (x1_1 + 1))) = true := beq_iff_eq.mpr c6
      have c6b1 : (((rd_T53 l0 x5_1).f1) != (wrap64 (x1_1 + 1))) = false := bne_eq_false_iff_eq.mpr c6
      clear c6
      by_cases c7 : ((rd_T53 l0 x5_1).f2) = (wrap64 ((wrap64 (x1_1 + 1)) + 1))
      ·rw [if_pos c7] at H
       have c7b0 : (((rd_T53 l0 x5_1).f2) == (wrap64 ((wrap64 (x1_1 + 1)) + 1))) = true := beq_iff_eq.mpr c7
       have c7b1 : (((rd_T53 l0 x5_1).f2) != (wrap64 ((wrap64 (x1_1 + 1)) + 1))) = false := bne_eq_false_iff_eq.mpr c7
       clear c7
       have H' := Aside0.mk H
       clear H
       have p579 : 0 ≤ (x5_1 : Int) := Z.od
       have q579 : x5_1 < (l0.length : Int) := Z.od
       obtain ⟨ad579, rfl, hx579_0, hx579_1, hx579_2⟩ := at_T53 HR0.out x5_1 p579 q579
       replace p579 := eq_true p579
       replace q579 := eq_true q579
       have p580 : 0 ≤ (x5_1 : Int) := Z.od
       have q580 : x5_1 < (l0.length : Int) := Z.od
       obtain ⟨ad580, e580, hx580_0, hx580_1, hx580_2⟩ := at_T53 HR0.out x5_1 p580 q580
       obtain rfl : ad579 = ad580 := (by injection e580)
       replace p580 := eq_true p580
       replace q580 := eq_true q580
       have p581 : 0 ≤ (x5_1 : Int) := Z.od
       have q581 : x5_1 < (l0.length : Int) := Z.od
       obtain ⟨ad581, e581, hx581_0, hx581_1, hx581_2⟩ := at_T53 HR0.out x5_1 p581 q581
       obtain rfl : ad579 = ad581 := (by injection e581)
       replace p581 := eq_true p581
       replace q581 := eq_true q581
       go_wp2
       go_roundg k1
       case measure => have := HK1.out; omega
       case rel => exact ⟨(wrap64 ((wrap64 ((wrap64 (x1_1 + 1)) + 1)) + 1)), (wrap64 (x5_1 + 1)), (by first | rfl | (simp; done) | (simp [*]; done)), (by first | rfl | (simp; done) | (simp [*]; done)), H', ⟨by have := HK1.out; omega⟩, by repeat (first | exact Drawn0.refl _ | apply Drawn0.step)⟩
      ·rw [if_neg c7] at H
       have c7b0 : (((rd_T53 l0 x5_1).f2) == (wrap64 ((wrap64 (x1_1 + 1)) + 1))) = false := beq_eq_false_iff_ne.mpr c7
       have c7b1 : (((rd_T53 l0 x5_1).f2) != (wrap64 ((wrap64 (x1_1 + 1)) + 1))) = true := bne_iff_ne.mpr c7
       obtain rfl := Option.some.inj H
       have p579 : 0 ≤ (x5_1 : Int) := Z.od
       have q579 : x5_1 < (l0.length : Int) := Z.od
       obtain ⟨ad579, rfl, hx579_0, hx579_1, hx579_2⟩ := at_T53 HR0.out x5_1 p579 q579
       replace p579 := eq_true p579
       replace q579 := eq_true q579
       have p580 : 0 ≤ (x5_1 : Int) := Z.od
       have q580 : x5_1 < (l0.length : Int) := Z.od
       obtain ⟨ad580, e580, hx580_0, hx580_1, hx580_2⟩ := at_T53 HR0.out x5_1 p580 q580
       obtain rfl : ad579 = ad580 := (by injection e580)
       replace p580 := eq_true p580
       replace q580 := eq_true q580
       have p581 : 0 ≤ (x5_1 : Int) := Z.od
       have q581 : x5_1 < (l0.length : Int) := Z.od
       obtain ⟨ad581, e581, hx581_0, hx581_1, hx581_2⟩ := at_T53 HR0.out x5_1 p581 q581
       obtain rfl : ad579 = ad581 := (by injection e581)
       replace p581 := eq_true p581
       replace q581 := eq_true q581
       go_wp2
       go_ret
       exact ⟨by first | rfl | (simp; done) | (simp [*]; done), by repeat (first | exact Drawn0.refl _ | apply Drawn0.step)⟩
     ·rw [if_neg c6] at H
      have c6b0 : (((rd_T53 l0 x5_1).f1) == (wrap64 (x1_1 + 1))) = false := beq_eq_false_iff_ne.mpr c6
      have c6b1 : (((rd_T53 l0 x5_1).f1) != (wrap64 (x1_1 + 1))) = true := bne_iff_ne.mpr c6
      obtain rfl := Option.some.inj H
      have p579 : 0 ≤ (x5_1 : Int) := Z.od
      have q579 : x5_1 < (l0.length : Int) := Z.od
      obtain ⟨ad579, rfl, hx579_0, hx579_1, hx579_2⟩ := at_T53 HR0.out x5_1 p579 q579
      replace p579 := eq_true p579
      replace q579 := eq_true q579
      have p580 : 0 ≤ (x5_1 : Int) := Z.od
      have q580 : x5_1 < (l0.length : Int) := Z.od
      obtain ⟨ad580, e580, hx580_0, hx580_1, hx580_2⟩ := at_T53 HR0.out x5_1 p580 q580
      obtain rfl : ad579 = ad580 := (by injection e580)
      replace p580 := eq_true p580
      replace q580 := eq_true q580
      go_wp2
      go_ret
      exact ⟨by first | rfl | (simp; done) | (simp [*]; done), by repeat (first | exact Drawn0.refl _ | apply Drawn0.step)⟩
    ·rw [if_neg c5] at H
     have c5b0 : (((rd_T53 l0 x5_1).f0) == x1_1) = false := beq_eq_false_iff_ne.mpr c5
     have c5b1 : (((rd_T53 l0 x5_1).f0) != x1_1) = true := bne_iff_ne.mpr c5
     obtain rfl := Option.some.inj H
     have p579 : 0 ≤ (x5_1 : Int) := Z.od
     have q579 : x5_1 < (l0.length : Int) := Z.od
     obtain ⟨ad579, rfl, hx579_0, hx579_1, hx579_2⟩ := at_T53 HR0.out x5_1 p579 q579
     replace p579 := eq_true p579
     replace q579 := eq_true q579
     go_wp2
     go_ret
     exact ⟨by first | rfl | (simp; done) | (simp [*]; done), by repeat (first | exact Drawn0.refl _ | apply Drawn0.step)⟩
   ·rw [if_neg c3] at H
    have c3b0 := decide_eq_false c3
    clear c3
    obtain rfl := Option.some.inj H
    go_wp2
    go_ret
    exact ⟨by first | rfl | (simp; done) | (simp [*]; done), by repeat (first | exact Drawn0.refl _ | apply Drawn0.step)⟩

-- NOT PRINTED: function 5 (laws_FnExactValidActs)

end Go.Proofs.Ytcafckapdgaogaa.PAll

/- Walks of functions that All reaches, in the form of the print. -/
-- PRINTED
import Derived.Test.YtcafckapdgaogaaCAll0
import Derived.Test.YtcafckapdgaogaaCAll5
import Derived.Test.YtcafckapdgaogaaCAll8
import Derived.Test.YtcafckapdgaogaaZ
namespace Go.Proofs.Ytcafckapdgaogaa.PAll
open Go.RowKit Go.Proofs.YtcafckapdgaogaaW.PrintWords Go.Proofs.YtcafckapdgaogaaW.PrintLast Go.Proofs.YtcafckapdgaogaaW.PrintMore
attribute [local go_sem] max2_int min2_int max_two min_two max_three min_three max_four min_four
set_option linter.unusedVariables false
set_option linter.unusedSimpArgs false

/-! ### spec_FirstVoid: function 19 -/
mutual
def spec_FirstVoid.j0 : Nat → List Int → List (S53) → Bool → Int → List Int → List (List (S86)) → Option (Int)
 | 0, _, _, _, _, _, _ => none
 | k + 1, x1, x2, x17, x194000, x194001, x194002 => if x17 = true then (some (-1)) else ((some (([] : List Int) : List Int)).bind fun y195 => (if y195.length + x1.length < 17592186044416 then (spec_FirstVoid.l0 k x2 (y195 ++ x1) 0 x194000 x194001 x194002) else (none)))
def spec_FirstVoid.l0 : Nat → List (S53) → List Int → Int → Int → List Int → List (List (S86)) → Option (Int)
 | 0, _, _, _, _, _, _ => none
 | k + 1, x2, x7, x8, x194000, x194001, x194002 => if x8 < (x2.length : Int) then (if 0 ≤ x8 then ((spec_MayChange.f k x194000 x194001 x194002 x7 ((rd_T53 x2 x8).f0) ((rd_T53 x2 x8).f1) ((rd_T53 x2 x8).f2)).bind fun t204 => (if t204 = true then (if 0 ≤ ((rd_T53 x2 x8).f0) then (if ((rd_T53 x2 x8).f0) < (x7.length : Int) then (spec_FirstVoid.l0 k x2 (x7.set (((rd_T53 x2 x8).f0) : Int).toNat ((rd_T53 x2 x8).f1)) (wrap64 (x8 + 1)) x194000 x194001 x194002) else (none)) else (none)) else (some x8))) else (none)) else (some (-1))
end
def spec_FirstVoid.f (k : Nat) (a0_0 : Int) (l0_1 : List Int) (l0_2 : List (List (S86))) (l1 : List Int) (l2 : List (S53)) : Option (Int) := (spec_StateOk.f k a0_0 l0_1 l0_2 l1).bind fun t194 => (if t194 = true then (spec_FirstVoid.j0 k l1 l2 (decide ((l2.length : Int) > 12)) a0_0 l0_1 l0_2) else (spec_FirstVoid.j0 k l1 l2 true a0_0 l0_1 l0_2))
theorem spec_FirstVoid.mono_l : ∀ k, (∀ y0 y1 y2 y3 y4 y5, LeO (spec_FirstVoid.j0 k y0 y1 y2 y3 y4 y5) (spec_FirstVoid.j0 (k + 1) y0 y1 y2 y3 y4 y5)) ∧ (∀ y0 y1 y2 y3 y4 y5, LeO (spec_FirstVoid.l0 k y0 y1 y2 y3 y4 y5) (spec_FirstVoid.l0 (k + 1) y0 y1 y2 y3 y4 y5))
 | 0 => ⟨fun _ _ _ _ _ _ r h => by simp [spec_FirstVoid.j0] at h, fun _ _ _ _ _ _ r h => by simp [spec_FirstVoid.l0] at h⟩
 | k + 1 => by
  obtain ⟨ih0, ih1⟩ := spec_FirstVoid.mono_l k
  refine ⟨?_, ?_⟩
  ·intro y0 y1 y2 y3 y4 y5
   unfold spec_FirstVoid.j0
   repeat' first
   | (with_reducible exact LeO.refl _)
   | exact ih0 _ _ _ _ _ _
   | exact ih1 _ _ _ _ _ _
   | exact spec_MayChange.mono _ _ _ _ _ _ _ _
   | exact spec_StateOk.mono _ _ _ _ _
   | exact LeO.none _
   | refine LeO.ite ?_ ?_
   | refine LeO.bind ?_ (fun _ => ?_)
  ·intro y0 y1 y2 y3 y4 y5
   unfold spec_FirstVoid.l0
   repeat' first
   | (with_reducible exact LeO.refl _)
   | exact ih0 _ _ _ _ _ _
   | exact ih1 _ _ _ _ _ _
   | exact spec_MayChange.mono _ _ _ _ _ _ _ _
   | exact spec_StateOk.mono _ _ _ _ _
   | exact LeO.none _
   | refine LeO.ite ?_ ?_
   | refine LeO.bind ?_ (fun _ => ?_)
theorem spec_FirstVoid.mono : ∀ a0 a1 a2 a3 a4 k, LeO (spec_FirstVoid.f k a0 a1 a2 a3 a4) (spec_FirstVoid.f (k + 1) a0 a1 a2 a3 a4) := by
 intro a0 a1 a2 a3 a4 k
 obtain ⟨ih0, ih1⟩ := spec_FirstVoid.mono_l k
 unfold spec_FirstVoid.f
 repeat' first
   | (with_reducible exact LeO.refl _)
   | exact ih0 _ _ _ _ _ _
   | exact ih1 _ _ _ _ _ _
   | exact spec_MayChange.mono _ _ _ _ _ _ _ _
   | exact spec_StateOk.mono _ _ _ _ _
   | exact LeO.none _
   | refine LeO.ite ?_ ?_
   | refine LeO.bind ?_ (fun _ => ?_)
def spec_FirstVoid.T7 : Bool × List (List Nat × List Nat) := (true, [([], []), ([], []), ([], []), ([], []), ([2, 3], [2, 3]), ([4], [4]), ([5], [5]), ([], []), ([], []), ([7, 8], [7, 8]), ([9], [9]), ([10], [10]), ([], []), ([], []), ([12, 13], [12, 13]), ([14], [14]), ([15], [15]), ([0, 1, 6, 11, 16], [0, 1, 6, 11, 16]), ([17], [17])])
def spec_FirstVoid.B7 : List Nat := [0, 0, 0, 0, 12, 28, 60, 0, 0, 384, 896, 1920, 0, 0, 12288, 28672, 61440, 131071, 262143]
theorem spec_FirstVoid.tab7 : rtab .any (opsOf Try.f19 7) = spec_FirstVoid.T7 := by kernel_rfl
theorem spec_FirstVoid.bits7 : waitsOk spec_FirstVoid.T7.2 spec_FirstVoid.B7 = true := by kernel_rfl
def spec_FirstVoid.T9 : Bool × List (List Nat × List Nat) := (true, [([], []), ([], []), ([], []), ([1, 2], [1, 2]), ([3], [3]), ([4], [4]), ([], []), ([], []), ([6, 7], [6, 7]), ([8], [8]), ([9], [9]), ([0, 5, 0, 1, 2, 3, 4, 5, 6, 7, 8, 9, 10], [0, 5]), ([11, 10, 0, 1, 2, 3, 4, 5, 6, 7, 8, 9, 10], [10, 11])])
def spec_FirstVoid.B9 : List Nat := [0, 0, 0, 6, 14, 30, 0, 0, 192, 448, 960, 2047, 4095]
theorem spec_FirstVoid.tab9 : rtab .any (opsOf Try.f19 9) = spec_FirstVoid.T9 := by kernel_rfl
theorem spec_FirstVoid.bits9 : waitsOk spec_FirstVoid.T9.2 spec_FirstVoid.B9 = true := by kernel_rfl
set_option maxHeartbeats 8000000 in
set_option maxRecDepth 100000 in
theorem spec_FirstVoid.calls (k : Nat) (a0_0 : Int) (A0_1 : Option Addr) (c0_1 : Nat) (l0_1 : List Int) (A0_2 : Option Addr) (c0_2 : Nat) (l0_2 : List (List (S86))) (A1 : Option Addr) (c1 : Nat) (l1 : List Int) (A2 : Option Addr) (c2 : Nat) (l2 : List (S53)) (r : Int) (w : World) (hr0_1 : Kd.C (Kd.int .i64) w A0_1 l0_1.length l0_1) (hc0_1 : l0_1.length ≤ c0_1) (hr0_2 : Kd.C (Kd.slice 86 k86) w A0_2 l0_2.length l0_2) (hc0_2 : l0_2.length ≤ c0_2) (hr1 : Kd.C (Kd.int .i64) w A1 l1.length l1) (hc1 : l1.length ≤ c1) (hr2 : Kd.C k53 w A2 l2.length l2) (hc2 : l2.length ≤ c2) (h : spec_FirstVoid.f k a0_0 l0_1 l0_2 l1 l2 = some r) :
  Calls Try.prog 19 #[.agg #[.int .i64 a0_0, .slice A0_1 l0_1.length c0_1, .slice A0_2 l0_2.length c0_2], .slice A1 l1.length c1, .slice A2 l2.length c2] w fun e w' => e = .returned (.int .i64 r) ∧ Below w.heap.size w w' := by
 have hu35 := Try.underlying35
 have HR0_1 := Aside0.mk hr0_1
 have HC0_1 := Aside0.mk hc0_1
 clear hr0_1 hc0_1
 have HR0_2 := Aside0.mk hr0_2
 have HC0_2 := Aside0.mk hc0_2
 clear hr0_2 hc0_2
 have HR1 := Aside0.mk hr1
 have HC1 := Aside0.mk hc1
 clear hr1 hc1
 have HR2 := Aside0.mk hr2
 have HC2 := Aside0.mk hc2
 clear hr2 hc2
 have HB := Aside0.mk (Below.refl w.heap.size w)
 have H := h
 clear h
 unfold spec_FirstVoid.f at H
 have HC4 := Aside0.mk H
 clear H
 go_enter Try.func19, Try.ntmps19
 go_upto_region 1 with (first | ((with_reducible refine gate_dst (N := 3) rfl ?_); (try (refine gate_guard (by rfl) ?_; dsimp only)); refine Z.bx #[.int .i64 a0_0, .slice A0_1 l0_1.length c0_1, .slice A0_2 l0_2.length c0_2] 35 HB ?_; clear HB; intro gb193 w5 BK193 GE193 HB hg hb; have GW193 := GE193; clear hb hg))
 (try simp only [Act.put, List.setIfInBounds_toArray, List.set_cons_zero, List.set_cons_succ])
 go_cut [17] (fun v17 wc => ∃ (kq : Nat) (x17_3 : Bool), v17 = .bool x17_3 ∧ Aside0 (spec_FirstVoid.j0 kq l1 l2 x17_3 a0_0 l0_1 l0_2 = some r) ∧ Aside0 (kq ≤ k) ∧ Aside0 (wc.heap[gb193]? = some (.cells #[.int .i64 a0_0, (.slice A0_1 l0_1.length c0_1), (.slice A0_2 l0_2.length c0_2)] 35 (0, 0))) ∧ Aside0 (Below w.heap.size w wc))
 case first =>
  have H := HC4.out
  clear HC4
  replace H := Option.bind_eq_some_iff.mp H
  obtain ⟨t194, A60, H⟩ := H
  try dsimp only at H
  have A6 := Aside0.mk A60
  clear A60
  by_cases c7 : t194 = true
  ·subst c7
   rw [if_pos rfl] at H
   have H' := Aside0.mk H
   clear H
   have hcz8 := Z.c3 BK193.out
   go_wp2_with (first | ((with_reducible refine gate_callee (f := 61) rfl ?_); refine goesL_ (some 11) rfl rfl Try.func61 (by kernel_rfl) rfl #[.agg #[.int .i64 a0_0, .slice A0_1 l0_1.length c0_1, .slice A0_2 l0_2.length c0_2], .slice A1 l1.length c1] rfl Z.ar ?_; (with_reducible refine (spec_StateOk.calls k a0_0 _ _ l0_1 _ _ l0_2 _ _ l1 true _ ?q1 ?q2 ?q3 ?q4 ?q5 ?q6 A6.out).mono ?_); (case q1 => exact Z.cc HR0_1 HB); (case q2 => exact HC0_1.out); (case q3 => exact Z.cc HR0_2 HB); (case q4 => exact HC0_2.out); (case q5 => exact Z.cc HR1 HB); (case q6 => exact HC1.out); rintro e w9 ⟨rfl, hb⟩; refine ⟨_, rfl, ?_⟩; replace BK193 := Z.bb BK193 hb; replace HB := Z.st (Z.bs HB.out GE193.out) hb; (try clear hb); (try clear hb2); (try clear hk); (try clear hi)))
   go_meet
   case rel => exact ⟨_, (decide ((l2.length : Int) > 12)), (by first | rfl | (simp; done) | (simp [*]; done)), H', ⟨by first | omega | exact Nat.le_refl _⟩, ⟨by (with_reducible repeat (first | refine blk_drewN ?_ _ | refine blk_drew ?_ | refine blk_alloc ?_ _)); exact BK193.out⟩, ⟨Z.bs HB.out GE193.out⟩⟩
  ·replace c7 := Bool.eq_false_iff.mpr c7
   subst c7
   rw [if_neg (show ¬ (false = true) by decide)] at H
   have H' := Aside0.mk H
   clear H
   have hcz10 := Z.c3 BK193.out
   go_wp2_with (first | ((with_reducible refine gate_callee (f := 61) rfl ?_); refine goesL_ (some 11) rfl rfl Try.func61 (by kernel_rfl) rfl #[.agg #[.int .i64 a0_0, .slice A0_1 l0_1.length c0_1, .slice A0_2 l0_2.length c0_2], .slice A1 l1.length c1] rfl Z.ar ?_; (with_reducible refine (spec_StateOk.calls k a0_0 _ _ l0_1 _ _ l0_2 _ _ l1 false _ ?q1 ?q2 ?q3 ?q4 ?q5 ?q6 A6.out).mono ?_); (case q1 => exact Z.cc HR0_1 HB); (case q2 => exact HC0_1.out); (case q3 => exact Z.cc HR0_2 HB); (case q4 => exact HC0_2.out); (case q5 => exact Z.cc HR1 HB); (case q6 => exact HC1.out); rintro e w11 ⟨rfl, hb⟩; refine ⟨_, rfl, ?_⟩; replace BK193 := Z.bb BK193 hb; replace HB := Z.st (Z.bs HB.out GE193.out) hb; (try clear hb); (try clear hb2); (try clear hk); (try clear hi)))
   go_meet
   case rel => exact ⟨_, (true), (by first | rfl | (simp; done) | (simp [*]; done)), H', ⟨by first | omega | exact Nat.le_refl _⟩, ⟨by (with_reducible repeat (first | refine blk_drewN ?_ _ | refine blk_drew ?_ | refine blk_alloc ?_ _)); exact BK193.out⟩, ⟨Z.bs HB.out GE193.out⟩⟩
 case rest =>
  clear HC4
  try clear c1
  try clear c2
  try clear p2
  try clear c6
  try clear c7
  try clear hcz10_0
  try clear hcz10_1
  try clear hcz10_2
  try clear hcz8_0
  try clear hcz8_1
  try clear hcz8_2
  try clear hfz10_0
  try clear hfz10_1
  try clear hfz10_2
  try clear hfz8_0
  try clear hfz8_1
  try clear hfz8_2
  obtain ⟨kq, x17_3, rfl, HA, HJ3, BK193, HB⟩ := hcut
  cases kq with
  | zero => exact absurd HA.out (by simp [spec_FirstVoid.j0])
  | succ kj3 =>
   have H := HA.out
   clear HA
   simp only [spec_FirstVoid.j0] at H
   by_cases c12 : x17_3 = true
   ·subst c12
    rw [if_pos rfl] at H
    obtain rfl := Option.some.inj H
    go_wp2
    go_ret
    exact ⟨by first | rfl | (simp [errW_none, errW_some] <;> rfl) | (simp [*, errW_none, errW_some] <;> rfl), Z.bs HB.out GE193.out⟩
   ·replace c12 := Bool.eq_false_iff.mpr c12
    subst c12
    rw [if_neg (show ¬ (false = true) by decide)] at H
    obtain ⟨y195, hy195⟩ : ∃ y_ : List Int, y_ = (([] : List Int)) := ⟨_, rfl⟩
    replace H : (if y195.length + l1.length < 17592186044416 then (spec_FirstVoid.l0 kj3 l2 (y195 ++ l1) 0 a0_0 l0_1 l0_2) else (none)) = some r := by first | (rw [hy195]; with_reducible exact H) | (have H2_ := (Option.bind_some _ _).symm.trans H; rw [hy195]; with_reducible exact H2_) | (have H2_ := (Option.bind_some _ _).symm.trans H; with_reducible exact H2_) | with_reducible exact H | (rw [hy195]; exact H) | exact H
    have Ny195 := Aside0.mk hy195
    clear hy195
    obtain ⟨c13, H⟩ := Z.ifp H
    have LMc13 := Aside0.mk c13
    clear c13
    obtain ⟨y198, hy198⟩ : ∃ y_ : List Int, y_ = (y195 ++ l1) := ⟨_, rfl⟩
    replace H : (spec_FirstVoid.l0 kj3 l2 y198 0 a0_0 l0_1 l0_2) = some r := by first | (rw [hy198]; with_reducible exact H) | (have H2_ := (Option.bind_some _ _).symm.trans H; rw [hy198]; with_reducible exact H2_) | (have H2_ := (Option.bind_some _ _).symm.trans H; with_reducible exact H2_) | with_reducible exact H | (rw [hy198]; exact H) | exact H
    have Ny198 := Aside0.mk hy198
    clear hy198
    have H' := Aside0.mk H
    clear H
    go_wp2_with (first | ((with_reducible refine gate_dst (N := 18) rfl ?_); (try (refine gate_guard (by rfl) ?_; dsimp only)); refine Kd.R_lit (Kd.int .i64) _ 3 ?hg (N := 18) ?hd (xs := ([] : List Int)) (inner := []) (ok := fun _ => True) (okp := fun _ => True) ?hr ?hp (fun _ hk => hk) trivial (Below.refl _ _) (Nat.le_refl _) (by simp) ?_; (case hd | hg => rfl); (case hr => first | (go_simp; done) | (go_simp; rfl)); (case hp => exact (Reps.none _ _)); intro v196 w14 ho15 hb hg_ hnew_; clear hg_ hnew_; (first | rw [← Ny195.out] at ho15 | (simp only [Int.reduceToNat] at ho15; rw [← Ny195.out] at ho15)); have HO197 := Aside0.mk (Kd.R_lower ho15 (below_size (Z.bs HB.out GE193.out))); replace BK193 := Z.bb BK193 hb; replace HB := Z.st (Z.bs HB.out GE193.out) hb; clear hb ho15) | ((with_reducible refine gate_builtin (b := .append) (xs := #[.tmp 18, .tmp 19]) rfl ?_); (try (refine gate_guard (by rfl) ?_; dsimp only)); at_builtin; refine Kd.R_append_rows (Kd.int .i64) (w0 := w) w.heap.size rfl (.tmp 18) (.tmp 19) 22 3 (.int .i64 0) 8 rfl Try.underlying22 info3 rfl (by decide) (by omega) v196 y195 l1 _ _ _ (fun _ => True) (fun _ => False) rfl rfl ?aO ?aR (fun _ _ h => h) (fun _ h => h.elim) ?aF ?aB ?aS ?aL ?_; (case aR => exact Z.cc HR1 HB); (case aB => exact (Z.bs HB.out GE193.out)); (case aF => exact (fun _ _ => trivial)); (case aO => exact (by (with_reducible repeat (first | apply Kd.R_alloc | apply Kd.R_drewN | apply Kd.R_drew)); exact HO197.out)); (case aS => exact (below_size (Z.bs HB.out GE193.out))); (case aL => have := LMc13.out; omega); intro v199 w16 ho hb hg hat; rw [← Ny198.out] at ho; replace BK193 := Aside0.mk (blk_grown (g := gb193) (o := .cells #[.int .i64 a0_0, .slice A0_1 l0_1.length c0_1, .slice A0_2 l0_2.length c0_2] 35 (0, 0)) (Z.bk BK193.out) hg (Kd.R_ne HO197.out BK193.out (by decide))); replace HB := Aside0.mk (hb); have HO200 := Aside0.mk (ho); clear HO197; clear ho hb hg hat))
    go_loopg [8] kj3 (fun kq v8 w' => ∃ (x7_2 : List Int) (x8_2 : Int), v8 = .int .i64 x8_2 ∧ Aside0 (spec_FirstVoid.l0 kq l2 x7_2 x8_2 a0_0 l0_1 l0_2 = some r) ∧ Aside0 (kq ≤ kj3) ∧ Aside0 (Kd.R (Kd.int .i64) 3 w' w.heap.size (fun _ => True) v199 x7_2) ∧ Aside0 (w'.heap[gb193]? = some (.cells #[.int .i64 a0_0, (.slice A0_1 l0_1.length c0_1), (.slice A0_2 l0_2.length c0_2)] 35 (0, 0))) ∧ Aside0 (Below w.heap.size w w'))
    case atStart => exact ⟨(y198), (0), (by first | rfl | (simp; done) | (simp [*]; done)), H', ⟨Nat.le_refl _⟩, ⟨by (with_reducible repeat (first | apply Kd.R_alloc | apply Kd.R_drewN | apply Kd.R_drew)); exact HO200.out⟩, ⟨by (with_reducible repeat (first | refine blk_drewN ?_ _ | refine blk_drew ?_ | refine blk_alloc ?_ _)); exact BK193.out⟩, ⟨Z.bs HB.out GE193.out⟩⟩
    case round =>
     clear H'
     try clear c1
     try clear c2
     try clear p2
     try clear c6
     try clear c7
     try clear c12
     try clear c13
     try clear hcz10_0
     try clear hcz10_1
     try clear hcz10_2
     try clear hcz8_0
     try clear hcz8_1
     try clear hcz8_2
     try clear hfz10_0
     try clear hfz10_1
     try clear hfz10_2
     try clear hfz8_0
     try clear hfz8_1
     try clear hfz8_2
     try clear p2
     obtain ⟨x7_2, x8_2, rfl, HA, HK2, HO_7, BK193, HB⟩ := hrel
     cases gk with
     | zero => exact absurd HA.out (by simp [spec_FirstVoid.l0])
     | succ k2 =>
      have H := HA.out
      clear HA
      simp only [spec_FirstVoid.l0] at H
      by_cases c17 : x8_2 < (l2.length : Int)
      ·rw [if_pos c17] at H
       have c17b0 := decide_eq_true c17
       clear c17
       obtain ⟨c18, H⟩ := Z.ifp H
       have c18b0 : decide (0 ≤ x8_2) = true := decide_eq_true c18
       clear c18
       replace H := Option.bind_eq_some_iff.mp H
       obtain ⟨t204, A190, H⟩ := H
       try dsimp only at H
       have A19 := Aside0.mk A190
       clear A190
       by_cases c20 : t204 = true
       ·subst c20
        rw [if_pos rfl] at H
        obtain ⟨c21, H⟩ := Z.ifp H
        have c21b0 : decide (0 ≤ ((rd_T53 l2 x8_2).f0)) = true := decide_eq_true c21
        clear c21
        obtain ⟨c22, H⟩ := Z.ifp H
        have c22b0 : decide (((rd_T53 l2 x8_2).f0) < (x7_2.length : Int)) = true := decide_eq_true c22
        clear c22
        obtain ⟨y207, hy207⟩ : ∃ y_ : List Int, y_ = (x7_2.set (((rd_T53 l2 x8_2).f0) : Int).toNat ((rd_T53 l2 x8_2).f1)) := ⟨_, rfl⟩
        replace H : (spec_FirstVoid.l0 k2 l2 y207 (wrap64 (x8_2 + 1)) a0_0 l0_1 l0_2) = some r := by first | (rw [hy207]; with_reducible exact H) | (have H2_ := (Option.bind_some _ _).symm.trans H; rw [hy207]; with_reducible exact H2_) | (have H2_ := (Option.bind_some _ _).symm.trans H; with_reducible exact H2_) | with_reducible exact H | (rw [hy207]; exact H) | exact H
        have Ny207 := Aside0.mk hy207
        clear hy207
        have H' := Aside0.mk H
        clear H
        try go_wp2
        replace HO_7 := Aside0.mk (Kd.R_drew HO_7.out)
        replace BK193 := Aside0.mk (blk_drew BK193.out)
        replace HB := Aside0.mk (below_drew1 HB.out)
        have p201 : 0 ≤ (x8_2 : Int) := Z.od
        have q201 : x8_2 < (l2.length : Int) := Z.od
        obtain ⟨ad201, rfl, hx201_0, hx201_1, hx201_2⟩ := at_T53 HR2.out x8_2 p201 q201
        have hw201_2 := hx201_2
        have hw201_1 := hx201_1
        have hw201_0 := hx201_0
        replace hx201_0 := Z.up HB.out hx201_0
        replace hx201_1 := Z.up HB.out hx201_1
        replace hx201_2 := Z.up HB.out hx201_2
        replace p201 := eq_true p201
        replace q201 := eq_true q201
        have p202 : 0 ≤ (x8_2 : Int) := Z.od
        have q202 : x8_2 < (l2.length : Int) := Z.od
        obtain ⟨ad202, e202, hx202_0, hx202_1, hx202_2⟩ := at_T53 HR2.out x8_2 p202 q202
        have hw202_2 := hx202_2
        have hw202_1 := hx202_1
        have hw202_0 := hx202_0
        obtain rfl : ad201 = ad202 := (by injection e202)
        replace hx202_0 := Z.up HB.out hx202_0
        replace hx202_1 := Z.up HB.out hx202_1
        replace hx202_2 := Z.up HB.out hx202_2
        replace p202 := eq_true p202
        replace q202 := eq_true q202
        have p203 : 0 ≤ (x8_2 : Int) := Z.od
        have q203 : x8_2 < (l2.length : Int) := Z.od
        obtain ⟨ad203, e203, hx203_0, hx203_1, hx203_2⟩ := at_T53 HR2.out x8_2 p203 q203
        have hw203_2 := hx203_2
        have hw203_1 := hx203_1
        have hw203_0 := hx203_0
        obtain rfl : ad201 = ad203 := (by injection e203)
        replace hx203_0 := Z.up HB.out hx203_0
        replace hx203_1 := Z.up HB.out hx203_1
        replace hx203_2 := Z.up HB.out hx203_2
        replace p203 := eq_true p203
        replace q203 := eq_true q203
        obtain ⟨Ao25, co25, eo25⟩ := Kd.R_slice HO_7.out
        (first | subst eo25 | (injection eo25 with f1_ f2_ f3_; have f4_ := f1_.symm; have f5_ := f3_.symm; clear f1_ f2_ f3_; subst f4_; subst f5_))
        refine start_ (n := 19) (S := fun w' => w'.cell? ⟨gb193, 0, none⟩ = some (.int .i64 a0_0) ∧ w'.cell? ⟨gb193, 1, none⟩ = some (.slice A0_1 l0_1.length c0_1) ∧ w'.cell? ⟨gb193, 2, none⟩ = some (.slice A0_2 l0_2.length c0_2) ∧ w'.cell? (ad201.add ((x8_2).toNat * 3)) = some (.int .i64 ((rd_T53 l2 x8_2).f0)) ∧ w'.cell? ⟨(ad201.add ((x8_2).toNat * 3)).block, (ad201.add ((x8_2).toNat * 3)).off + 1, none⟩ = some (.int .i64 ((rd_T53 l2 x8_2).f1)) ∧ w'.cell? ⟨(ad201.add ((x8_2).toNat * 3)).block, (ad201.add ((x8_2).toNat * 3)).off + 2, none⟩ = some (.int .i64 ((rd_T53 l2 x8_2).f2)) ∧ w'.cell? (ad201.add ((x8_2).toNat * 3)) = some (.int .i64 ((rd_T53 l2 x8_2).f0)) ∧ w'.cell? ⟨(ad201.add ((x8_2).toNat * 3)).block, (ad201.add ((x8_2).toNat * 3)).off + 1, none⟩ = some (.int .i64 ((rd_T53 l2 x8_2).f1)) ∧ w'.cell? ⟨(ad201.add ((x8_2).toNat * 3)).block, (ad201.add ((x8_2).toNat * 3)).off + 2, none⟩ = some (.int .i64 ((rd_T53 l2 x8_2).f2)) ∧ w'.cell? (ad201.add ((x8_2).toNat * 3)) = some (.int .i64 ((rd_T53 l2 x8_2).f0)) ∧ w'.cell? ⟨(ad201.add ((x8_2).toNat * 3)).block, (ad201.add ((x8_2).toNat * 3)).off + 1, none⟩ = some (.int .i64 ((rd_T53 l2 x8_2).f1)) ∧ w'.cell? ⟨(ad201.add ((x8_2).toNat * 3)).block, (ad201.add ((x8_2).toNat * 3)).off + 2, none⟩ = some (.int .i64 ((rd_T53 l2 x8_2).f2))) (ds := []) #[false, false, false, false, false, false, false, false, false, false, false, false, false, false, false, false, false, false, false] (by kernel_rfl) rfl rfl ⟨(blk_cell BK193.out 0).trans rfl, (blk_cell BK193.out 1).trans rfl, (blk_cell BK193.out 2).trans rfl, (Z.up HB.out hw201_0 :), (Z.up HB.out hw201_1 :), (Z.up HB.out hw201_2 :), (Z.up HB.out hw202_0 :), (Z.up HB.out hw202_1 :), (Z.up HB.out hw202_2 :), (Z.up HB.out hw203_0 :), (Z.up HB.out hw203_1 :), (Z.up HB.out hw203_2 :)⟩ (fun hHeld => ?_); refine with_tabW spec_FirstVoid.tab7 spec_FirstVoid.bits7 (fun HT_ HW_ => ?_)
        generalize wr.drew = w24 at HO_7 BK193 HB hx201_0 hx201_1 hx201_2 hx202_0 hx202_1 hx202_2 hx203_0 hx203_1 hx203_2 hHeld ⊢
        refine Z.pv 1 28 19 2 HT_.out ?_
        refine Z.pv 2 29 19 6 HT_.out ?_
        refine Z.pv 3 30 19 14 HT_.out ?_
        refine Z.pv 4 31 19 30 HT_.out ?_
        refine Z.pv 5 32 19 62 HT_.out ?_
        refine Z.pv 7 34 19 190 HT_.out ?_
        refine Z.pv 8 35 19 446 HT_.out ?_
        refine Z.pv 9 36 19 958 HT_.out ?_
        refine Z.pv 10 37 19 1982 HT_.out ?_
        refine Z.pv 12 39 19 6078 HT_.out ?_
        refine Z.pv 13 40 19 14270 HT_.out ?_
        refine Z.pv 14 41 19 30654 HT_.out ?_
        refine Z.pv 15 42 19 63422 HT_.out ?_
        refine Z.t12 0 27 19 63423 HT_.out HW_.out hHeld ?_
        refine Z.t12 6 33 19 63487 HT_.out HW_.out hHeld ?_
        refine Z.t12 11 38 19 65535 HT_.out HW_.out hHeld ?_
        refine Z.t12 16 43 19 131071 HT_.out HW_.out hHeld ?_
        refine one_ (i := 17) (N := some 44) (Z.mb 19 262143) rfl rfl (one_of HT_.out (by kernel_rfl)) (by decide) (fun K hK => ?_)
        refine goes_ Try.func62 (by kernel_rfl) rfl #[.agg #[.int .i64 a0_0, .slice A0_1 l0_1.length c0_1, .slice A0_2 l0_2.length c0_2], .slice Ao25 x7_2.length co25, .int .i64 ((rd_T53 l2 x8_2).f0), .int .i64 ((rd_T53 l2 x8_2).f1), .int .i64 ((rd_T53 l2 x8_2).f2)] (by rfl) rfl rfl Z.ar ?_
        with_reducible refine (spec_MayChange.calls k2 a0_0 _ _ l0_1 _ _ l0_2 _ _ x7_2 ((rd_T53 l2 x8_2).f0) ((rd_T53 l2 x8_2).f1) ((rd_T53 l2 x8_2).f2) true _ ?q1 ?q2 ?q3 ?q4 ?q5 ?q6 A19.out).mono ?_
        (case q1 => exact Z.cc HR0_1 HB)
        (case q2 => exact HC0_1.out)
        (case q3 => exact Z.cc HR0_2 HB)
        (case q4 => exact HC0_2.out)
        (case q5 => repeat (first | exact (Kd.R_reads' HO_7.out).2.2 | (with_reducible refine Kd.C_alloc ?_ _) | (with_reducible refine Kd.C_drewN ?_ _) | (with_reducible refine Kd.C_drew ?_)))
        (case q6 => exact (Kd.R_reads' HO_7.out).2.1)
        rintro e w26 ⟨rfl, hb⟩
        refine ⟨_, rfl, ?_⟩
        replace HO_7 := Aside0.mk (Kd.R_below (by (with_reducible repeat (first | apply Kd.R_alloc | apply Kd.R_drewN | apply Kd.R_drew)); exact HO_7.out) hb)
        replace BK193 := Z.bb BK193 hb
        replace HB := Z.st (Z.bs HB.out GE193.out) hb
        (try clear hb)
        (try clear hb2)
        (try clear hk)
        (try clear hi)
        refine hK.out _ _ ⟨(blk_cell BK193.out 0).trans rfl, (blk_cell BK193.out 1).trans rfl, (blk_cell BK193.out 2).trans rfl, (Z.up HB.out hw201_0 :), (Z.up HB.out hw201_1 :), (Z.up HB.out hw201_2 :), (Z.up HB.out hw202_0 :), (Z.up HB.out hw202_1 :), (Z.up HB.out hw202_2 :), (Z.up HB.out hw203_0 :), (Z.up HB.out hw203_1 :), (Z.up HB.out hw203_2 :)⟩ (fun hHeld => ?_)
        clear hK K
        refine Z.nm ?_
        refine Z.pv 18 45 19 524287 HT_.out ?_
        refine done_ (done_of HT_.out (by kernel_rfl)) ?_
        try go_wp2
        replace HO_7 := Aside0.mk (Kd.R_drew HO_7.out)
        replace BK193 := Aside0.mk (blk_drew BK193.out)
        replace HB := Aside0.mk (below_drew1 HB.out)
        have p205 : 0 ≤ (x8_2 : Int) := Z.od
        have q205 : x8_2 < (l2.length : Int) := Z.od
        obtain ⟨ad205, e205, hx205_0, hx205_1, hx205_2⟩ := at_T53 HR2.out x8_2 p205 q205
        have hw205_2 := hx205_2
        have hw205_1 := hx205_1
        have hw205_0 := hx205_0
        obtain rfl : ad201 = ad205 := (by injection e205)
        replace hx205_0 := Z.up HB.out hx205_0
        replace hx205_1 := Z.up HB.out hx205_1
        replace hx205_2 := Z.up HB.out hx205_2
        replace p205 := eq_true p205
        replace q205 := eq_true q205
        have p206 : 0 ≤ (x8_2 : Int) := Z.od
        have q206 : x8_2 < (l2.length : Int) := Z.od
        obtain ⟨ad206, e206, hx206_0, hx206_1, hx206_2⟩ := at_T53 HR2.out x8_2 p206 q206
        have hw206_2 := hx206_2
        have hw206_1 := hx206_1
        have hw206_0 := hx206_0
        obtain rfl : ad201 = ad206 := (by injection e206)
        replace hx206_0 := Z.up HB.out hx206_0
        replace hx206_1 := Z.up HB.out hx206_1
        replace hx206_2 := Z.up HB.out hx206_2
        replace p206 := eq_true p206
        replace q206 := eq_true q206
        have p23 : 0 ≤ (((rd_T53 l2 x8_2).f0) : Int) := Z.od
        have q23 : (((rd_T53 l2 x8_2).f0) : Int) < ((x7_2.length : Int) : Int) := Z.od
        obtain ⟨go23, co23, eo23, gb23, gl23, cl23, HG23⟩ := Kd.R_form HO_7.out (by omega)
        (first | cases eo23 | (injection eo23 with ea_ en_ ec_; (first | subst ea_ | (injection ea_ with ea_; subst ea_)); subst ec_; clear en_))
        have GB23 := Aside0.mk gb23
        have GG23 := Aside0.mk HG23
        clear gb23 gl23 HG23
        obtain ⟨hx23_0, hf23_0⟩ := Kd.R_celln 0 HO_7.out (((rd_T53 l2 x8_2).f0) : Int) p23 q23
        replace p23 := eq_true p23
        replace q23 := eq_true q23
        have HP28 := Kd.R_putn HO_7.out (((rd_T53 l2 x8_2).f0) : Int) ((rd_T53 l2 x8_2).f1)
        rw [← Ny207.out] at HP28
        have HQ28 := Aside0.mk HP28
        clear HP28
        refine start_ (n := 13) (S := fun w' => w'.cell? (ad201.add ((x8_2).toNat * 3)) = some (.int .i64 ((rd_T53 l2 x8_2).f0)) ∧ w'.cell? ⟨(ad201.add ((x8_2).toNat * 3)).block, (ad201.add ((x8_2).toNat * 3)).off + 1, none⟩ = some (.int .i64 ((rd_T53 l2 x8_2).f1)) ∧ w'.cell? ⟨(ad201.add ((x8_2).toNat * 3)).block, (ad201.add ((x8_2).toNat * 3)).off + 2, none⟩ = some (.int .i64 ((rd_T53 l2 x8_2).f2)) ∧ w'.cell? (ad201.add ((x8_2).toNat * 3)) = some (.int .i64 ((rd_T53 l2 x8_2).f0)) ∧ w'.cell? ⟨(ad201.add ((x8_2).toNat * 3)).block, (ad201.add ((x8_2).toNat * 3)).off + 1, none⟩ = some (.int .i64 ((rd_T53 l2 x8_2).f1)) ∧ w'.cell? ⟨(ad201.add ((x8_2).toNat * 3)).block, (ad201.add ((x8_2).toNat * 3)).off + 2, none⟩ = some (.int .i64 ((rd_T53 l2 x8_2).f2))) (ds := [12]) #[false, false, false, false, false, false, false, false, false, false, false, false, false] (by kernel_rfl) rfl rfl ⟨(Z.up HB.out hw205_0 :), (Z.up HB.out hw205_1 :), (Z.up HB.out hw205_2 :), (Z.up HB.out hw206_0 :), (Z.up HB.out hw206_1 :), (Z.up HB.out hw206_2 :)⟩ (fun hHeld => ?_); refine with_tabW spec_FirstVoid.tab9 spec_FirstVoid.bits9 (fun HT_ HW_ => ?_)
        generalize w26.drew = w27 at HO_7 BK193 HB GG23 HQ28 hf23_0 hx205_0 hx205_1 hx205_2 hx206_0 hx206_1 hx206_2 hx23_0 hHeld ⊢
        refine Z.pv 0 47 13 1 HT_.out ?_
        refine Z.pv 1 48 13 3 HT_.out ?_
        refine Z.pv 2 49 13 7 HT_.out ?_
        refine Z.pv 3 50 13 15 HT_.out ?_
        refine Z.pv 4 51 13 31 HT_.out ?_
        refine Z.pv 6 53 13 95 HT_.out ?_
        refine Z.pv 7 54 13 223 HT_.out ?_
        refine Z.pv 8 55 13 479 HT_.out ?_
        refine Z.pv 9 56 13 991 HT_.out ?_
        refine Z.t6 5 52 13 1023 HT_.out HW_.out hHeld ?_
        refine Z.t6 10 57 13 2047 HT_.out HW_.out hHeld ?_
        refine Z.pv 11 58 13 4095 HT_.out ?_
        refine last_ (i := 12) (N := none) #[true, true, true, true, true, true, true, true, true, true, true, true, true] rfl rfl (one_of HT_.out (by kernel_rfl)) (by decide) (fun K hK => ?_)
        refine skip_ (w1 := ?_) (by rfl) rfl ?_ ?_
        rotate_left
        ·go_simp
         rfl
        refine hK.out _ _ ?_
        clear hK K
        refine done_ (done_of HT_.out (by kernel_rfl)) ?_
        try go_wp2
        go_roundg k2
        case measure => have := HJ3.out; have := HK2.out; omega
        case rel => exact ⟨(y207), (wrap64 (x8_2 + 1)), (by first | rfl | (simp; done) | (simp [*]; done)), H', ⟨by have := HJ3.out; have := HK2.out; omega⟩, ⟨by (with_reducible repeat (first | apply Kd.R_alloc | apply Kd.R_drewN | apply Kd.R_drew)); exact HQ28.out⟩, ⟨by (with_reducible repeat (first | refine blk_drewN ?_ _ | refine blk_drew ?_ | refine blk_alloc ?_ _)); refine blk_far ?_ (by have h_ := Kd.R_ne HO_7.out BK193.out (by decide); intro e_; exact h_ (by rw [e_]; rfl)) _; (with_reducible repeat (first | refine blk_drewN ?_ _ | refine blk_drew ?_ | refine blk_alloc ?_ _)); exact BK193.out⟩, ⟨by repeat (first | (with_reducible first | exact HB.out | apply below_alloc | apply pw_below_drewN | apply below_drew1 | refine below_set ?_ GB23.out | refine below_set ?_ GE193.out) | exact HB.out)⟩⟩
       ·replace c20 := Bool.eq_false_iff.mpr c20
        subst c20
        rw [if_neg (show ¬ (false = true) by decide)] at H
        obtain rfl := Option.some.inj H
        try go_wp2
        replace HO_7 := Aside0.mk (Kd.R_drew HO_7.out)
        replace BK193 := Aside0.mk (blk_drew BK193.out)
        replace HB := Aside0.mk (below_drew1 HB.out)
        have p201 : 0 ≤ (x8_2 : Int) := Z.od
        have q201 : x8_2 < (l2.length : Int) := Z.od
        obtain ⟨ad201, rfl, hx201_0, hx201_1, hx201_2⟩ := at_T53 HR2.out x8_2 p201 q201
        have hw201_2 := hx201_2
        have hw201_1 := hx201_1
        have hw201_0 := hx201_0
        replace hx201_0 := Z.up HB.out hx201_0
        replace hx201_1 := Z.up HB.out hx201_1
        replace hx201_2 := Z.up HB.out hx201_2
        replace p201 := eq_true p201
        replace q201 := eq_true q201
        have p202 : 0 ≤ (x8_2 : Int) := Z.od
        have q202 : x8_2 < (l2.length : Int) := Z.od
        obtain ⟨ad202, e202, hx202_0, hx202_1, hx202_2⟩ := at_T53 HR2.out x8_2 p202 q202
        have hw202_2 := hx202_2
        have hw202_1 := hx202_1
        have hw202_0 := hx202_0
        obtain rfl : ad201 = ad202 := (by injection e202)
        replace hx202_0 := Z.up HB.out hx202_0
        replace hx202_1 := Z.up HB.out hx202_1
        replace hx202_2 := Z.up HB.out hx202_2
        replace p202 := eq_true p202
        replace q202 := eq_true q202
        have p203 : 0 ≤ (x8_2 : Int) := Z.od
        have q203 : x8_2 < (l2.length : Int) := Z.od
        obtain ⟨ad203, e203, hx203_0, hx203_1, hx203_2⟩ := at_T53 HR2.out x8_2 p203 q203
        have hw203_2 := hx203_2
        have hw203_1 := hx203_1
        have hw203_0 := hx203_0
        obtain rfl : ad201 = ad203 := (by injection e203)
        replace hx203_0 := Z.up HB.out hx203_0
        replace hx203_1 := Z.up HB.out hx203_1
        replace hx203_2 := Z.up HB.out hx203_2
        replace p203 := eq_true p203
        replace q203 := eq_true q203
        obtain ⟨Ao30, co30, eo30⟩ := Kd.R_slice HO_7.out
        (first | subst eo30 | (injection eo30 with f1_ f2_ f3_; have f4_ := f1_.symm; have f5_ := f3_.symm; clear f1_ f2_ f3_; subst f4_; subst f5_))
        refine start_ (n := 19) (S := fun w' => w'.cell? ⟨gb193, 0, none⟩ = some (.int .i64 a0_0) ∧ w'.cell? ⟨gb193, 1, none⟩ = some (.slice A0_1 l0_1.length c0_1) ∧ w'.cell? ⟨gb193, 2, none⟩ = some (.slice A0_2 l0_2.length c0_2) ∧ w'.cell? (ad201.add ((x8_2).toNat * 3)) = some (.int .i64 ((rd_T53 l2 x8_2).f0)) ∧ w'.cell? ⟨(ad201.add ((x8_2).toNat * 3)).block, (ad201.add ((x8_2).toNat * 3)).off + 1, none⟩ = some (.int .i64 ((rd_T53 l2 x8_2).f1)) ∧ w'.cell? ⟨(ad201.add ((x8_2).toNat * 3)).block, (ad201.add ((x8_2).toNat * 3)).off + 2, none⟩ = some (.int .i64 ((rd_T53 l2 x8_2).f2)) ∧ w'.cell? (ad201.add ((x8_2).toNat * 3)) = some (.int .i64 ((rd_T53 l2 x8_2).f0)) ∧ w'.cell? ⟨(ad201.add ((x8_2).toNat * 3)).block, (ad201.add ((x8_2).toNat * 3)).off + 1, none⟩ = some (.int .i64 ((rd_T53 l2 x8_2).f1)) ∧ w'.cell? ⟨(ad201.add ((x8_2).toNat * 3)).block, (ad201.add ((x8_2).toNat * 3)).off + 2, none⟩ = some (.int .i64 ((rd_T53 l2 x8_2).f2)) ∧ w'.cell? (ad201.add ((x8_2).toNat * 3)) = some (.int .i64 ((rd_T53 l2 x8_2).f0)) ∧ w'.cell? ⟨(ad201.add ((x8_2).toNat * 3)).block, (ad201.add ((x8_2).toNat * 3)).off + 1, none⟩ = some (.int .i64 ((rd_T53 l2 x8_2).f1)) ∧ w'.cell? ⟨(ad201.add ((x8_2).toNat * 3)).block, (ad201.add ((x8_2).toNat * 3)).off + 2, none⟩ = some (.int .i64 ((rd_T53 l2 x8_2).f2))) (ds := []) #[false, false, false, false, false, false, false, false, false, false, false, false, false, false, false, false, false, false, false] (by kernel_rfl) rfl rfl ⟨(blk_cell BK193.out 0).trans rfl, (blk_cell BK193.out 1).trans rfl, (blk_cell BK193.out 2).trans rfl, (Z.up HB.out hw201_0 :), (Z.up HB.out hw201_1 :), (Z.up HB.out hw201_2 :), (Z.up HB.out hw202_0 :), (Z.up HB.out hw202_1 :), (Z.up HB.out hw202_2 :), (Z.up HB.out hw203_0 :), (Z.up HB.out hw203_1 :), (Z.up HB.out hw203_2 :)⟩ (fun hHeld => ?_); refine with_tabW spec_FirstVoid.tab7 spec_FirstVoid.bits7 (fun HT_ HW_ => ?_)
        generalize wr.drew = w29 at HO_7 BK193 HB hx201_0 hx201_1 hx201_2 hx202_0 hx202_1 hx202_2 hx203_0 hx203_1 hx203_2 hHeld ⊢
        refine Z.pv 1 28 19 2 HT_.out ?_
        refine Z.pv 2 29 19 6 HT_.out ?_
        refine Z.pv 3 30 19 14 HT_.out ?_
        refine Z.pv 4 31 19 30 HT_.out ?_
        refine Z.pv 5 32 19 62 HT_.out ?_
        refine Z.pv 7 34 19 190 HT_.out ?_
        refine Z.pv 8 35 19 446 HT_.out ?_
        refine Z.pv 9 36 19 958 HT_.out ?_
        refine Z.pv 10 37 19 1982 HT_.out ?_
        refine Z.pv 12 39 19 6078 HT_.out ?_
        refine Z.pv 13 40 19 14270 HT_.out ?_
        refine Z.pv 14 41 19 30654 HT_.out ?_
        refine Z.pv 15 42 19 63422 HT_.out ?_
        refine Z.t12 0 27 19 63423 HT_.out HW_.out hHeld ?_
        refine Z.t12 6 33 19 63487 HT_.out HW_.out hHeld ?_
        refine Z.t12 11 38 19 65535 HT_.out HW_.out hHeld ?_
        refine Z.t12 16 43 19 131071 HT_.out HW_.out hHeld ?_
        refine one_ (i := 17) (N := some 44) (Z.mb 19 262143) rfl rfl (one_of HT_.out (by kernel_rfl)) (by decide) (fun K hK => ?_)
        refine goes_ Try.func62 (by kernel_rfl) rfl #[.agg #[.int .i64 a0_0, .slice A0_1 l0_1.length c0_1, .slice A0_2 l0_2.length c0_2], .slice Ao30 x7_2.length co30, .int .i64 ((rd_T53 l2 x8_2).f0), .int .i64 ((rd_T53 l2 x8_2).f1), .int .i64 ((rd_T53 l2 x8_2).f2)] (by rfl) rfl rfl Z.ar ?_
        with_reducible refine (spec_MayChange.calls k2 a0_0 _ _ l0_1 _ _ l0_2 _ _ x7_2 ((rd_T53 l2 x8_2).f0) ((rd_T53 l2 x8_2).f1) ((rd_T53 l2 x8_2).f2) false _ ?q1 ?q2 ?q3 ?q4 ?q5 ?q6 A19.out).mono ?_
        (case q1 => exact Z.cc HR0_1 HB)
        (case q2 => exact HC0_1.out)
        (case q3 => exact Z.cc HR0_2 HB)
        (case q4 => exact HC0_2.out)
        (case q5 => repeat (first | exact (Kd.R_reads' HO_7.out).2.2 | (with_reducible refine Kd.C_alloc ?_ _) | (with_reducible refine Kd.C_drewN ?_ _) | (with_reducible refine Kd.C_drew ?_)))
        (case q6 => exact (Kd.R_reads' HO_7.out).2.1)
        rintro e w31 ⟨rfl, hb⟩
        refine ⟨_, rfl, ?_⟩
        replace HO_7 := Aside0.mk (Kd.R_below (by (with_reducible repeat (first | apply Kd.R_alloc | apply Kd.R_drewN | apply Kd.R_drew)); exact HO_7.out) hb)
        replace BK193 := Z.bb BK193 hb
        replace HB := Z.st (Z.bs HB.out GE193.out) hb
        (try clear hb)
        (try clear hb2)
        (try clear hk)
        (try clear hi)
        refine hK.out _ _ ⟨(blk_cell BK193.out 0).trans rfl, (blk_cell BK193.out 1).trans rfl, (blk_cell BK193.out 2).trans rfl, (Z.up HB.out hw201_0 :), (Z.up HB.out hw201_1 :), (Z.up HB.out hw201_2 :), (Z.up HB.out hw202_0 :), (Z.up HB.out hw202_1 :), (Z.up HB.out hw202_2 :), (Z.up HB.out hw203_0 :), (Z.up HB.out hw203_1 :), (Z.up HB.out hw203_2 :)⟩ (fun hHeld => ?_)
        clear hK K
        refine Z.nm ?_
        refine Z.pv 18 45 19 524287 HT_.out ?_
        refine done_ (done_of HT_.out (by kernel_rfl)) ?_
        try go_wp2
        go_ret
        exact ⟨by first | rfl | (simp [errW_none, errW_some] <;> rfl) | (simp [*, errW_none, errW_some] <;> rfl), Z.bs HB.out GE193.out⟩
      ·rw [if_neg c17] at H
       have c17b0 := decide_eq_false c17
       clear c17
       obtain rfl := Option.some.inj H
       go_wp2
       go_ret
       exact ⟨by first | rfl | (simp [errW_none, errW_some] <;> rfl) | (simp [*, errW_none, errW_some] <;> rfl), Z.bs HB.out GE193.out⟩
end Go.Proofs.Ytcafckapdgaogaa.PAll

/- Walks of functions that All reaches, in the form of the print. -/
-- PRINTED
import Derived.Test.YtcafckapdgaogaaCAll0
import Derived.Test.YtcafckapdgaogaaCAll5
import Derived.Test.YtcafckapdgaogaaCAll8
import Derived.Test.YtcafckapdgaogaaZ
namespace Go.Proofs.Ytcafckapdgaogaa.PAll
open Go.RowKit Go.Proofs.YtcafckapdgaogaaW.PrintWords Go.Proofs.YtcafckapdgaogaaW.PrintLast Go.Proofs.YtcafckapdgaogaaW.PrintMore
attribute [local go_sem] max2_int min2_int max_two min_two max_three min_three max_four min_four
set_option linter.unusedVariables false
set_option linter.unusedSimpArgs false

/-! ### spec_AfterActs: function 27 -/
mutual
def spec_AfterActs.j0 : Nat → List Int → List (S53) → Bool → Int → List Int → List (List (S86)) → Option (List Int × Int)
 | 0, _, _, _, _, _, _ => none
 | k + 1, x1, x2, x19, x439000, x439001, x439002 => if x19 = true then (some ((([] : List Int)), (-1))) else ((some (([] : List Int) : List Int)).bind fun y443 => (if y443.length + x1.length < 17592186044416 then (spec_AfterActs.l0 k x2 (y443 ++ x1) 0 0 x439000 x439001 x439002) else (none)))
def spec_AfterActs.l0 : Nat → List (S53) → List Int → Int → Int → Int → List Int → List (List (S86)) → Option (List Int × Int)
 | 0, _, _, _, _, _, _, _ => none
 | k + 1, x2, x8, x9, x10, x439000, x439001, x439002 => if x10 < (x2.length : Int) then (if 0 ≤ x10 then ((spec_MayChange.f k x439000 x439001 x439002 x8 ((rd_T53 x2 x10).f0) ((rd_T53 x2 x10).f1) ((rd_T53 x2 x10).f2)).bind fun t452 => (if t452 = true then (if 0 ≤ ((rd_T53 x2 x10).f0) then (if ((rd_T53 x2 x10).f0) < (x8.length : Int) then (spec_AfterActs.l0 k x2 (x8.set (((rd_T53 x2 x10).f0) : Int).toNat ((rd_T53 x2 x10).f1)) (wrap64 (x9 + 1)) (wrap64 (x10 + 1)) x439000 x439001 x439002) else (none)) else (none)) else (spec_AfterActs.l0 k x2 x8 x9 (wrap64 (x10 + 1)) x439000 x439001 x439002))) else (none)) else (some (x8, x9))
end
def spec_AfterActs.f (k : Nat) (a0_0 : Int) (l0_1 : List Int) (l0_2 : List (List (S86))) (l1 : List Int) (l2 : List (S53)) : Option (List Int × Int) := (spec_StateOk.f k a0_0 l0_1 l0_2 l1).bind fun t439 => (if t439 = true then (spec_AfterActs.j0 k l1 l2 (decide ((l2.length : Int) > 12)) a0_0 l0_1 l0_2) else (spec_AfterActs.j0 k l1 l2 true a0_0 l0_1 l0_2))
def spec_AfterActs.T8 : Bool × List (List Nat × List Nat) := (true, [([], []), ([], []), ([], []), ([], []), ([2, 3], [2, 3]), ([4], [4]), ([5], [5]), ([], []), ([], []), ([7, 8], [7, 8]), ([9], [9]), ([10], [10]), ([], []), ([], []), ([12, 13], [12, 13]), ([14], [14]), ([15], [15]), ([0, 1, 6, 11, 16], [0, 1, 6, 11, 16])])
def spec_AfterActs.B8 : List Nat := [0, 0, 0, 0, 12, 28, 60, 0, 0, 384, 896, 1920, 0, 0, 12288, 28672, 61440, 131071]
theorem spec_AfterActs.tab8 : rtab .any (opsOf Try.f27 8) = spec_AfterActs.T8 := by kernel_rfl
theorem spec_AfterActs.bits8 : waitsOk spec_AfterActs.T8.2 spec_AfterActs.B8 = true := by kernel_rfl
def spec_AfterActs.T9 : Bool × List (List Nat × List Nat) := (true, [([], []), ([], []), ([], []), ([1, 2], [1, 2]), ([3], [3]), ([4], [4]), ([], []), ([], []), ([6, 7], [6, 7]), ([8], [8]), ([9], [9]), ([0, 5, 0, 1, 2, 3, 4, 5, 6, 7, 8, 9, 10], [0, 5]), ([11, 10, 0, 1, 2, 3, 4, 5, 6, 7, 8, 9, 10], [10, 11])])
def spec_AfterActs.B9 : List Nat := [0, 0, 0, 6, 14, 30, 0, 0, 192, 448, 960, 2047, 4095]
theorem spec_AfterActs.tab9 : rtab .any (opsOf Try.f27 9) = spec_AfterActs.T9 := by kernel_rfl
theorem spec_AfterActs.bits9 : waitsOk spec_AfterActs.T9.2 spec_AfterActs.B9 = true := by kernel_rfl
set_option maxHeartbeats 8000000 in
set_option maxRecDepth 100000 in
theorem spec_AfterActs.calls (k : Nat) (a0_0 : Int) (A0_1 : Option Addr) (c0_1 : Nat) (l0_1 : List Int) (A0_2 : Option Addr) (c0_2 : Nat) (l0_2 : List (List (S86))) (A1 : Option Addr) (c1 : Nat) (l1 : List Int) (A2 : Option Addr) (c2 : Nat) (l2 : List (S53)) (r1 : List Int) (r2 : Int) (w : World) (hr0_1 : Kd.C (Kd.int .i64) w A0_1 l0_1.length l0_1) (hc0_1 : l0_1.length ≤ c0_1) (hr0_2 : Kd.C (Kd.slice 86 k86) w A0_2 l0_2.length l0_2) (hc0_2 : l0_2.length ≤ c0_2) (hr1 : Kd.C (Kd.int .i64) w A1 l1.length l1) (hc1 : l1.length ≤ c1) (hr2 : Kd.C k53 w A2 l2.length l2) (hc2 : l2.length ≤ c2) (h : spec_AfterActs.f k a0_0 l0_1 l0_2 l1 l2 = some (r1, r2)) :
  Calls Try.prog 27 #[.agg #[.int .i64 a0_0, .slice A0_1 l0_1.length c0_1, .slice A0_2 l0_2.length c0_2], .slice A1 l1.length c1, .slice A2 l2.length c2] w fun e w' => ∃ v0_ : Value, e = .returned (.tuple #[v0_, .int .i64 r2]) ∧ Kd.R (Kd.int .i64) 3 w' w.heap.size (fun _ => True) v0_ r1 ∧ Below w.heap.size w w' := by
 have hu35 := Try.underlying35
 have HR0_1 := Aside0.mk hr0_1
 have HC0_1 := Aside0.mk hc0_1
 clear hr0_1 hc0_1
 have HR0_2 := Aside0.mk hr0_2
 have HC0_2 := Aside0.mk hc0_2
 clear hr0_2 hc0_2
 have HR1 := Aside0.mk hr1
 have HC1 := Aside0.mk hc1
 clear hr1 hc1
 have HR2 := Aside0.mk hr2
 have HC2 := Aside0.mk hc2
 clear hr2 hc2
 have HB := Aside0.mk (Below.refl w.heap.size w)
 have H := h
 clear h
 unfold spec_AfterActs.f at H
 have HC4 := Aside0.mk H
 clear H
 go_enter Try.func27, Try.ntmps27
 go_upto_region 1 with (((with_reducible refine gate_dst (N := 3) rfl ?_); (try (refine gate_guard (by rfl) ?_; dsimp only)); refine Z.bx #[.int .i64 a0_0, .slice A0_1 l0_1.length c0_1, .slice A0_2 l0_2.length c0_2] 35 HB ?_; clear HB; intro gb438 w5 BK438 GE438 HB hg hb; have GW438 := GE438; clear hb hg))
 go_cut [19] (fun v19 wc => ∃ (kq : Nat) (x19_3 : Bool), v19 = .bool x19_3 ∧ Aside0 (spec_AfterActs.j0 kq l1 l2 x19_3 a0_0 l0_1 l0_2 = some (r1, r2)) ∧ Aside0 (kq ≤ k) ∧ Aside0 (wc.heap[gb438]? = some (.cells #[.int .i64 a0_0, (.slice A0_1 l0_1.length c0_1), (.slice A0_2 l0_2.length c0_2)] 35 (0, 0))) ∧ Aside0 (Below w.heap.size w wc))
 case first =>
  have H := HC4.out
  clear HC4
  replace H := Option.bind_eq_some_iff.mp H
  obtain ⟨t439, A60, H⟩ := H
  have A6 := Aside0.mk A60
  clear A60
  by_cases c7 : t439 = true
  ·subst c7
   rw [if_pos rfl] at H
   have H' := Aside0.mk H
   clear H
   have hcz8 := Z.c3 BK438.out
   go_wp2_with (((with_reducible refine gate_callee (f := 61) rfl ?_); refine goesL_ (some 13) rfl rfl Try.func61 (by kernel_rfl) rfl #[.agg #[.int .i64 a0_0, .slice A0_1 l0_1.length c0_1, .slice A0_2 l0_2.length c0_2], .slice A1 l1.length c1] rfl Z.ar ?_; (with_reducible refine (spec_StateOk.calls k a0_0 _ _ l0_1 _ _ l0_2 _ _ l1 true _ ?q1 ?q2 ?q3 ?q4 ?q5 ?q6 A6.out).mono ?_); (case q1 => exact Z.cc HR0_1 HB); (case q2 => exact HC0_1.out); (case q3 => exact Z.cc HR0_2 HB); (case q4 => exact HC0_2.out); (case q5 => exact Z.cc HR1 HB); (case q6 => exact HC1.out); rintro e w9 ⟨rfl, hb⟩; refine ⟨_, rfl, ?_⟩; replace BK438 := Z.bb BK438 hb; replace HB := Z.st (Z.bs HB.out GE438.out) hb; (try clear hb)))
   go_meet
   case rel => exact ⟨_, (decide ((l2.length : Int) > 12)), (by rfl), H', ⟨by omega⟩, ⟨by (with_reducible skip); exact BK438.out⟩, ⟨Z.bs HB.out GE438.out⟩⟩
  ·replace c7 := Bool.eq_false_iff.mpr c7
   subst c7
   rw [if_neg (show ¬ (false = true) by decide)] at H
   have H' := Aside0.mk H
   clear H
   have hcz10 := Z.c3 BK438.out
   go_wp2_with (((with_reducible refine gate_callee (f := 61) rfl ?_); refine goesL_ (some 13) rfl rfl Try.func61 (by kernel_rfl) rfl #[.agg #[.int .i64 a0_0, .slice A0_1 l0_1.length c0_1, .slice A0_2 l0_2.length c0_2], .slice A1 l1.length c1] rfl Z.ar ?_; (with_reducible refine (spec_StateOk.calls k a0_0 _ _ l0_1 _ _ l0_2 _ _ l1 false _ ?q1 ?q2 ?q3 ?q4 ?q5 ?q6 A6.out).mono ?_); (case q1 => exact Z.cc HR0_1 HB); (case q2 => exact HC0_1.out); (case q3 => exact Z.cc HR0_2 HB); (case q4 => exact HC0_2.out); (case q5 => exact Z.cc HR1 HB); (case q6 => exact HC1.out); rintro e w11 ⟨rfl, hb⟩; refine ⟨_, rfl, ?_⟩; replace BK438 := Z.bb BK438 hb; replace HB := Z.st (Z.bs HB.out GE438.out) hb; (try clear hb)))
   go_meet
   case rel => exact ⟨_, (true), (by rfl), H', ⟨by omega⟩, ⟨by (with_reducible skip); exact BK438.out⟩, ⟨Z.bs HB.out GE438.out⟩⟩
 case rest =>
  clear HC4
  obtain ⟨kq, x19_3, rfl, HA, HJ3, BK438, HB⟩ := hcut
  cases kq with
  | zero => exact absurd HA.out (by simp [spec_AfterActs.j0])
  | succ kj3 =>
   have H := HA.out
   clear HA
   simp only [spec_AfterActs.j0] at H
   by_cases c12 : x19_3 = true
   ·subst c12
    rw [if_pos rfl] at H
    obtain ⟨y440, hy440⟩ : ∃ y_ : List Int, y_ = (([] : List Int)) := ⟨_, rfl⟩
    replace H : (some (y440, (-1))) = some (r1, r2) := by (rw [hy440]; with_reducible exact H)
    have Ny440 := Aside0.mk hy440
    clear hy440
    simp only [Option.some.injEq, Prod.mk.injEq] at H
    obtain ⟨rfl, rfl⟩ := H
    go_wp2_with (((with_reducible refine gate_dst (N := 20) rfl ?_); (try (refine gate_guard (by rfl) ?_; dsimp only)); refine Kd.R_lit (Kd.int .i64) _ 3 ?hg (N := 20) ?hd (xs := ([] : List Int)) (inner := []) (ok := fun _ => True) (okp := fun _ => True) ?hr ?hp (fun _ hk => hk) trivial (Below.refl _ _) (Nat.le_refl _) (by simp) ?_; (case hd | hg => rfl); (case hr => (go_simp; done)); (case hp => exact (Reps.none _ _)); intro v441 w13 ho14 hb hg_ hnew_; clear hg_ hnew_; (rw [← Ny440.out] at ho14); have HO442 := Aside0.mk (Kd.R_lower ho14 (below_size (Z.bs HB.out GE438.out))); replace BK438 := Z.bb BK438 hb; replace HB := Z.st (Z.bs HB.out GE438.out) hb; clear hb ho14))
    go_ret2
    exact ⟨_, by rfl, by (with_reducible skip); exact HO442.out, Z.bs HB.out GE438.out⟩
   ·replace c12 := Bool.eq_false_iff.mpr c12
    subst c12
    rw [if_neg (show ¬ (false = true) by decide)] at H
    obtain ⟨y443, hy443⟩ : ∃ y_ : List Int, y_ = (([] : List Int)) := ⟨_, rfl⟩
    replace H : (if y443.length + l1.length < 17592186044416 then (spec_AfterActs.l0 kj3 l2 (y443 ++ l1) 0 0 a0_0 l0_1 l0_2) else (none)) = some (r1, r2) := by (have H2_ := (Option.bind_some _ _).symm.trans H; rw [hy443]; with_reducible exact H2_)
    have Ny443 := Aside0.mk hy443
    clear hy443
    obtain ⟨c15, H⟩ := Z.ifp H
    have LMc15 := Aside0.mk c15
    clear c15
    obtain ⟨y446, hy446⟩ : ∃ y_ : List Int, y_ = (y443 ++ l1) := ⟨_, rfl⟩
    replace H : (spec_AfterActs.l0 kj3 l2 y446 0 0 a0_0 l0_1 l0_2) = some (r1, r2) := by (rw [hy446]; with_reducible exact H)
    have Ny446 := Aside0.mk hy446
    clear hy446
    have H' := Aside0.mk H
    clear H
    go_wp2_with (first | ((with_reducible refine gate_dst (N := 21) rfl ?_); (try (refine gate_guard (by rfl) ?_; dsimp only)); refine Kd.R_lit (Kd.int .i64) _ 3 ?hg (N := 21) ?hd (xs := ([] : List Int)) (inner := []) (ok := fun _ => True) (okp := fun _ => True) ?hr ?hp (fun _ hk => hk) trivial (Below.refl _ _) (Nat.le_refl _) (by simp) ?_; (case hd | hg => rfl); (case hr => (go_simp; done)); (case hp => exact (Reps.none _ _)); intro v444 w16 ho17 hb hg_ hnew_; clear hg_ hnew_; (rw [← Ny443.out] at ho17); have HO445 := Aside0.mk (Kd.R_lower ho17 (below_size (Z.bs HB.out GE438.out))); replace BK438 := Z.bb BK438 hb; replace HB := Z.st (Z.bs HB.out GE438.out) hb; clear hb ho17) | ((with_reducible refine gate_builtin (b := .append) (xs := #[.tmp 21, .tmp 22]) rfl ?_); (try (refine gate_guard (by rfl) ?_; dsimp only)); at_builtin; refine Kd.R_append_rows (Kd.int .i64) (w0 := w) w.heap.size rfl (.tmp 21) (.tmp 22) 22 3 (.int .i64 0) 8 rfl Try.underlying22 info3 rfl (by decide) (by omega) v444 y443 l1 _ _ _ (fun _ => True) (fun _ => False) rfl rfl ?aO ?aR (fun _ _ h => h) (fun _ h => h.elim) ?aF ?aB ?aS ?aL ?_; (case aR => exact Z.cc HR1 HB); (case aB => exact (Z.bs HB.out GE438.out)); (case aF => exact (fun _ _ => trivial)); (case aO => exact (by (with_reducible skip); exact HO445.out)); (case aS => exact (below_size (Z.bs HB.out GE438.out))); (case aL => have := LMc15.out; omega); intro v447 w18 ho hb hg hat; rw [← Ny446.out] at ho; replace BK438 := Aside0.mk (blk_grown (g := gb438) (o := .cells #[.int .i64 a0_0, .slice A0_1 l0_1.length c0_1, .slice A0_2 l0_2.length c0_2] 35 (0, 0)) (Z.bk BK438.out) hg (Kd.R_ne HO445.out BK438.out (by decide))); replace HB := Aside0.mk (hb); have HO448 := Aside0.mk (ho); clear HO445; clear ho hb hg hat))
    go_loopg [9, 10] kj3 (fun kq v9 v10 w' => ∃ (x8_2 : List Int) (x9_2 : Int) (x10_2 : Int), v9 = .int .i64 x9_2 ∧ v10 = .int .i64 x10_2 ∧ Aside0 (spec_AfterActs.l0 kq l2 x8_2 x9_2 x10_2 a0_0 l0_1 l0_2 = some (r1, r2)) ∧ Aside0 (kq ≤ kj3) ∧ Aside0 (Kd.R (Kd.int .i64) 3 w' w.heap.size (fun _ => True) v447 x8_2) ∧ Aside0 (w'.heap[gb438]? = some (.cells #[.int .i64 a0_0, (.slice A0_1 l0_1.length c0_1), (.slice A0_2 l0_2.length c0_2)] 35 (0, 0))) ∧ Aside0 (Below w.heap.size w w'))
    case atStart => exact ⟨(y446), (0), (0), (by rfl), (by rfl), H', ⟨Nat.le_refl _⟩, ⟨by (with_reducible skip); exact HO448.out⟩, ⟨by (with_reducible skip); exact BK438.out⟩, ⟨Z.bs HB.out GE438.out⟩⟩
    case round =>
     clear H'
     obtain ⟨x8_2, x9_2, x10_2, rfl, rfl, HA, HK2, HO_8, BK438, HB⟩ := hrel
     cases gk with
     | zero => exact absurd HA.out (by simp [spec_AfterActs.l0])
     | succ k2 =>
      have H := HA.out
      clear HA
      simp only [spec_AfterActs.l0] at H
      by_cases c19 : x10_2 < (l2.length : Int)
      ·rw [if_pos c19] at H
       have c19b0 := decide_eq_true c19
       clear c19
       obtain ⟨c20, H⟩ := Z.ifp H
       have c20b0 : decide (0 ≤ x10_2) = true := decide_eq_true c20
       clear c20
       replace H := Option.bind_eq_some_iff.mp H
       obtain ⟨t452, A210, H⟩ := H
       have A21 := Aside0.mk A210
       clear A210
       by_cases c22 : t452 = true
       ·subst c22
        rw [if_pos rfl] at H
        obtain ⟨c23, H⟩ := Z.ifp H
        have c23b0 : decide (0 ≤ ((rd_T53 l2 x10_2).f0)) = true := decide_eq_true c23
        clear c23
        obtain ⟨c24, H⟩ := Z.ifp H
        have c24b0 : decide (((rd_T53 l2 x10_2).f0) < (x8_2.length : Int)) = true := decide_eq_true c24
        clear c24
        obtain ⟨y455, hy455⟩ : ∃ y_ : List Int, y_ = (x8_2.set (((rd_T53 l2 x10_2).f0) : Int).toNat ((rd_T53 l2 x10_2).f1)) := ⟨_, rfl⟩
        replace H : (spec_AfterActs.l0 k2 l2 y455 (wrap64 (x9_2 + 1)) (wrap64 (x10_2 + 1)) a0_0 l0_1 l0_2) = some (r1, r2) := by (rw [hy455]; with_reducible exact H)
        have Ny455 := Aside0.mk hy455
        clear hy455
        have H' := Aside0.mk H
        clear H
        try go_wp2
        replace HO_8 := Aside0.mk (Kd.R_drew HO_8.out)
        replace BK438 := Aside0.mk (blk_drew BK438.out)
        replace HB := Aside0.mk (below_drew1 HB.out)
        have p449 : 0 ≤ (x10_2 : Int) := Z.od
        have q449 : x10_2 < (l2.length : Int) := Z.od
        obtain ⟨ad449, rfl, hx449_0, hx449_1, hx449_2⟩ := at_T53 HR2.out x10_2 p449 q449
        have hw449_2 := hx449_2
        have hw449_1 := hx449_1
        have hw449_0 := hx449_0
        replace hx449_0 := Z.up HB.out hx449_0
        replace hx449_1 := Z.up HB.out hx449_1
        replace hx449_2 := Z.up HB.out hx449_2
        replace p449 := eq_true p449
        replace q449 := eq_true q449
        have p450 : 0 ≤ (x10_2 : Int) := Z.od
        have q450 : x10_2 < (l2.length : Int) := Z.od
        obtain ⟨ad450, e450, hx450_0, hx450_1, hx450_2⟩ := at_T53 HR2.out x10_2 p450 q450
        have hw450_2 := hx450_2
        have hw450_1 := hx450_1
        have hw450_0 := hx450_0
        obtain rfl : ad449 = ad450 := (by injection e450)
        replace hx450_0 := Z.up HB.out hx450_0
        replace hx450_1 := Z.up HB.out hx450_1
        replace hx450_2 := Z.up HB.out hx450_2
        replace p450 := eq_true p450
        replace q450 := eq_true q450
        have p451 : 0 ≤ (x10_2 : Int) := Z.od
        have q451 : x10_2 < (l2.length : Int) := Z.od
        obtain ⟨ad451, e451, hx451_0, hx451_1, hx451_2⟩ := at_T53 HR2.out x10_2 p451 q451
        have hw451_2 := hx451_2
        have hw451_1 := hx451_1
        have hw451_0 := hx451_0
        obtain rfl : ad449 = ad451 := (by injection e451)
        replace hx451_0 := Z.up HB.out hx451_0
        replace hx451_1 := Z.up HB.out hx451_1
        replace hx451_2 := Z.up HB.out hx451_2
        replace p451 := eq_true p451
        replace q451 := eq_true q451
        obtain ⟨Ao27, co27, eo27⟩ := Kd.R_slice HO_8.out
        (subst eo27)
        refine start_ (n := 18) (S := fun w' => w'.cell? ⟨gb438, 0, none⟩ = some (.int .i64 a0_0) ∧ w'.cell? ⟨gb438, 1, none⟩ = some (.slice A0_1 l0_1.length c0_1) ∧ w'.cell? ⟨gb438, 2, none⟩ = some (.slice A0_2 l0_2.length c0_2) ∧ w'.cell? (ad449.add ((x10_2).toNat * 3)) = some (.int .i64 ((rd_T53 l2 x10_2).f0)) ∧ w'.cell? ⟨(ad449.add ((x10_2).toNat * 3)).block, (ad449.add ((x10_2).toNat * 3)).off + 1, none⟩ = some (.int .i64 ((rd_T53 l2 x10_2).f1)) ∧ w'.cell? ⟨(ad449.add ((x10_2).toNat * 3)).block, (ad449.add ((x10_2).toNat * 3)).off + 2, none⟩ = some (.int .i64 ((rd_T53 l2 x10_2).f2)) ∧ w'.cell? (ad449.add ((x10_2).toNat * 3)) = some (.int .i64 ((rd_T53 l2 x10_2).f0)) ∧ w'.cell? ⟨(ad449.add ((x10_2).toNat * 3)).block, (ad449.add ((x10_2).toNat * 3)).off + 1, none⟩ = some (.int .i64 ((rd_T53 l2 x10_2).f1)) ∧ w'.cell? ⟨(ad449.add ((x10_2).toNat * 3)).block, (ad449.add ((x10_2).toNat * 3)).off + 2, none⟩ = some (.int .i64 ((rd_T53 l2 x10_2).f2)) ∧ w'.cell? (ad449.add ((x10_2).toNat * 3)) = some (.int .i64 ((rd_T53 l2 x10_2).f0)) ∧ w'.cell? ⟨(ad449.add ((x10_2).toNat * 3)).block, (ad449.add ((x10_2).toNat * 3)).off + 1, none⟩ = some (.int .i64 ((rd_T53 l2 x10_2).f1)) ∧ w'.cell? ⟨(ad449.add ((x10_2).toNat * 3)).block, (ad449.add ((x10_2).toNat * 3)).off + 2, none⟩ = some (.int .i64 ((rd_T53 l2 x10_2).f2))) (ds := []) #[false, false, false, false, false, false, false, false, false, false, false, false, false, false, false, false, false, false] (by kernel_rfl) rfl rfl ⟨(blk_cell BK438.out 0).trans rfl, (blk_cell BK438.out 1).trans rfl, (blk_cell BK438.out 2).trans rfl, (Z.up HB.out hw449_0 :), (Z.up HB.out hw449_1 :), (Z.up HB.out hw449_2 :), (Z.up HB.out hw450_0 :), (Z.up HB.out hw450_1 :), (Z.up HB.out hw450_2 :), (Z.up HB.out hw451_0 :), (Z.up HB.out hw451_1 :), (Z.up HB.out hw451_2 :)⟩ (fun hHeld => ?_); refine with_tabW spec_AfterActs.tab8 spec_AfterActs.bits8 (fun HT_ HW_ => ?_)
        generalize wr.drew = w26 at HO_8 BK438 HB hx449_0 hx449_1 hx449_2 hx450_0 hx450_1 hx450_2 hx451_0 hx451_1 hx451_2 hHeld ⊢
        refine Z.pv 1 31 18 2 HT_.out ?_
        refine Z.pv 2 32 18 6 HT_.out ?_
        refine Z.pv 3 33 18 14 HT_.out ?_
        refine Z.pv 4 34 18 30 HT_.out ?_
        refine Z.pv 5 35 18 62 HT_.out ?_
        refine Z.pv 7 37 18 190 HT_.out ?_
        refine Z.pv 8 38 18 446 HT_.out ?_
        refine Z.pv 9 39 18 958 HT_.out ?_
        refine Z.pv 10 40 18 1982 HT_.out ?_
        refine Z.pv 12 42 18 6078 HT_.out ?_
        refine Z.pv 13 43 18 14270 HT_.out ?_
        refine Z.pv 14 44 18 30654 HT_.out ?_
        refine Z.pv 15 45 18 63422 HT_.out ?_
        refine Z.t12 0 30 18 63423 HT_.out HW_.out hHeld ?_
        refine Z.t12 6 36 18 63487 HT_.out HW_.out hHeld ?_
        refine Z.t12 11 41 18 65535 HT_.out HW_.out hHeld ?_
        refine Z.t12 16 46 18 131071 HT_.out HW_.out hHeld ?_
        refine one_ (i := 17) (N := some 47) (Z.mb 18 262143) rfl rfl (one_of HT_.out (by kernel_rfl)) (by decide) (fun K hK => ?_)
        refine goes_ Try.func62 (by kernel_rfl) rfl #[.agg #[.int .i64 a0_0, .slice A0_1 l0_1.length c0_1, .slice A0_2 l0_2.length c0_2], .slice Ao27 x8_2.length co27, .int .i64 ((rd_T53 l2 x10_2).f0), .int .i64 ((rd_T53 l2 x10_2).f1), .int .i64 ((rd_T53 l2 x10_2).f2)] (by rfl) rfl rfl Z.ar ?_
        with_reducible refine (spec_MayChange.calls k2 a0_0 _ _ l0_1 _ _ l0_2 _ _ x8_2 ((rd_T53 l2 x10_2).f0) ((rd_T53 l2 x10_2).f1) ((rd_T53 l2 x10_2).f2) true _ ?q1 ?q2 ?q3 ?q4 ?q5 ?q6 A21.out).mono ?_
        (case q1 => exact Z.cc HR0_1 HB)
        (case q2 => exact HC0_1.out)
        (case q3 => exact Z.cc HR0_2 HB)
        (case q4 => exact HC0_2.out)
        (case q5 => repeat (exact (Kd.R_reads' HO_8.out).2.2))
        (case q6 => exact (Kd.R_reads' HO_8.out).2.1)
        rintro e w28 ⟨rfl, hb⟩
        refine ⟨_, rfl, ?_⟩
        replace HO_8 := Aside0.mk (Kd.R_below (by (with_reducible skip); exact HO_8.out) hb)
        replace BK438 := Z.bb BK438 hb
        replace HB := Z.st (Z.bs HB.out GE438.out) hb
        (try clear hb)
        refine hK.out _ _ ⟨(blk_cell BK438.out 0).trans rfl, (blk_cell BK438.out 1).trans rfl, (blk_cell BK438.out 2).trans rfl, (Z.up HB.out hw449_0 :), (Z.up HB.out hw449_1 :), (Z.up HB.out hw449_2 :), (Z.up HB.out hw450_0 :), (Z.up HB.out hw450_1 :), (Z.up HB.out hw450_2 :), (Z.up HB.out hw451_0 :), (Z.up HB.out hw451_1 :), (Z.up HB.out hw451_2 :)⟩ (fun hHeld => ?_)
        clear hK K
        refine Z.nm ?_
        refine done_ (done_of HT_.out (by kernel_rfl)) ?_
        try go_wp2
        replace HO_8 := Aside0.mk (Kd.R_drew HO_8.out)
        replace BK438 := Aside0.mk (blk_drew BK438.out)
        replace HB := Aside0.mk (below_drew1 HB.out)
        have p453 : 0 ≤ (x10_2 : Int) := Z.od
        have q453 : x10_2 < (l2.length : Int) := Z.od
        obtain ⟨ad453, e453, hx453_0, hx453_1, hx453_2⟩ := at_T53 HR2.out x10_2 p453 q453
        have hw453_2 := hx453_2
        have hw453_1 := hx453_1
        have hw453_0 := hx453_0
        obtain rfl : ad449 = ad453 := (by injection e453)
        replace hx453_0 := Z.up HB.out hx453_0
        replace hx453_1 := Z.up HB.out hx453_1
        replace hx453_2 := Z.up HB.out hx453_2
        replace p453 := eq_true p453
        replace q453 := eq_true q453
        have p454 : 0 ≤ (x10_2 : Int) := Z.od
        have q454 : x10_2 < (l2.length : Int) := Z.od
        obtain ⟨ad454, e454, hx454_0, hx454_1, hx454_2⟩ := at_T53 HR2.out x10_2 p454 q454
        have hw454_2 := hx454_2
        have hw454_1 := hx454_1
        have hw454_0 := hx454_0
        obtain rfl : ad449 = ad454 := (by injection e454)
        replace hx454_0 := Z.up HB.out hx454_0
        replace hx454_1 := Z.up HB.out hx454_1
        replace hx454_2 := Z.up HB.out hx454_2
        replace p454 := eq_true p454
        replace q454 := eq_true q454
        have p25 : 0 ≤ (((rd_T53 l2 x10_2).f0) : Int) := Z.od
        have q25 : (((rd_T53 l2 x10_2).f0) : Int) < ((x8_2.length : Int) : Int) := Z.od
        obtain ⟨go25, co25, eo25, gb25, gl25, cl25, HG25⟩ := Kd.R_form HO_8.out (by omega)
        (cases eo25)
        have GB25 := Aside0.mk gb25
        have GG25 := Aside0.mk HG25
        clear gb25 gl25 HG25
        obtain ⟨hx25_0, hf25_0⟩ := Kd.R_celln 0 HO_8.out (((rd_T53 l2 x10_2).f0) : Int) p25 q25
        replace p25 := eq_true p25
        replace q25 := eq_true q25
        have HP30 := Kd.R_putn HO_8.out (((rd_T53 l2 x10_2).f0) : Int) ((rd_T53 l2 x10_2).f1)
        rw [← Ny455.out] at HP30
        have HQ30 := Aside0.mk HP30
        clear HP30
        refine start_ (n := 13) (S := fun w' => w'.cell? (ad449.add ((x10_2).toNat * 3)) = some (.int .i64 ((rd_T53 l2 x10_2).f0)) ∧ w'.cell? ⟨(ad449.add ((x10_2).toNat * 3)).block, (ad449.add ((x10_2).toNat * 3)).off + 1, none⟩ = some (.int .i64 ((rd_T53 l2 x10_2).f1)) ∧ w'.cell? ⟨(ad449.add ((x10_2).toNat * 3)).block, (ad449.add ((x10_2).toNat * 3)).off + 2, none⟩ = some (.int .i64 ((rd_T53 l2 x10_2).f2)) ∧ w'.cell? (ad449.add ((x10_2).toNat * 3)) = some (.int .i64 ((rd_T53 l2 x10_2).f0)) ∧ w'.cell? ⟨(ad449.add ((x10_2).toNat * 3)).block, (ad449.add ((x10_2).toNat * 3)).off + 1, none⟩ = some (.int .i64 ((rd_T53 l2 x10_2).f1)) ∧ w'.cell? ⟨(ad449.add ((x10_2).toNat * 3)).block, (ad449.add ((x10_2).toNat * 3)).off + 2, none⟩ = some (.int .i64 ((rd_T53 l2 x10_2).f2))) (ds := [12]) #[false, false, false, false, false, false, false, false, false, false, false, false, false] (by kernel_rfl) rfl rfl ⟨(Z.up HB.out hw453_0 :), (Z.up HB.out hw453_1 :), (Z.up HB.out hw453_2 :), (Z.up HB.out hw454_0 :), (Z.up HB.out hw454_1 :), (Z.up HB.out hw454_2 :)⟩ (fun hHeld => ?_); refine with_tabW spec_AfterActs.tab9 spec_AfterActs.bits9 (fun HT_ HW_ => ?_)
        generalize w28.drew = w29 at HO_8 BK438 HB GG25 HQ30 hf25_0 hx25_0 hx453_0 hx453_1 hx453_2 hx454_0 hx454_1 hx454_2 hHeld ⊢
        refine Z.pv 0 48 13 1 HT_.out ?_
        refine Z.pv 1 49 13 3 HT_.out ?_
        refine Z.pv 2 50 13 7 HT_.out ?_
        refine Z.pv 3 51 13 15 HT_.out ?_
        refine Z.pv 4 52 13 31 HT_.out ?_
        refine Z.pv 6 54 13 95 HT_.out ?_
        refine Z.pv 7 55 13 223 HT_.out ?_
        refine Z.pv 8 56 13 479 HT_.out ?_
        refine Z.pv 9 57 13 991 HT_.out ?_
        refine Z.t6 5 53 13 1023 HT_.out HW_.out hHeld ?_
        refine Z.t6 10 58 13 2047 HT_.out HW_.out hHeld ?_
        refine Z.pv 11 59 13 4095 HT_.out ?_
        refine last_ (i := 12) (N := none) #[true, true, true, true, true, true, true, true, true, true, true, true, true] rfl rfl (one_of HT_.out (by kernel_rfl)) (by decide) (fun K hK => ?_)
        refine skip_ (w1 := ?_) (by rfl) rfl ?_ ?_
        rotate_left
        ·go_simp
         rfl
        refine hK.out _ _ ?_
        clear hK K
        refine done_ (done_of HT_.out (by kernel_rfl)) ?_
        try go_wp2
        go_roundg k2
        case measure => have := HJ3.out; have := HK2.out; omega
        case rel => exact ⟨(y455), (wrap64 (x9_2 + 1)), (wrap64 (x10_2 + 1)), (by rfl), (by rfl), H', ⟨by have := HJ3.out; have := HK2.out; omega⟩, ⟨by (with_reducible skip); exact HQ30.out⟩, ⟨by (with_reducible skip); refine blk_far ?_ (by have h_ := Kd.R_ne HO_8.out BK438.out (by decide); intro e_; exact h_ (by rw [e_]; rfl)) _; (with_reducible skip); exact BK438.out⟩, ⟨by repeat ((with_reducible first | exact HB.out | refine below_set ?_ GB25.out))⟩⟩
       ·replace c22 := Bool.eq_false_iff.mpr c22
        subst c22
        rw [if_neg (show ¬ (false = true) by decide)] at H
        have H' := Aside0.mk H
        clear H
        try go_wp2
        replace HO_8 := Aside0.mk (Kd.R_drew HO_8.out)
        replace BK438 := Aside0.mk (blk_drew BK438.out)
        replace HB := Aside0.mk (below_drew1 HB.out)
        have p449 : 0 ≤ (x10_2 : Int) := Z.od
        have q449 : x10_2 < (l2.length : Int) := Z.od
        obtain ⟨ad449, rfl, hx449_0, hx449_1, hx449_2⟩ := at_T53 HR2.out x10_2 p449 q449
        have hw449_2 := hx449_2
        have hw449_1 := hx449_1
        have hw449_0 := hx449_0
        replace hx449_0 := Z.up HB.out hx449_0
        replace hx449_1 := Z.up HB.out hx449_1
        replace hx449_2 := Z.up HB.out hx449_2
        replace p449 := eq_true p449
        replace q449 := eq_true q449
        have p450 : 0 ≤ (x10_2 : Int) := Z.od
        have q450 : x10_2 < (l2.length : Int) := Z.od
        obtain ⟨ad450, e450, hx450_0, hx450_1, hx450_2⟩ := at_T53 HR2.out x10_2 p450 q450
        have hw450_2 := hx450_2
        have hw450_1 := hx450_1
        have hw450_0 := hx450_0
        obtain rfl : ad449 = ad450 := (by injection e450)
        replace hx450_0 := Z.up HB.out hx450_0
        replace hx450_1 := Z.up HB.out hx450_1
        replace hx450_2 := Z.up HB.out hx450_2
        replace p450 := eq_true p450
        replace q450 := eq_true q450
        have p451 : 0 ≤ (x10_2 : Int) := Z.od
        have q451 : x10_2 < (l2.length : Int) := Z.od
        obtain ⟨ad451, e451, hx451_0, hx451_1, hx451_2⟩ := at_T53 HR2.out x10_2 p451 q451
        have hw451_2 := hx451_2
        have hw451_1 := hx451_1
        have hw451_0 := hx451_0
        obtain rfl : ad449 = ad451 := (by injection e451)
        replace hx451_0 := Z.up HB.out hx451_0
        replace hx451_1 := Z.up HB.out hx451_1
        replace hx451_2 := Z.up HB.out hx451_2
        replace p451 := eq_true p451
        replace q451 := eq_true q451
        obtain ⟨Ao32, co32, eo32⟩ := Kd.R_slice HO_8.out
        (subst eo32)
        refine start_ (n := 18) (S := fun w' => w'.cell? ⟨gb438, 0, none⟩ = some (.int .i64 a0_0) ∧ w'.cell? ⟨gb438, 1, none⟩ = some (.slice A0_1 l0_1.length c0_1) ∧ w'.cell? ⟨gb438, 2, none⟩ = some (.slice A0_2 l0_2.length c0_2) ∧ w'.cell? (ad449.add ((x10_2).toNat * 3)) = some (.int .i64 ((rd_T53 l2 x10_2).f0)) ∧ w'.cell? ⟨(ad449.add ((x10_2).toNat * 3)).block, (ad449.add ((x10_2).toNat * 3)).off + 1, none⟩ = some (.int .i64 ((rd_T53 l2 x10_2).f1)) ∧ w'.cell? ⟨(ad449.add ((x10_2).toNat * 3)).block, (ad449.add ((x10_2).toNat * 3)).off + 2, none⟩ = some (.int .i64 ((rd_T53 l2 x10_2).f2)) ∧ w'.cell? (ad449.add ((x10_2).toNat * 3)) = some (.int .i64 ((rd_T53 l2 x10_2).f0)) ∧ w'.cell? ⟨(ad449.add ((x10_2).toNat * 3)).block, (ad449.add ((x10_2).toNat * 3)).off + 1, none⟩ = some (.int .i64 ((rd_T53 l2 x10_2).f1)) ∧ w'.cell? ⟨(ad449.add ((x10_2).toNat * 3)).block, (ad449.add ((x10_2).toNat * 3)).off + 2, none⟩ = some (.int .i64 ((rd_T53 l2 x10_2).f2)) ∧ w'.cell? (ad449.add ((x10_2).toNat * 3)) = some (.int .i64 ((rd_T53 l2 x10_2).f0)) ∧ w'.cell? ⟨(ad449.add ((x10_2).toNat * 3)).block, (ad449.add ((x10_2).toNat * 3)).off + 1, none⟩ = some (.int .i64 ((rd_T53 l2 x10_2).f1)) ∧ w'.cell? ⟨(ad449.add ((x10_2).toNat * 3)).block, (ad449.add ((x10_2).toNat * 3)).off + 2, none⟩ = some (.int .i64 ((rd_T53 l2 x10_2).f2))) (ds := []) #[false, false, false, false, false, false, false, false, false, false, false, false, false, false, false, false, false, false] (by kernel_rfl) rfl rfl ⟨(blk_cell BK438.out 0).trans rfl, (blk_cell BK438.out 1).trans rfl, (blk_cell BK438.out 2).trans rfl, (Z.up HB.out hw449_0 :), (Z.up HB.out hw449_1 :), (Z.up HB.out hw449_2 :), (Z.up HB.out hw450_0 :), (Z.up HB.out hw450_1 :), (Z.up HB.out hw450_2 :), (Z.up HB.out hw451_0 :), (Z.up HB.out hw451_1 :), (Z.up HB.out hw451_2 :)⟩ (fun hHeld => ?_); refine with_tabW spec_AfterActs.tab8 spec_AfterActs.bits8 (fun HT_ HW_ => ?_)
        generalize wr.drew = w31 at HO_8 BK438 HB hx449_0 hx449_1 hx449_2 hx450_0 hx450_1 hx450_2 hx451_0 hx451_1 hx451_2 hHeld ⊢
        refine Z.pv 1 31 18 2 HT_.out ?_
        refine Z.pv 2 32 18 6 HT_.out ?_
        refine Z.pv 3 33 18 14 HT_.out ?_
        refine Z.pv 4 34 18 30 HT_.out ?_
        refine Z.pv 5 35 18 62 HT_.out ?_
        refine Z.pv 7 37 18 190 HT_.out ?_
        refine Z.pv 8 38 18 446 HT_.out ?_
        refine Z.pv 9 39 18 958 HT_.out ?_
        refine Z.pv 10 40 18 1982 HT_.out ?_
        refine Z.pv 12 42 18 6078 HT_.out ?_
        refine Z.pv 13 43 18 14270 HT_.out ?_
        refine Z.pv 14 44 18 30654 HT_.out ?_
        refine Z.pv 15 45 18 63422 HT_.out ?_
        refine Z.t12 0 30 18 63423 HT_.out HW_.out hHeld ?_
        refine Z.t12 6 36 18 63487 HT_.out HW_.out hHeld ?_
        refine Z.t12 11 41 18 65535 HT_.out HW_.out hHeld ?_
        refine Z.t12 16 46 18 131071 HT_.out HW_.out hHeld ?_
        refine one_ (i := 17) (N := some 47) (Z.mb 18 262143) rfl rfl (one_of HT_.out (by kernel_rfl)) (by decide) (fun K hK => ?_)
        refine goes_ Try.func62 (by kernel_rfl) rfl #[.agg #[.int .i64 a0_0, .slice A0_1 l0_1.length c0_1, .slice A0_2 l0_2.length c0_2], .slice Ao32 x8_2.length co32, .int .i64 ((rd_T53 l2 x10_2).f0), .int .i64 ((rd_T53 l2 x10_2).f1), .int .i64 ((rd_T53 l2 x10_2).f2)] (by rfl) rfl rfl Z.ar ?_
        with_reducible refine (spec_MayChange.calls k2 a0_0 _ _ l0_1 _ _ l0_2 _ _ x8_2 ((rd_T53 l2 x10_2).f0) ((rd_T53 l2 x10_2).f1) ((rd_T53 l2 x10_2).f2) false _ ?q1 ?q2 ?q3 ?q4 ?q5 ?q6 A21.out).mono ?_
        (case q1 => exact Z.cc HR0_1 HB)
        (case q2 => exact HC0_1.out)
        (case q3 => exact Z.cc HR0_2 HB)
        (case q4 => exact HC0_2.out)
        (case q5 => repeat (exact (Kd.R_reads' HO_8.out).2.2))
        (case q6 => exact (Kd.R_reads' HO_8.out).2.1)
        rintro e w33 ⟨rfl, hb⟩
        refine ⟨_, rfl, ?_⟩
        replace HO_8 := Aside0.mk (Kd.R_below (by (with_reducible skip); exact HO_8.out) hb)
        replace BK438 := Z.bb BK438 hb
        replace HB := Z.st (Z.bs HB.out GE438.out) hb
        (try clear hb)
        refine hK.out _ _ ⟨(blk_cell BK438.out 0).trans rfl, (blk_cell BK438.out 1).trans rfl, (blk_cell BK438.out 2).trans rfl, (Z.up HB.out hw449_0 :), (Z.up HB.out hw449_1 :), (Z.up HB.out hw449_2 :), (Z.up HB.out hw450_0 :), (Z.up HB.out hw450_1 :), (Z.up HB.out hw450_2 :), (Z.up HB.out hw451_0 :), (Z.up HB.out hw451_1 :), (Z.up HB.out hw451_2 :)⟩ (fun hHeld => ?_)
        clear hK K
        refine Z.nm ?_
        refine done_ (done_of HT_.out (by kernel_rfl)) ?_
        try go_wp2
        go_roundg k2
        case measure => have := HJ3.out; have := HK2.out; omega
        case rel => exact ⟨(x8_2), (x9_2), (wrap64 (x10_2 + 1)), (by rfl), (by rfl), H', ⟨by have := HJ3.out; have := HK2.out; omega⟩, ⟨by (with_reducible skip); exact HO_8.out⟩, ⟨by (with_reducible skip); exact BK438.out⟩, ⟨Z.bs HB.out GE438.out⟩⟩
      ·rw [if_neg c19] at H
       have c19b0 := decide_eq_false c19
       clear c19
       simp only [Option.some.injEq, Prod.mk.injEq] at H
       obtain ⟨rfl, rfl⟩ := H
       go_wp2
       go_ret2
       exact ⟨_, by rfl, by (with_reducible skip); exact HO_8.out, Z.bs HB.out GE438.out⟩
end Go.Proofs.Ytcafckapdgaogaa.PAll

/- Walks of functions that All reaches, in the form of the print. -/
-- PRINTED
import Derived.Test.YtcafckapdgaogaaCAll0
import Derived.Test.YtcafckapdgaogaaCAll8
import Derived.Test.YtcafckapdgaogaaCAll29
import Derived.Test.YtcafckapdgaogaaZ
namespace Go.Proofs.Ytcafckapdgaogaa.PAll
open Go.RowKit Go.Proofs.YtcafckapdgaogaaW.PrintWords Go.Proofs.YtcafckapdgaogaaW.PrintLast Go.Proofs.YtcafckapdgaogaaW.PrintMore
attribute [local go_sem] max2_int min2_int max_two min_two max_three min_three max_four min_four
set_option linter.unusedVariables false
set_option linter.unusedSimpArgs false

/-! ### spec_SafeActs: function 41 -/
mutual
def spec_SafeActs.j0 : Nat → List Int → List Int → List (S53) → List (S53) → Bool → Int → List Int → List (List (S86)) → Option ((List (S53)))
 | 0, _, _, _, _, _, _, _, _ => none
 | k + 1, x1, x2, x3, x9, x28, x786000, x786001, x786002 => if x28 = true then (some x9) else ((some (([] : List Int) : List Int)).bind fun y791 => (if y791.length + x1.length < 17592186044416 then (spec_SafeActs.l0 k x2 x3 x9 (y791 ++ x1) 0 x786000 x786001 x786002) else (none)))
def spec_SafeActs.l0 : Nat → List Int → List (S53) → List (S53) → List Int → Int → Int → List Int → List (List (S86)) → Option ((List (S53)))
 | 0, _, _, _, _, _, _, _, _ => none
 | k + 1, x2, x3, x9, x10, x11, x786000, x786001, x786002 => if x11 < (x3.length : Int) then (if 0 ≤ x11 then ((spec_MayChange.f k x786000 x786001 x786002 x10 ((rd_T53 x3 x11).f0) ((rd_T53 x3 x11).f1) ((rd_T53 x3 x11).f2)).bind fun t800 => (if t800 = true then ((some (([] : List Int) : List Int)).bind fun y801 => (if y801.length + x10.length < 17592186044416 then ((some (y801 ++ x10 : List Int)).bind fun y804 => (if 0 ≤ ((rd_T53 x3 x11).f0) then (if ((rd_T53 x3 x11).f0) < (y804.length : Int) then ((some (y804.set (((rd_T53 x3 x11).f0) : Int).toNat ((rd_T53 x3 x11).f1) : List Int)).bind fun y809 => ((spec_l11Bad.f k x2 y809).bind fun t810 => (if t810 = true then (spec_SafeActs.l0 k x2 x3 x9 x10 (wrap64 (x11 + 1)) x786000 x786001 x786002) else (if x9.length < 5864062014805 then (spec_SafeActs.l0 k x2 x3 (x9 ++ [(⟨(rd_T53 x3 x11).f0, (rd_T53 x3 x11).f1, (rd_T53 x3 x11).f2⟩ : S53)]) y809 (wrap64 (x11 + 1)) x786000 x786001 x786002) else (none))))) else (none)) else (none))) else (none))) else (spec_SafeActs.l0 k x2 x3 x9 x10 (wrap64 (x11 + 1)) x786000 x786001 x786002))) else (none)) else (some x9)
end
def spec_SafeActs.f (k : Nat) (a0_0 : Int) (l0_1 : List Int) (l0_2 : List (List (S86))) (l1 : List Int) (l2 : List Int) (l3 : List (S53)) : Option ((List (S53))) := (some (([] : List (S53)) : List (S53))).bind fun y786 => ((spec_l11Ok.f k a0_0 l0_1 l0_2 l1 l2).bind fun t789 => (if t789 = true then (if (l3.length : Int) > 12 then (spec_SafeActs.j0 k l1 l2 l3 y786 true a0_0 l0_1 l0_2) else ((spec_l11Bad.f k l2 l1).bind fun t790 => (spec_SafeActs.j0 k l1 l2 l3 y786 t790 a0_0 l0_1 l0_2))) else (spec_SafeActs.j0 k l1 l2 l3 y786 true a0_0 l0_1 l0_2)))
def spec_SafeActs.T8 : Bool × List (List Nat × List Nat) := (true, [([], []), ([], []), ([], []), ([], []), ([2, 3], [2, 3]), ([4], [4]), ([5], [5]), ([], []), ([], []), ([7, 8], [7, 8]), ([9], [9]), ([10], [10]), ([], []), ([], []), ([12, 13], [12, 13]), ([14], [14]), ([15], [15]), ([0, 1, 6, 11, 16], [0, 1, 6, 11, 16]), ([17], [17])])
def spec_SafeActs.B8 : List Nat := [0, 0, 0, 0, 12, 28, 60, 0, 0, 384, 896, 1920, 0, 0, 12288, 28672, 61440, 131071, 262143]
theorem spec_SafeActs.tab8 : rtab .any (opsOf Try.f41 8) = spec_SafeActs.T8 := by kernel_rfl
theorem spec_SafeActs.bits8 : waitsOk spec_SafeActs.T8.2 spec_SafeActs.B8 = true := by kernel_rfl
def spec_SafeActs.T10 : Bool × List (List Nat × List Nat) := (true, [([], []), ([], []), ([], []), ([1, 2], [1, 2]), ([3], [3]), ([4], [4]), ([], []), ([], []), ([6, 7], [6, 7]), ([8], [8]), ([9], [9]), ([0, 5, 0, 1, 2, 3, 4, 5, 6, 7, 8, 9, 10], [0, 5]), ([11, 10, 0, 1, 2, 3, 4, 5, 6, 7, 8, 9, 10], [10, 11])])
def spec_SafeActs.B10 : List Nat := [0, 0, 0, 6, 14, 30, 0, 0, 192, 448, 960, 2047, 4095]
theorem spec_SafeActs.tab10 : rtab .any (opsOf Try.f41 10) = spec_SafeActs.T10 := by kernel_rfl
theorem spec_SafeActs.bits10 : waitsOk spec_SafeActs.T10.2 spec_SafeActs.B10 = true := by kernel_rfl
set_option maxHeartbeats 8000000 in
set_option maxRecDepth 100000 in
theorem spec_SafeActs.calls (k : Nat) (a0_0 : Int) (A0_1 : Option Addr) (c0_1 : Nat) (l0_1 : List Int) (A0_2 : Option Addr) (c0_2 : Nat) (l0_2 : List (List (S86))) (A1 : Option Addr) (c1 : Nat) (l1 : List Int) (A2 : Option Addr) (c2 : Nat) (l2 : List Int) (A3 : Option Addr) (c3 : Nat) (l3 : List (S53)) (r : List (S53)) (w : World) (hr0_1 : Kd.C (Kd.int .i64) w A0_1 l0_1.length l0_1) (hc0_1 : l0_1.length ≤ c0_1) (hr0_2 : Kd.C (Kd.slice 86 k86) w A0_2 l0_2.length l0_2) (hc0_2 : l0_2.length ≤ c0_2) (hr1 : Kd.C (Kd.int .i64) w A1 l1.length l1) (hc1 : l1.length ≤ c1) (hr2 : Kd.C (Kd.int .i64) w A2 l2.length l2) (hc2 : l2.length ≤ c2) (hr3 : Kd.C k53 w A3 l3.length l3) (hc3 : l3.length ≤ c3) (h : spec_SafeActs.f k a0_0 l0_1 l0_2 l1 l2 l3 = some r) :
  Calls Try.prog 41 #[.agg #[.int .i64 a0_0, .slice A0_1 l0_1.length c0_1, .slice A0_2 l0_2.length c0_2], .slice A1 l1.length c1, .slice A2 l2.length c2, .slice A3 l3.length c3] w fun e w' => ∃ v0_ : Value, e = .returned (v0_) ∧ Kd.R k53 53 w' w.heap.size (fun _ => True) v0_ r ∧ Below w.heap.size w w' := by
 have hu35 := Try.underlying35
 have hu53 := Try.underlying53
 have HR0_1 := Aside0.mk hr0_1
 have HC0_1 := Aside0.mk hc0_1
 clear hr0_1 hc0_1
 have HR0_2 := Aside0.mk hr0_2
 have HC0_2 := Aside0.mk hc0_2
 clear hr0_2 hc0_2
 have HR1 := Aside0.mk hr1
 have HC1 := Aside0.mk hc1
 clear hr1 hc1
 have HR2 := Aside0.mk hr2
 have HC2 := Aside0.mk hc2
 clear hr2 hc2
 have HR3 := Aside0.mk hr3
 have HC3 := Aside0.mk hc3
 clear hr3 hc3
 have HB := Aside0.mk (Below.refl w.heap.size w)
 have H := h
 clear h
 unfold spec_SafeActs.f at H
 obtain ⟨y786, hy786⟩ : ∃ y_ : List (S53), y_ = (([] : List (S53))) := ⟨_, rfl⟩
 replace H : ((spec_l11Ok.f k a0_0 l0_1 l0_2 l1 l2).bind fun t789 => (if t789 = true then (if (l3.length : Int) > 12 then (spec_SafeActs.j0 k l1 l2 l3 y786 true a0_0 l0_1 l0_2) else ((spec_l11Bad.f k l2 l1).bind fun t790 => (spec_SafeActs.j0 k l1 l2 l3 y786 t790 a0_0 l0_1 l0_2))) else (spec_SafeActs.j0 k l1 l2 l3 y786 true a0_0 l0_1 l0_2))) = some r := by (have H2_ := (Option.bind_some _ _).symm.trans H; rw [hy786]; with_reducible exact H2_)
 have Ny786 := Aside0.mk hy786
 clear hy786
 have HC5 := Aside0.mk H
 clear H
 go_enter Try.func41, Try.ntmps41
 go_upto_region 2 with (first | ((with_reducible refine gate_dst (N := 4) rfl ?_); (try (refine gate_guard (by rfl) ?_; dsimp only)); refine Z.bx #[.int .i64 a0_0, .slice A0_1 l0_1.length c0_1, .slice A0_2 l0_2.length c0_2] 35 HB ?_; clear HB; intro gb785 w6 BK785 GE785 HB hg hb; have GW785 := GE785; clear hb hg) | ((with_reducible refine gate_dst (N := 13) rfl ?_); (try (refine gate_guard (by rfl) ?_; dsimp only)); refine Kd.R_lit k53 _ 53 ?hg (N := 13) ?hd (xs := ([] : List (S53))) (inner := []) (ok := fun _ => True) (okp := fun _ => True) ?hr ?hp (fun _ hk => hk) trivial (Below.refl _ _) (Nat.le_refl _) (by simp) ?_; (case hd | hg => rfl); (case hr => (go_simp; done)); (case hp => exact (Reps.none _ _)); intro v787 w7 ho8 hb hg_ hnew_; clear hg_ hnew_; (rw [← Ny786.out] at ho8); have HO788 := Aside0.mk (Kd.R_lower ho8 (below_size (Z.bs HB.out GE785.out))); replace BK785 := Z.bb BK785 hb; replace HB := Z.st (Z.bs HB.out GE785.out) hb; clear hb ho8))
 go_cut [28] (fun v28 wc => ∃ (kq : Nat) (x28_4 : Bool), v28 = .bool x28_4 ∧ Aside0 (spec_SafeActs.j0 kq l1 l2 l3 y786 x28_4 a0_0 l0_1 l0_2 = some r) ∧ Aside0 (kq ≤ k) ∧ Aside0 (Kd.R k53 53 wc w.heap.size (fun _ => True) v787 y786) ∧ Aside0 (wc.heap[gb785]? = some (.cells #[.int .i64 a0_0, (.slice A0_1 l0_1.length c0_1), (.slice A0_2 l0_2.length c0_2)] 35 (0, 0))) ∧ Aside0 (Below w.heap.size w wc))
 case first =>
  have H := HC5.out
  clear HC5
  replace H := Option.bind_eq_some_iff.mp H
  obtain ⟨t789, A90, H⟩ := H
  have A9 := Aside0.mk A90
  clear A90
  by_cases c10 : t789 = true
  ·subst c10
   rw [if_pos rfl] at H
   by_cases c11 : (l3.length : Int) > 12
   ·rw [if_pos c11] at H
    have c11b0 : decide (12 < (l3.length : Int)) = true := decide_eq_true c11
    have c11b1 : decide (12 < l3.length) = true := decide_eq_true (by omega)
    clear c11
    have H' := Aside0.mk H
    clear H
    have hcz12 := Z.c3 BK785.out
    go_wp2_with (((with_reducible refine gate_callee (f := 79) rfl ?_); refine goesL_ (some 17) rfl rfl Try.func79 (by kernel_rfl) rfl #[.agg #[.int .i64 a0_0, .slice A0_1 l0_1.length c0_1, .slice A0_2 l0_2.length c0_2], .slice A1 l1.length c1, .slice A2 l2.length c2] rfl Z.ar ?_; (with_reducible refine (spec_l11Ok.calls k a0_0 _ _ l0_1 _ _ l0_2 _ _ l1 _ _ l2 true _ ?q1 ?q2 ?q3 ?q4 ?q5 ?q6 ?q7 ?q8 A9.out).mono ?_); (case q1 => exact Z.cc HR0_1 HB); (case q2 => exact HC0_1.out); (case q3 => exact Z.cc HR0_2 HB); (case q4 => exact HC0_2.out); (case q5 => exact Z.cc HR1 HB); (case q6 => exact HC1.out); (case q7 => exact Z.cc HR2 HB); (case q8 => exact HC2.out); rintro e w13 ⟨rfl, hb⟩; refine ⟨_, rfl, ?_⟩; replace HO788 := Aside0.mk (Kd.R_below (by (with_reducible skip); exact HO788.out) hb); replace BK785 := Z.bb BK785 hb; replace HB := Z.st (Z.bs HB.out GE785.out) hb; (try clear hb)))
    go_meet
    case rel => exact ⟨_, (true), (by rfl), H', ⟨by omega⟩, ⟨by (with_reducible skip); exact HO788.out⟩, ⟨by (with_reducible skip); exact BK785.out⟩, ⟨Z.bs HB.out GE785.out⟩⟩
   ·rw [if_neg c11] at H
    have c11b0 : decide (12 < (l3.length : Int)) = false := decide_eq_false c11
    have c11b1 : decide (12 < l3.length) = false := decide_eq_false (by omega)
    clear c11
    replace H := Option.bind_eq_some_iff.mp H
    obtain ⟨t790, A140, H⟩ := H
    have A14 := Aside0.mk A140
    clear A140
    have H' := Aside0.mk H
    clear H
    have hcz15 := Z.c3 BK785.out
    go_wp2_with (first | ((with_reducible refine gate_callee (f := 79) rfl ?_); refine goesL_ (some 17) rfl rfl Try.func79 (by kernel_rfl) rfl #[.agg #[.int .i64 a0_0, .slice A0_1 l0_1.length c0_1, .slice A0_2 l0_2.length c0_2], .slice A1 l1.length c1, .slice A2 l2.length c2] rfl Z.ar ?_; (with_reducible refine (spec_l11Ok.calls k a0_0 _ _ l0_1 _ _ l0_2 _ _ l1 _ _ l2 true _ ?q1 ?q2 ?q3 ?q4 ?q5 ?q6 ?q7 ?q8 A9.out).mono ?_); (case q1 => exact Z.cc HR0_1 HB); (case q2 => exact HC0_1.out); (case q3 => exact Z.cc HR0_2 HB); (case q4 => exact HC0_2.out); (case q5 => exact Z.cc HR1 HB); (case q6 => exact HC1.out); (case q7 => exact Z.cc HR2 HB); (case q8 => exact HC2.out); rintro e w16 ⟨rfl, hb⟩; refine ⟨_, rfl, ?_⟩; replace HO788 := Aside0.mk (Kd.R_below (by (with_reducible skip); exact HO788.out) hb); replace BK785 := Z.bb BK785 hb; replace HB := Z.st (Z.bs HB.out GE785.out) hb; (try clear hb)) | (go_at_call 80; (with_reducible refine (spec_l11Bad.calls k _ _ l2 _ _ l1 t790 _ ?q1 ?q2 ?q3 ?q4 A14.out).mono ?_); (case q1 => exact Z.cc HR2 HB); (case q2 => exact HC2.out); (case q3 => exact Z.cc HR1 HB); (case q4 => exact HC1.out); rintro e w' ⟨rfl, ⟨nd, rfl⟩⟩))
    go_meet
    case rel => exact ⟨_, (t790), (by rfl), H', ⟨by omega⟩, ⟨by (with_reducible repeat (apply Kd.R_drewN)); exact HO788.out⟩, ⟨by (with_reducible repeat (refine blk_drewN ?_ _)); exact BK785.out⟩, ⟨Z.bs HB.out GE785.out⟩⟩
  ·replace c10 := Bool.eq_false_iff.mpr c10
   subst c10
   rw [if_neg (show ¬ (false = true) by decide)] at H
   have H' := Aside0.mk H
   clear H
   have hcz17 := Z.c3 BK785.out
   go_wp2_with (((with_reducible refine gate_callee (f := 79) rfl ?_); refine goesL_ (some 17) rfl rfl Try.func79 (by kernel_rfl) rfl #[.agg #[.int .i64 a0_0, .slice A0_1 l0_1.length c0_1, .slice A0_2 l0_2.length c0_2], .slice A1 l1.length c1, .slice A2 l2.length c2] rfl Z.ar ?_; (with_reducible refine (spec_l11Ok.calls k a0_0 _ _ l0_1 _ _ l0_2 _ _ l1 _ _ l2 false _ ?q1 ?q2 ?q3 ?q4 ?q5 ?q6 ?q7 ?q8 A9.out).mono ?_); (case q1 => exact Z.cc HR0_1 HB); (case q2 => exact HC0_1.out); (case q3 => exact Z.cc HR0_2 HB); (case q4 => exact HC0_2.out); (case q5 => exact Z.cc HR1 HB); (case q6 => exact HC1.out); (case q7 => exact Z.cc HR2 HB); (case q8 => exact HC2.out); rintro e w18 ⟨rfl, hb⟩; refine ⟨_, rfl, ?_⟩; replace HO788 := Aside0.mk (Kd.R_below (by (with_reducible skip); exact HO788.out) hb); replace BK785 := Z.bb BK785 hb; replace HB := Z.st (Z.bs HB.out GE785.out) hb; (try clear hb)))
   go_meet
   case rel => exact ⟨_, (true), (by rfl), H', ⟨by omega⟩, ⟨by (with_reducible skip); exact HO788.out⟩, ⟨by (with_reducible skip); exact BK785.out⟩, ⟨Z.bs HB.out GE785.out⟩⟩
 case rest =>
  clear HC5
  obtain ⟨kq, x28_4, rfl, HA, HJ4, HO_9, BK785, HB⟩ := hcut
  cases kq with
  | zero => exact absurd HA.out (by simp [spec_SafeActs.j0])
  | succ kj4 =>
   have H := HA.out
   clear HA
   simp only [spec_SafeActs.j0] at H
   by_cases c19 : x28_4 = true
   ·subst c19
    rw [if_pos rfl] at H
    obtain rfl := Option.some.inj H
    go_wp2
    go_ret
    exact ⟨_, by rfl, by (with_reducible skip); exact HO_9.out, Z.bs HB.out GE785.out⟩
   ·replace c19 := Bool.eq_false_iff.mpr c19
    subst c19
    rw [if_neg (show ¬ (false = true) by decide)] at H
    obtain ⟨y791, hy791⟩ : ∃ y_ : List Int, y_ = (([] : List Int)) := ⟨_, rfl⟩
    replace H : (if y791.length + l1.length < 17592186044416 then (spec_SafeActs.l0 kj4 l2 l3 y786 (y791 ++ l1) 0 a0_0 l0_1 l0_2) else (none)) = some r := by (have H2_ := (Option.bind_some _ _).symm.trans H; rw [hy791]; with_reducible exact H2_)
    have Ny791 := Aside0.mk hy791
    clear hy791
    obtain ⟨c20, H⟩ := Z.ifp H
    have LMc20 := Aside0.mk c20
    clear c20
    obtain ⟨y794, hy794⟩ : ∃ y_ : List Int, y_ = (y791 ++ l1) := ⟨_, rfl⟩
    replace H : (spec_SafeActs.l0 kj4 l2 l3 y786 y794 0 a0_0 l0_1 l0_2) = some r := by (rw [hy794]; with_reducible exact H)
    have Ny794 := Aside0.mk hy794
    clear hy794
    have H' := Aside0.mk H
    clear H
    go_wp2_with (first | ((with_reducible refine gate_dst (N := 30) rfl ?_); (try (refine gate_guard (by rfl) ?_; dsimp only)); refine Kd.R_lit (Kd.int .i64) _ 3 ?hg (N := 30) ?hd (xs := ([] : List Int)) (inner := []) (ok := fun _ => True) (okp := fun _ => True) ?hr ?hp (fun _ hk => hk) trivial (Below.refl _ _) (Nat.le_refl _) (by simp) ?_; (case hd | hg => rfl); (case hr => (go_simp; done)); (case hp => exact (Reps.none _ _)); intro v792 w21 ho22 hb hg_ hnew_; clear hg_ hnew_; (rw [← Ny791.out] at ho22); replace HO_9 := Aside0.mk (Kd.R_below (by (with_reducible skip); exact HO_9.out) hb); have HO793 := Aside0.mk (Kd.R_lower ho22 (below_size (Z.bs HB.out GE785.out))); replace BK785 := Z.bb BK785 hb; replace HB := Z.st (Z.bs HB.out GE785.out) hb; clear hb ho22) | ((with_reducible refine gate_builtin (b := .append) (xs := #[.tmp 30, .tmp 31]) rfl ?_); (try (refine gate_guard (by rfl) ?_; dsimp only)); at_builtin; refine Kd.R_append_rows (Kd.int .i64) (w0 := w) w.heap.size rfl (.tmp 30) (.tmp 31) 22 3 (.int .i64 0) 8 rfl Try.underlying22 info3 rfl (by decide) (by omega) v792 y791 l1 _ _ _ (fun _ => True) (fun _ => False) rfl rfl ?aO ?aR (fun _ _ h => h) (fun _ h => h.elim) ?aF ?aB ?aS ?aL ?_; (case aR => exact Z.cc HR1 HB); (case aB => exact (Z.bs HB.out GE785.out)); (case aF => exact (fun _ _ => trivial)); (case aO => exact (by (with_reducible skip); exact HO793.out)); (case aS => exact (below_size (Z.bs HB.out GE785.out))); (case aL => have := LMc20.out; omega); intro v795 w23 ho hb hg hat; rw [← Ny794.out] at ho; replace HO_9 := Aside0.mk (Kd.R_over' (by (with_reducible skip); exact HO_9.out) (Kd.R_typed (by (with_reducible skip); exact HO793.out)) (by decide) hg); replace BK785 := Aside0.mk (blk_grown (g := gb785) (o := .cells #[.int .i64 a0_0, .slice A0_1 l0_1.length c0_1, .slice A0_2 l0_2.length c0_2] 35 (0, 0)) (Z.bk BK785.out) hg (Kd.R_ne HO793.out BK785.out (by decide))); replace HB := Aside0.mk (hb); have HO796 := Aside0.mk (ho); clear HO793; clear ho hb hg hat))
    go_loopg [9, 10, 11] kj4 (fun kq v9 v10 v11 w' => ∃ (x9_2 : List (S53)) (x10_2 : List Int) (x11_2 : Int), v11 = .int .i64 x11_2 ∧ Aside0 (spec_SafeActs.l0 kq l2 l3 x9_2 x10_2 x11_2 a0_0 l0_1 l0_2 = some r) ∧ Aside0 (kq ≤ kj4) ∧ Aside0 (Kd.R k53 53 w' w.heap.size (fun _ => True) v9 x9_2) ∧ Aside0 (Kd.R (Kd.int .i64) 3 w' w.heap.size (fun _ => True) v10 x10_2) ∧ Aside0 (w'.heap[gb785]? = some (.cells #[.int .i64 a0_0, (.slice A0_1 l0_1.length c0_1), (.slice A0_2 l0_2.length c0_2)] 35 (0, 0))) ∧ Aside0 (Below w.heap.size w w'))
    case atStart => exact ⟨(y786), (y794), (0), (by rfl), H', ⟨Nat.le_refl _⟩, ⟨by (with_reducible skip); exact HO_9.out⟩, ⟨by (with_reducible skip); exact HO796.out⟩, ⟨by (with_reducible skip); exact BK785.out⟩, ⟨Z.bs HB.out GE785.out⟩⟩
    case round =>
     clear H'
     obtain ⟨x9_2, x10_2, x11_2, rfl, HA, HK2, HO_9, HO_10, BK785, HB⟩ := hrel
     cases gk with
     | zero => exact absurd HA.out (by simp [spec_SafeActs.l0])
     | succ k2 =>
      have H := HA.out
      clear HA
      simp only [spec_SafeActs.l0] at H
      by_cases c24 : x11_2 < (l3.length : Int)
      ·rw [if_pos c24] at H
       have c24b0 := decide_eq_true c24
       clear c24
       obtain ⟨c25, H⟩ := Z.ifp H
       have c25b0 : decide (0 ≤ x11_2) = true := decide_eq_true c25
       clear c25
       replace H := Option.bind_eq_some_iff.mp H
       obtain ⟨t800, A260, H⟩ := H
       have A26 := Aside0.mk A260
       clear A260
       by_cases c27 : t800 = true
       ·subst c27
        rw [if_pos rfl] at H
        obtain ⟨y801, hy801⟩ : ∃ y_ : List Int, y_ = (([] : List Int)) := ⟨_, rfl⟩
        replace H : (if y801.length + x10_2.length < 17592186044416 then ((some (y801 ++ x10_2 : List Int)).bind fun y804 => (if 0 ≤ ((rd_T53 l3 x11_2).f0) then (if ((rd_T53 l3 x11_2).f0) < (y804.length : Int) then ((some (y804.set (((rd_T53 l3 x11_2).f0) : Int).toNat ((rd_T53 l3 x11_2).f1) : List Int)).bind fun y809 => ((spec_l11Bad.f k2 l2 y809).bind fun t810 => (if t810 = true then (spec_SafeActs.l0 k2 l2 l3 x9_2 x10_2 (wrap64 (x11_2 + 1)) a0_0 l0_1 l0_2) else (if x9_2.length < 5864062014805 then (spec_SafeActs.l0 k2 l2 l3 (x9_2 ++ [(⟨(rd_T53 l3 x11_2).f0, (rd_T53 l3 x11_2).f1, (rd_T53 l3 x11_2).f2⟩ : S53)]) y809 (wrap64 (x11_2 + 1)) a0_0 l0_1 l0_2) else (none))))) else (none)) else (none))) else (none)) = some r := by (have H2_ := (Option.bind_some _ _).symm.trans H; rw [hy801]; with_reducible exact H2_)
        have Ny801 := Aside0.mk hy801
        clear hy801
        obtain ⟨c28, H⟩ := Z.ifp H
        have LMc28 := Aside0.mk c28
        clear c28
        obtain ⟨y804, hy804⟩ : ∃ y_ : List Int, y_ = (y801 ++ x10_2) := ⟨_, rfl⟩
        replace H : (if 0 ≤ ((rd_T53 l3 x11_2).f0) then (if ((rd_T53 l3 x11_2).f0) < (y804.length : Int) then ((some (y804.set (((rd_T53 l3 x11_2).f0) : Int).toNat ((rd_T53 l3 x11_2).f1) : List Int)).bind fun y809 => ((spec_l11Bad.f k2 l2 y809).bind fun t810 => (if t810 = true then (spec_SafeActs.l0 k2 l2 l3 x9_2 x10_2 (wrap64 (x11_2 + 1)) a0_0 l0_1 l0_2) else (if x9_2.length < 5864062014805 then (spec_SafeActs.l0 k2 l2 l3 (x9_2 ++ [(⟨(rd_T53 l3 x11_2).f0, (rd_T53 l3 x11_2).f1, (rd_T53 l3 x11_2).f2⟩ : S53)]) y809 (wrap64 (x11_2 + 1)) a0_0 l0_1 l0_2) else (none))))) else (none)) else (none)) = some r := by (have H2_ := (Option.bind_some _ _).symm.trans H; rw [hy804]; with_reducible exact H2_)
        have Ny804 := Aside0.mk hy804
        clear hy804
        obtain ⟨c29, H⟩ := Z.ifp H
        have c29b0 : decide (0 ≤ ((rd_T53 l3 x11_2).f0)) = true := decide_eq_true c29
        clear c29
        obtain ⟨c30, H⟩ := Z.ifp H
        have c30b0 : decide (((rd_T53 l3 x11_2).f0) < (y804.length : Int)) = true := decide_eq_true c30
        clear c30
        obtain ⟨y809, hy809⟩ : ∃ y_ : List Int, y_ = (y804.set (((rd_T53 l3 x11_2).f0) : Int).toNat ((rd_T53 l3 x11_2).f1)) := ⟨_, rfl⟩
        replace H : ((spec_l11Bad.f k2 l2 y809).bind fun t810 => (if t810 = true then (spec_SafeActs.l0 k2 l2 l3 x9_2 x10_2 (wrap64 (x11_2 + 1)) a0_0 l0_1 l0_2) else (if x9_2.length < 5864062014805 then (spec_SafeActs.l0 k2 l2 l3 (x9_2 ++ [(⟨(rd_T53 l3 x11_2).f0, (rd_T53 l3 x11_2).f1, (rd_T53 l3 x11_2).f2⟩ : S53)]) y809 (wrap64 (x11_2 + 1)) a0_0 l0_1 l0_2) else (none)))) = some r := by (have H2_ := (Option.bind_some _ _).symm.trans H; rw [hy809]; with_reducible exact H2_)
        have Ny809 := Aside0.mk hy809
        clear hy809
        replace H := Option.bind_eq_some_iff.mp H
        obtain ⟨t810, A320, H⟩ := H
        have A32 := Aside0.mk A320
        clear A320
        by_cases c33 : t810 = true
        ·subst c33
         rw [if_pos rfl] at H
         have H' := Aside0.mk H
         clear H
         try go_wp2
         replace HO_9 := Aside0.mk (Kd.R_drew HO_9.out)
         replace HO_10 := Aside0.mk (Kd.R_drew HO_10.out)
         replace BK785 := Aside0.mk (blk_drew BK785.out)
         replace HB := Aside0.mk (below_drew1 HB.out)
         have p797 : 0 ≤ (x11_2 : Int) := Z.od
         have q797 : x11_2 < (l3.length : Int) := Z.od
         obtain ⟨ad797, rfl, hx797_0, hx797_1, hx797_2⟩ := at_T53 HR3.out x11_2 p797 q797
         have hw797_2 := hx797_2
         have hw797_1 := hx797_1
         have hw797_0 := hx797_0
         replace hx797_0 := Z.up HB.out hx797_0
         replace hx797_1 := Z.up HB.out hx797_1
         replace hx797_2 := Z.up HB.out hx797_2
         replace p797 := eq_true p797
         replace q797 := eq_true q797
         have p798 : 0 ≤ (x11_2 : Int) := Z.od
         have q798 : x11_2 < (l3.length : Int) := Z.od
         obtain ⟨ad798, e798, hx798_0, hx798_1, hx798_2⟩ := at_T53 HR3.out x11_2 p798 q798
         have hw798_2 := hx798_2
         have hw798_1 := hx798_1
         have hw798_0 := hx798_0
         obtain rfl : ad797 = ad798 := (by injection e798)
         replace hx798_0 := Z.up HB.out hx798_0
         replace hx798_1 := Z.up HB.out hx798_1
         replace hx798_2 := Z.up HB.out hx798_2
         replace p798 := eq_true p798
         replace q798 := eq_true q798
         have p799 : 0 ≤ (x11_2 : Int) := Z.od
         have q799 : x11_2 < (l3.length : Int) := Z.od
         obtain ⟨ad799, e799, hx799_0, hx799_1, hx799_2⟩ := at_T53 HR3.out x11_2 p799 q799
         have hw799_2 := hx799_2
         have hw799_1 := hx799_1
         have hw799_0 := hx799_0
         obtain rfl : ad797 = ad799 := (by injection e799)
         replace hx799_0 := Z.up HB.out hx799_0
         replace hx799_1 := Z.up HB.out hx799_1
         replace hx799_2 := Z.up HB.out hx799_2
         replace p799 := eq_true p799
         replace q799 := eq_true q799
         obtain ⟨Ao35, co35, eo35⟩ := Kd.R_slice HO_10.out
         (subst eo35)
         refine start_ (n := 19) (S := fun w' => w'.cell? ⟨gb785, 0, none⟩ = some (.int .i64 a0_0) ∧ w'.cell? ⟨gb785, 1, none⟩ = some (.slice A0_1 l0_1.length c0_1) ∧ w'.cell? ⟨gb785, 2, none⟩ = some (.slice A0_2 l0_2.length c0_2) ∧ w'.cell? (ad797.add ((x11_2).toNat * 3)) = some (.int .i64 ((rd_T53 l3 x11_2).f0)) ∧ w'.cell? ⟨(ad797.add ((x11_2).toNat * 3)).block, (ad797.add ((x11_2).toNat * 3)).off + 1, none⟩ = some (.int .i64 ((rd_T53 l3 x11_2).f1)) ∧ w'.cell? ⟨(ad797.add ((x11_2).toNat * 3)).block, (ad797.add ((x11_2).toNat * 3)).off + 2, none⟩ = some (.int .i64 ((rd_T53 l3 x11_2).f2)) ∧ w'.cell? (ad797.add ((x11_2).toNat * 3)) = some (.int .i64 ((rd_T53 l3 x11_2).f0)) ∧ w'.cell? ⟨(ad797.add ((x11_2).toNat * 3)).block, (ad797.add ((x11_2).toNat * 3)).off + 1, none⟩ = some (.int .i64 ((rd_T53 l3 x11_2).f1)) ∧ w'.cell? ⟨(ad797.add ((x11_2).toNat * 3)).block, (ad797.add ((x11_2).toNat * 3)).off + 2, none⟩ = some (.int .i64 ((rd_T53 l3 x11_2).f2)) ∧ w'.cell? (ad797.add ((x11_2).toNat * 3)) = some (.int .i64 ((rd_T53 l3 x11_2).f0)) ∧ w'.cell? ⟨(ad797.add ((x11_2).toNat * 3)).block, (ad797.add ((x11_2).toNat * 3)).off + 1, none⟩ = some (.int .i64 ((rd_T53 l3 x11_2).f1)) ∧ w'.cell? ⟨(ad797.add ((x11_2).toNat * 3)).block, (ad797.add ((x11_2).toNat * 3)).off + 2, none⟩ = some (.int .i64 ((rd_T53 l3 x11_2).f2))) (ds := []) #[false, false, false, false, false, false, false, false, false, false, false, false, false, false, false, false, false, false, false] (by kernel_rfl) rfl rfl ⟨(blk_cell BK785.out 0).trans rfl, (blk_cell BK785.out 1).trans rfl, (blk_cell BK785.out 2).trans rfl, (Z.up HB.out hw797_0 :), (Z.up HB.out hw797_1 :), (Z.up HB.out hw797_2 :), (Z.up HB.out hw798_0 :), (Z.up HB.out hw798_1 :), (Z.up HB.out hw798_2 :), (Z.up HB.out hw799_0 :), (Z.up HB.out hw799_1 :), (Z.up HB.out hw799_2 :)⟩ (fun hHeld => ?_); refine with_tabW spec_SafeActs.tab8 spec_SafeActs.bits8 (fun HT_ HW_ => ?_)
         generalize wr.drew = w34 at HO_9 HO_10 BK785 HB hx797_0 hx797_1 hx797_2 hx798_0 hx798_1 hx798_2 hx799_0 hx799_1 hx799_2 hHeld ⊢
         refine Z.pv 1 40 19 2 HT_.out ?_
         refine Z.pv 2 41 19 6 HT_.out ?_
         refine Z.pv 3 42 19 14 HT_.out ?_
         refine Z.pv 4 43 19 30 HT_.out ?_
         refine Z.pv 5 44 19 62 HT_.out ?_
         refine Z.pv 7 46 19 190 HT_.out ?_
         refine Z.pv 8 47 19 446 HT_.out ?_
         refine Z.pv 9 48 19 958 HT_.out ?_
         refine Z.pv 10 49 19 1982 HT_.out ?_
         refine Z.pv 12 51 19 6078 HT_.out ?_
         refine Z.pv 13 52 19 14270 HT_.out ?_
         refine Z.pv 14 53 19 30654 HT_.out ?_
         refine Z.pv 15 54 19 63422 HT_.out ?_
         refine Z.t12 0 39 19 63423 HT_.out HW_.out hHeld ?_
         refine Z.t12 6 45 19 63487 HT_.out HW_.out hHeld ?_
         refine Z.t12 11 50 19 65535 HT_.out HW_.out hHeld ?_
         refine Z.t12 16 55 19 131071 HT_.out HW_.out hHeld ?_
         refine one_ (i := 17) (N := some 56) (Z.mb 19 262143) rfl rfl (one_of HT_.out (by kernel_rfl)) (by decide) (fun K hK => ?_)
         refine goes_ Try.func62 (by kernel_rfl) rfl #[.agg #[.int .i64 a0_0, .slice A0_1 l0_1.length c0_1, .slice A0_2 l0_2.length c0_2], .slice Ao35 x10_2.length co35, .int .i64 ((rd_T53 l3 x11_2).f0), .int .i64 ((rd_T53 l3 x11_2).f1), .int .i64 ((rd_T53 l3 x11_2).f2)] (by rfl) rfl rfl Z.ar ?_
         with_reducible refine (spec_MayChange.calls k2 a0_0 _ _ l0_1 _ _ l0_2 _ _ x10_2 ((rd_T53 l3 x11_2).f0) ((rd_T53 l3 x11_2).f1) ((rd_T53 l3 x11_2).f2) true _ ?q1 ?q2 ?q3 ?q4 ?q5 ?q6 A26.out).mono ?_
         (case q1 => exact Z.cc HR0_1 HB)
         (case q2 => exact HC0_1.out)
         (case q3 => exact Z.cc HR0_2 HB)
         (case q4 => exact HC0_2.out)
         (case q5 => repeat (exact (Kd.R_reads' HO_10.out).2.2))
         (case q6 => exact (Kd.R_reads' HO_10.out).2.1)
         rintro e w36 ⟨rfl, hb⟩
         refine ⟨_, rfl, ?_⟩
         replace HO_9 := Aside0.mk (Kd.R_below (by (with_reducible skip); exact HO_9.out) hb)
         replace HO_10 := Aside0.mk (Kd.R_below (by (with_reducible skip); exact HO_10.out) hb)
         replace BK785 := Z.bb BK785 hb
         replace HB := Z.st (Z.bs HB.out GE785.out) hb
         (try clear hb)
         refine hK.out _ _ ⟨(blk_cell BK785.out 0).trans rfl, (blk_cell BK785.out 1).trans rfl, (blk_cell BK785.out 2).trans rfl, (Z.up HB.out hw797_0 :), (Z.up HB.out hw797_1 :), (Z.up HB.out hw797_2 :), (Z.up HB.out hw798_0 :), (Z.up HB.out hw798_1 :), (Z.up HB.out hw798_2 :), (Z.up HB.out hw799_0 :), (Z.up HB.out hw799_1 :), (Z.up HB.out hw799_2 :)⟩ (fun hHeld => ?_)
         clear hK K
         refine Z.nm ?_
         refine Z.pv 18 57 19 524287 HT_.out ?_
         refine done_ (done_of HT_.out (by kernel_rfl)) ?_
         try go_wp2_with (first | ((with_reducible refine gate_dst (N := 58) rfl ?_); (try (refine gate_guard (by rfl) ?_; dsimp only)); refine Kd.R_lit (Kd.int .i64) _ 3 ?hg (N := 58) ?hd (xs := ([] : List Int)) (inner := []) (ok := fun _ => True) (okp := fun _ => True) ?hr ?hp (fun _ hk => hk) trivial (Below.refl _ _) (Nat.le_refl _) (by simp) ?_; (case hd | hg => rfl); (case hr => (go_simp; done)); (case hp => exact (Reps.none _ _)); intro v802 w37 ho38 hb hg_ hnew_; clear hg_ hnew_; (rw [← Ny801.out] at ho38); replace HO_9 := Aside0.mk (Kd.R_below (by (with_reducible skip); exact HO_9.out) hb); have HO803 := Aside0.mk (Kd.R_lower (Kd.R_new' ho38 (Kd.R_lt (by (with_reducible skip); exact HO_10.out))) (below_size (Z.bs HB.out GE785.out))); replace HO_10 := Aside0.mk (Kd.R_elder' (by (with_reducible skip); exact HO_10.out) (Kd.R_base ho38) hb); replace BK785 := Z.bb BK785 hb; replace HB := Z.st (Z.bs HB.out GE785.out) hb; clear hb ho38) | ((with_reducible refine gate_builtin (b := .append) (xs := #[.tmp 58, .tmp 59]) rfl ?_); (try (refine gate_guard (by rfl) ?_; dsimp only)); at_builtin; refine Kd.R_append_rows (Kd.int .i64) (w0 := w) w.heap.size rfl (.tmp 58) (.tmp 59) 22 3 (.int .i64 0) 8 rfl Try.underlying22 info3 rfl (by decide) (by omega) v802 y801 x10_2 _ _ _ (fun k_ => some k_ ≠ (.slice Ao35 x10_2.length co35 : Value).ownBlock) (fun _ => False) rfl rfl ?aO ?aR (fun _ _ h => h) (fun _ h => h.elim) ?aF ?aB ?aS ?aL ?_; (case aR => repeat (exact (Kd.R_reads' HO_10.out).2.2)); (case aB => exact (Z.bs HB.out GE785.out)); (case aF => exact (fun k_ hk => Kd.fresh' (Kd.R_lt (by (with_reducible skip); exact HO_10.out)) k_ hk)); (case aO => exact (by (with_reducible skip); exact Kd.R_mono HO803.out (fun _ hk => hk.2))); (case aS => exact (below_size (Z.bs HB.out GE785.out))); (case aL => have := LMc28.out; omega); intro v805 w39 ho hb hg hat; rw [← Ny804.out] at ho; replace HO_9 := Aside0.mk (Kd.R_over' (by (with_reducible skip); exact HO_9.out) (Kd.R_typed (by (with_reducible skip); exact HO803.out)) (by decide) hg); replace HO_10 := Aside0.mk (Kd.R_after (ok := (fun _ => True)) (by (with_reducible skip); exact HO_10.out) hg hat); replace BK785 := Aside0.mk (blk_grown (g := gb785) (o := .cells #[.int .i64 a0_0, .slice A0_1 l0_1.length c0_1, .slice A0_2 l0_2.length c0_2] 35 (0, 0)) (Z.bk BK785.out) hg (Kd.R_ne HO803.out BK785.out (by decide))); replace HB := Aside0.mk (hb); have HO806 := Aside0.mk (ho); clear HO803; clear ho hb hg hat))
         replace HO_9 := Aside0.mk (Kd.R_drew HO_9.out)
         replace HO_10 := Aside0.mk (Kd.R_drew HO_10.out)
         replace HO806 := Aside0.mk (Kd.R_drew HO806.out)
         replace BK785 := Aside0.mk (blk_drew BK785.out)
         replace HB := Aside0.mk (below_drew1 HB.out)
         have p807 : 0 ≤ (x11_2 : Int) := Z.od
         have q807 : x11_2 < (l3.length : Int) := Z.od
         obtain ⟨ad807, e807, hx807_0, hx807_1, hx807_2⟩ := at_T53 HR3.out x11_2 p807 q807
         have hw807_2 := hx807_2
         have hw807_1 := hx807_1
         have hw807_0 := hx807_0
         obtain rfl : ad797 = ad807 := (by injection e807)
         replace hx807_0 := Z.up HB.out hx807_0
         replace hx807_1 := Z.up HB.out hx807_1
         replace hx807_2 := Z.up HB.out hx807_2
         replace p807 := eq_true p807
         replace q807 := eq_true q807
         have p808 : 0 ≤ (x11_2 : Int) := Z.od
         have q808 : x11_2 < (l3.length : Int) := Z.od
         obtain ⟨ad808, e808, hx808_0, hx808_1, hx808_2⟩ := at_T53 HR3.out x11_2 p808 q808
         have hw808_2 := hx808_2
         have hw808_1 := hx808_1
         have hw808_0 := hx808_0
         obtain rfl : ad797 = ad808 := (by injection e808)
         replace hx808_0 := Z.up HB.out hx808_0
         replace hx808_1 := Z.up HB.out hx808_1
         replace hx808_2 := Z.up HB.out hx808_2
         replace p808 := eq_true p808
         replace q808 := eq_true q808
         have p31 : 0 ≤ (((rd_T53 l3 x11_2).f0) : Int) := Z.od
         have q31 : (((rd_T53 l3 x11_2).f0) : Int) < ((y804.length : Int) : Int) := Z.od
         obtain ⟨go31, co31, eo31, gb31, gl31, cl31, HG31⟩ := Kd.R_form HO806.out (by omega)
         (cases eo31)
         have GB31 := Aside0.mk gb31
         have GG31 := Aside0.mk HG31
         clear gb31 gl31 HG31
         obtain ⟨hx31_0, hf31_0⟩ := Kd.R_celln 0 HO806.out (((rd_T53 l3 x11_2).f0) : Int) p31 q31
         replace p31 := eq_true p31
         replace q31 := eq_true q31
         have HP41 := Kd.R_putn HO806.out (((rd_T53 l3 x11_2).f0) : Int) ((rd_T53 l3 x11_2).f1)
         rw [← Ny809.out] at HP41
         have HQ41 := Aside0.mk HP41
         clear HP41
         refine start_ (n := 13) (S := fun w' => w'.cell? (ad797.add ((x11_2).toNat * 3)) = some (.int .i64 ((rd_T53 l3 x11_2).f0)) ∧ w'.cell? ⟨(ad797.add ((x11_2).toNat * 3)).block, (ad797.add ((x11_2).toNat * 3)).off + 1, none⟩ = some (.int .i64 ((rd_T53 l3 x11_2).f1)) ∧ w'.cell? ⟨(ad797.add ((x11_2).toNat * 3)).block, (ad797.add ((x11_2).toNat * 3)).off + 2, none⟩ = some (.int .i64 ((rd_T53 l3 x11_2).f2)) ∧ w'.cell? (ad797.add ((x11_2).toNat * 3)) = some (.int .i64 ((rd_T53 l3 x11_2).f0)) ∧ w'.cell? ⟨(ad797.add ((x11_2).toNat * 3)).block, (ad797.add ((x11_2).toNat * 3)).off + 1, none⟩ = some (.int .i64 ((rd_T53 l3 x11_2).f1)) ∧ w'.cell? ⟨(ad797.add ((x11_2).toNat * 3)).block, (ad797.add ((x11_2).toNat * 3)).off + 2, none⟩ = some (.int .i64 ((rd_T53 l3 x11_2).f2))) (ds := [12]) #[false, false, false, false, false, false, false, false, false, false, false, false, false] (by kernel_rfl) rfl rfl ⟨(Z.up HB.out hw807_0 :), (Z.up HB.out hw807_1 :), (Z.up HB.out hw807_2 :), (Z.up HB.out hw808_0 :), (Z.up HB.out hw808_1 :), (Z.up HB.out hw808_2 :)⟩ (fun hHeld => ?_); refine with_tabW spec_SafeActs.tab10 spec_SafeActs.bits10 (fun HT_ HW_ => ?_)
         generalize w39.drew = w40 at HO_9 HO_10 HO806 BK785 HB GG31 HQ41 hf31_0 hx31_0 hx807_0 hx807_1 hx807_2 hx808_0 hx808_1 hx808_2 hHeld ⊢
         refine Z.pv 0 61 13 1 HT_.out ?_
         refine Z.pv 1 62 13 3 HT_.out ?_
         refine Z.pv 2 63 13 7 HT_.out ?_
         refine Z.pv 3 64 13 15 HT_.out ?_
         refine Z.pv 4 65 13 31 HT_.out ?_
         refine Z.pv 6 67 13 95 HT_.out ?_
         refine Z.pv 7 68 13 223 HT_.out ?_
         refine Z.pv 8 69 13 479 HT_.out ?_
         refine Z.pv 9 70 13 991 HT_.out ?_
         refine Z.t6 5 66 13 1023 HT_.out HW_.out hHeld ?_
         refine Z.t6 10 71 13 2047 HT_.out HW_.out hHeld ?_
         refine Z.pv 11 72 13 4095 HT_.out ?_
         refine last_ (i := 12) (N := none) #[true, true, true, true, true, true, true, true, true, true, true, true, true] rfl rfl (one_of HT_.out (by kernel_rfl)) (by decide) (fun K hK => ?_)
         refine skip_ (w1 := ?_) (by rfl) rfl ?_ ?_
         rotate_left
         ·go_simp
          rfl
         refine hK.out _ _ ?_
         clear hK K
         refine done_ (done_of HT_.out (by kernel_rfl)) ?_
         try go_wp2_with (((with_reducible refine gate_callee (f := 80) rfl ?_); refine goesL_ (some 75) rfl rfl Try.func80 (by kernel_rfl) rfl #[.slice A2 l2.length c2, .slice (some ⟨go31, 0, none⟩) y809.length co31] rfl (by (try simp only [List.map_toArray, List.map_cons, List.map_nil]); (rw [show y809.length = y804.length from (Kd.R_reads' HQ41.out).1.symm] <;> rfl)) ?_; (with_reducible refine (spec_l11Bad.calls k2 _ _ l2 _ _ y809 true _ ?q1 ?q2 ?q3 ?q4 A32.out).mono ?_); (case q1 => exact Kd.C_below HR2.out (by repeat ((with_reducible first | exact HB.out | refine below_set ?_ GB31.out)))); (case q2 => exact HC2.out); (case q3 => refine (Kd.R_reads' (e := 3) (base := w.heap.size) (ok := fun k_ => some k_ ≠ (.slice Ao35 x10_2.length co35 : Value).ownBlock) (n := y804.length) (c := co31) ?_).2.2; exact (by (with_reducible skip); exact HQ41.out)); (case q4 => rw [show y809.length = y804.length from (Kd.R_reads' HQ41.out).1.symm]; exact (Kd.R_reads' HO806.out).2.1); rintro e w' ⟨rfl, ⟨nd, rfl⟩⟩; refine ⟨_, rfl, ?_⟩))
         go_roundg k2
         case measure => have := HJ4.out; have := HK2.out; omega
         case rel => exact ⟨(x9_2), (x10_2), (wrap64 (x11_2 + 1)), (by rfl), H', ⟨by have := HJ4.out; have := HK2.out; omega⟩, ⟨by (with_reducible repeat (apply Kd.R_drewN)); exact Kd.R_mono (Kd.R_far (p := ⟨go31, (((rd_T53 l3 x11_2).f0) : Int).toNat, none⟩) (Kd.R_types HO_9.out GG31.out (by decide)) (fun _ hk => hk.2) (.int .i64 ((rd_T53 l3 x11_2).f1))) (fun _ hk => trivial)⟩, ⟨by (with_reducible repeat (apply Kd.R_drewN)); exact Kd.R_mono (Kd.R_far (p := ⟨go31, (((rd_T53 l3 x11_2).f0) : Int).toNat, none⟩) (Kd.R_mono HO_10.out (fun k_ hk => (⟨hk, fun e_ => hk.2 (by rw [e_]; rfl)⟩ : _ ∧ k_ ≠ go31))) (fun _ hk => hk.2) (.int .i64 ((rd_T53 l3 x11_2).f1))) (fun _ hk => trivial)⟩, ⟨by (with_reducible repeat (refine blk_drewN ?_ _)); refine blk_far ?_ (by have h_ := Kd.R_ne HO806.out BK785.out (by decide); intro e_; exact h_ (by rw [e_]; rfl)) _; (with_reducible skip); exact BK785.out⟩, ⟨by repeat ((with_reducible first | exact HB.out | apply pw_below_drewN | refine below_set ?_ GB31.out))⟩⟩
        ·replace c33 := Bool.eq_false_iff.mpr c33
         subst c33
         rw [if_neg (show ¬ (false = true) by decide)] at H
         obtain ⟨c42, H⟩ := Z.ifp H
         have LMc42 := Aside0.mk c42
         clear c42
         obtain ⟨y812, hy812⟩ : ∃ y_ : List (S53), y_ = (x9_2 ++ [(⟨(rd_T53 l3 x11_2).f0, (rd_T53 l3 x11_2).f1, (rd_T53 l3 x11_2).f2⟩ : S53)]) := ⟨_, rfl⟩
         replace H : (spec_SafeActs.l0 k2 l2 l3 y812 y809 (wrap64 (x11_2 + 1)) a0_0 l0_1 l0_2) = some r := by (rw [hy812]; with_reducible exact H)
         have Ny812 := Aside0.mk hy812
         clear hy812
         have H' := Aside0.mk H
         clear H
         try go_wp2
         replace HO_9 := Aside0.mk (Kd.R_drew HO_9.out)
         replace HO_10 := Aside0.mk (Kd.R_drew HO_10.out)
         replace BK785 := Aside0.mk (blk_drew BK785.out)
         replace HB := Aside0.mk (below_drew1 HB.out)
         have p797 : 0 ≤ (x11_2 : Int) := Z.od
         have q797 : x11_2 < (l3.length : Int) := Z.od
         obtain ⟨ad797, rfl, hx797_0, hx797_1, hx797_2⟩ := at_T53 HR3.out x11_2 p797 q797
         have hw797_2 := hx797_2
         have hw797_1 := hx797_1
         have hw797_0 := hx797_0
         replace hx797_0 := Z.up HB.out hx797_0
         replace hx797_1 := Z.up HB.out hx797_1
         replace hx797_2 := Z.up HB.out hx797_2
         replace p797 := eq_true p797
         replace q797 := eq_true q797
         have p798 : 0 ≤ (x11_2 : Int) := Z.od
         have q798 : x11_2 < (l3.length : Int) := Z.od
         obtain ⟨ad798, e798, hx798_0, hx798_1, hx798_2⟩ := at_T53 HR3.out x11_2 p798 q798
         have hw798_2 := hx798_2
         have hw798_1 := hx798_1
         have hw798_0 := hx798_0
         obtain rfl : ad797 = ad798 := (by injection e798)
         replace hx798_0 := Z.up HB.out hx798_0
         replace hx798_1 := Z.up HB.out hx798_1
         replace hx798_2 := Z.up HB.out hx798_2
         replace p798 := eq_true p798
         replace q798 := eq_true q798
         have p799 : 0 ≤ (x11_2 : Int) := Z.od
         have q799 : x11_2 < (l3.length : Int) := Z.od
         obtain ⟨ad799, e799, hx799_0, hx799_1, hx799_2⟩ := at_T53 HR3.out x11_2 p799 q799
         have hw799_2 := hx799_2
         have hw799_1 := hx799_1
         have hw799_0 := hx799_0
         obtain rfl : ad797 = ad799 := (by injection e799)
         replace hx799_0 := Z.up HB.out hx799_0
         replace hx799_1 := Z.up HB.out hx799_1
         replace hx799_2 := Z.up HB.out hx799_2
         replace p799 := eq_true p799
         replace q799 := eq_true q799
         obtain ⟨Ao44, co44, eo44⟩ := Kd.R_slice HO_10.out
         (subst eo44)
         refine start_ (n := 19) (S := fun w' => w'.cell? ⟨gb785, 0, none⟩ = some (.int .i64 a0_0) ∧ w'.cell? ⟨gb785, 1, none⟩ = some (.slice A0_1 l0_1.length c0_1) ∧ w'.cell? ⟨gb785, 2, none⟩ = some (.slice A0_2 l0_2.length c0_2) ∧ w'.cell? (ad797.add ((x11_2).toNat * 3)) = some (.int .i64 ((rd_T53 l3 x11_2).f0)) ∧ w'.cell? ⟨(ad797.add ((x11_2).toNat * 3)).block, (ad797.add ((x11_2).toNat * 3)).off + 1, none⟩ = some (.int .i64 ((rd_T53 l3 x11_2).f1)) ∧ w'.cell? ⟨(ad797.add ((x11_2).toNat * 3)).block, (ad797.add ((x11_2).toNat * 3)).off + 2, none⟩ = some (.int .i64 ((rd_T53 l3 x11_2).f2)) ∧ w'.cell? (ad797.add ((x11_2).toNat * 3)) = some (.int .i64 ((rd_T53 l3 x11_2).f0)) ∧ w'.cell? ⟨(ad797.add ((x11_2).toNat * 3)).block, (ad797.add ((x11_2).toNat * 3)).off + 1, none⟩ = some (.int .i64 ((rd_T53 l3 x11_2).f1)) ∧ w'.cell? ⟨(ad797.add ((x11_2).toNat * 3)).block, (ad797.add ((x11_2).toNat * 3)).off + 2, none⟩ = some (.int .i64 ((rd_T53 l3 x11_2).f2)) ∧ w'.cell? (ad797.add ((x11_2).toNat * 3)) = some (.int .i64 ((rd_T53 l3 x11_2).f0)) ∧ w'.cell? ⟨(ad797.add ((x11_2).toNat * 3)).block, (ad797.add ((x11_2).toNat * 3)).off + 1, none⟩ = some (.int .i64 ((rd_T53 l3 x11_2).f1)) ∧ w'.cell? ⟨(ad797.add ((x11_2).toNat * 3)).block, (ad797.add ((x11_2).toNat * 3)).off + 2, none⟩ = some (.int .i64 ((rd_T53 l3 x11_2).f2))) (ds := []) #[false, false, false, false, false, false, false, false, false, false, false, false, false, false, false, false, false, false, false] (by kernel_rfl) rfl rfl ⟨(blk_cell BK785.out 0).trans rfl, (blk_cell BK785.out 1).trans rfl, (blk_cell BK785.out 2).trans rfl, (Z.up HB.out hw797_0 :), (Z.up HB.out hw797_1 :), (Z.up HB.out hw797_2 :), (Z.up HB.out hw798_0 :), (Z.up HB.out hw798_1 :), (Z.up HB.out hw798_2 :), (Z.up HB.out hw799_0 :), (Z.up HB.out hw799_1 :), (Z.up HB.out hw799_2 :)⟩ (fun hHeld => ?_); refine with_tabW spec_SafeActs.tab8 spec_SafeActs.bits8 (fun HT_ HW_ => ?_)
         generalize wr.drew = w43 at HO_9 HO_10 BK785 HB hx797_0 hx797_1 hx797_2 hx798_0 hx798_1 hx798_2 hx799_0 hx799_1 hx799_2 hHeld ⊢
         refine Z.pv 1 40 19 2 HT_.out ?_
         refine Z.pv 2 41 19 6 HT_.out ?_
         refine Z.pv 3 42 19 14 HT_.out ?_
         refine Z.pv 4 43 19 30 HT_.out ?_
         refine Z.pv 5 44 19 62 HT_.out ?_
         refine Z.pv 7 46 19 190 HT_.out ?_
         refine Z.pv 8 47 19 446 HT_.out ?_
         refine Z.pv 9 48 19 958 HT_.out ?_
         refine Z.pv 10 49 19 1982 HT_.out ?_
         refine Z.pv 12 51 19 6078 HT_.out ?_
         refine Z.pv 13 52 19 14270 HT_.out ?_
         refine Z.pv 14 53 19 30654 HT_.out ?_
         refine Z.pv 15 54 19 63422 HT_.out ?_
         refine Z.t12 0 39 19 63423 HT_.out HW_.out hHeld ?_
         refine Z.t12 6 45 19 63487 HT_.out HW_.out hHeld ?_
         refine Z.t12 11 50 19 65535 HT_.out HW_.out hHeld ?_
         refine Z.t12 16 55 19 131071 HT_.out HW_.out hHeld ?_
         refine one_ (i := 17) (N := some 56) (Z.mb 19 262143) rfl rfl (one_of HT_.out (by kernel_rfl)) (by decide) (fun K hK => ?_)
         refine goes_ Try.func62 (by kernel_rfl) rfl #[.agg #[.int .i64 a0_0, .slice A0_1 l0_1.length c0_1, .slice A0_2 l0_2.length c0_2], .slice Ao44 x10_2.length co44, .int .i64 ((rd_T53 l3 x11_2).f0), .int .i64 ((rd_T53 l3 x11_2).f1), .int .i64 ((rd_T53 l3 x11_2).f2)] (by rfl) rfl rfl Z.ar ?_
         with_reducible refine (spec_MayChange.calls k2 a0_0 _ _ l0_1 _ _ l0_2 _ _ x10_2 ((rd_T53 l3 x11_2).f0) ((rd_T53 l3 x11_2).f1) ((rd_T53 l3 x11_2).f2) true _ ?q1 ?q2 ?q3 ?q4 ?q5 ?q6 A26.out).mono ?_
         (case q1 => exact Z.cc HR0_1 HB)
         (case q2 => exact HC0_1.out)
         (case q3 => exact Z.cc HR0_2 HB)
         (case q4 => exact HC0_2.out)
         (case q5 => repeat (exact (Kd.R_reads' HO_10.out).2.2))
         (case q6 => exact (Kd.R_reads' HO_10.out).2.1)
         rintro e w45 ⟨rfl, hb⟩
         refine ⟨_, rfl, ?_⟩
         replace HO_9 := Aside0.mk (Kd.R_below (by (with_reducible skip); exact HO_9.out) hb)
         replace HO_10 := Aside0.mk (Kd.R_below (by (with_reducible skip); exact HO_10.out) hb)
         replace BK785 := Z.bb BK785 hb
         replace HB := Z.st (Z.bs HB.out GE785.out) hb
         (try clear hb)
         refine hK.out _ _ ⟨(blk_cell BK785.out 0).trans rfl, (blk_cell BK785.out 1).trans rfl, (blk_cell BK785.out 2).trans rfl, (Z.up HB.out hw797_0 :), (Z.up HB.out hw797_1 :), (Z.up HB.out hw797_2 :), (Z.up HB.out hw798_0 :), (Z.up HB.out hw798_1 :), (Z.up HB.out hw798_2 :), (Z.up HB.out hw799_0 :), (Z.up HB.out hw799_1 :), (Z.up HB.out hw799_2 :)⟩ (fun hHeld => ?_)
         clear hK K
         refine Z.nm ?_
         refine Z.pv 18 57 19 524287 HT_.out ?_
         refine done_ (done_of HT_.out (by kernel_rfl)) ?_
         try go_wp2_with (first | ((with_reducible refine gate_dst (N := 58) rfl ?_); (try (refine gate_guard (by rfl) ?_; dsimp only)); refine Kd.R_lit (Kd.int .i64) _ 3 ?hg (N := 58) ?hd (xs := ([] : List Int)) (inner := []) (ok := fun _ => True) (okp := fun _ => True) ?hr ?hp (fun _ hk => hk) trivial (Below.refl _ _) (Nat.le_refl _) (by simp) ?_; (case hd | hg => rfl); (case hr => (go_simp; done)); (case hp => exact (Reps.none _ _)); intro v802 w46 ho47 hb hg_ hnew_; clear hg_ hnew_; (rw [← Ny801.out] at ho47); replace HO_9 := Aside0.mk (Kd.R_below (by (with_reducible skip); exact HO_9.out) hb); have HO803 := Aside0.mk (Kd.R_lower (Kd.R_new' ho47 (Kd.R_lt (by (with_reducible skip); exact HO_10.out))) (below_size (Z.bs HB.out GE785.out))); replace HO_10 := Aside0.mk (Kd.R_elder' (by (with_reducible skip); exact HO_10.out) (Kd.R_base ho47) hb); replace BK785 := Z.bb BK785 hb; replace HB := Z.st (Z.bs HB.out GE785.out) hb; clear hb ho47) | ((with_reducible refine gate_builtin (b := .append) (xs := #[.tmp 58, .tmp 59]) rfl ?_); (try (refine gate_guard (by rfl) ?_; dsimp only)); at_builtin; refine Kd.R_append_rows (Kd.int .i64) (w0 := w) w.heap.size rfl (.tmp 58) (.tmp 59) 22 3 (.int .i64 0) 8 rfl Try.underlying22 info3 rfl (by decide) (by omega) v802 y801 x10_2 _ _ _ (fun k_ => some k_ ≠ (.slice Ao44 x10_2.length co44 : Value).ownBlock) (fun _ => False) rfl rfl ?aO ?aR (fun _ _ h => h) (fun _ h => h.elim) ?aF ?aB ?aS ?aL ?_; (case aR => repeat (exact (Kd.R_reads' HO_10.out).2.2)); (case aB => exact (Z.bs HB.out GE785.out)); (case aF => exact (fun k_ hk => Kd.fresh' (Kd.R_lt (by (with_reducible skip); exact HO_10.out)) k_ hk)); (case aO => exact (by (with_reducible skip); exact Kd.R_mono HO803.out (fun _ hk => hk.2))); (case aS => exact (below_size (Z.bs HB.out GE785.out))); (case aL => have := LMc28.out; omega); intro v805 w48 ho hb hg hat; rw [← Ny804.out] at ho; replace HO_9 := Aside0.mk (Kd.R_over' (by (with_reducible skip); exact HO_9.out) (Kd.R_typed (by (with_reducible skip); exact HO803.out)) (by decide) hg); replace HO_10 := Aside0.mk (Kd.R_after (ok := (fun _ => True)) (by (with_reducible skip); exact HO_10.out) hg hat); replace BK785 := Aside0.mk (blk_grown (g := gb785) (o := .cells #[.int .i64 a0_0, .slice A0_1 l0_1.length c0_1, .slice A0_2 l0_2.length c0_2] 35 (0, 0)) (Z.bk BK785.out) hg (Kd.R_ne HO803.out BK785.out (by decide))); replace HB := Aside0.mk (hb); have HO806 := Aside0.mk (ho); clear HO803; clear ho hb hg hat))
         replace HO_9 := Aside0.mk (Kd.R_drew HO_9.out)
         replace HO_10 := Aside0.mk (Kd.R_drew HO_10.out)
         replace HO806 := Aside0.mk (Kd.R_drew HO806.out)
         replace BK785 := Aside0.mk (blk_drew BK785.out)
         replace HB := Aside0.mk (below_drew1 HB.out)
         have p807 : 0 ≤ (x11_2 : Int) := Z.od
         have q807 : x11_2 < (l3.length : Int) := Z.od
         obtain ⟨ad807, e807, hx807_0, hx807_1, hx807_2⟩ := at_T53 HR3.out x11_2 p807 q807
         have hw807_2 := hx807_2
         have hw807_1 := hx807_1
         have hw807_0 := hx807_0
         obtain rfl : ad797 = ad807 := (by injection e807)
         replace hx807_0 := Z.up HB.out hx807_0
         replace hx807_1 := Z.up HB.out hx807_1
         replace hx807_2 := Z.up HB.out hx807_2
         replace p807 := eq_true p807
         replace q807 := eq_true q807
         have p808 : 0 ≤ (x11_2 : Int) := Z.od
         have q808 : x11_2 < (l3.length : Int) := Z.od
         obtain ⟨ad808, e808, hx808_0, hx808_1, hx808_2⟩ := at_T53 HR3.out x11_2 p808 q808
         have hw808_2 := hx808_2
         have hw808_1 := hx808_1
         have hw808_0 := hx808_0
         obtain rfl : ad797 = ad808 := (by injection e808)
         replace hx808_0 := Z.up HB.out hx808_0
         replace hx808_1 := Z.up HB.out hx808_1
         replace hx808_2 := Z.up HB.out hx808_2
         replace p808 := eq_true p808
         replace q808 := eq_true q808
         have p31 : 0 ≤ (((rd_T53 l3 x11_2).f0) : Int) := Z.od
         have q31 : (((rd_T53 l3 x11_2).f0) : Int) < ((y804.length : Int) : Int) := Z.od
         obtain ⟨go31, co31, eo31, gb31, gl31, cl31, HG31⟩ := Kd.R_form HO806.out (by omega)
         (cases eo31)
         have GB31 := Aside0.mk gb31
         have GG31 := Aside0.mk HG31
         clear gb31 gl31 HG31
         obtain ⟨hx31_0, hf31_0⟩ := Kd.R_celln 0 HO806.out (((rd_T53 l3 x11_2).f0) : Int) p31 q31
         replace p31 := eq_true p31
         replace q31 := eq_true q31
         have HP50 := Kd.R_putn HO806.out (((rd_T53 l3 x11_2).f0) : Int) ((rd_T53 l3 x11_2).f1)
         rw [← Ny809.out] at HP50
         have HQ50 := Aside0.mk HP50
         clear HP50
         refine start_ (n := 13) (S := fun w' => w'.cell? (ad797.add ((x11_2).toNat * 3)) = some (.int .i64 ((rd_T53 l3 x11_2).f0)) ∧ w'.cell? ⟨(ad797.add ((x11_2).toNat * 3)).block, (ad797.add ((x11_2).toNat * 3)).off + 1, none⟩ = some (.int .i64 ((rd_T53 l3 x11_2).f1)) ∧ w'.cell? ⟨(ad797.add ((x11_2).toNat * 3)).block, (ad797.add ((x11_2).toNat * 3)).off + 2, none⟩ = some (.int .i64 ((rd_T53 l3 x11_2).f2)) ∧ w'.cell? (ad797.add ((x11_2).toNat * 3)) = some (.int .i64 ((rd_T53 l3 x11_2).f0)) ∧ w'.cell? ⟨(ad797.add ((x11_2).toNat * 3)).block, (ad797.add ((x11_2).toNat * 3)).off + 1, none⟩ = some (.int .i64 ((rd_T53 l3 x11_2).f1)) ∧ w'.cell? ⟨(ad797.add ((x11_2).toNat * 3)).block, (ad797.add ((x11_2).toNat * 3)).off + 2, none⟩ = some (.int .i64 ((rd_T53 l3 x11_2).f2))) (ds := [12]) #[false, false, false, false, false, false, false, false, false, false, false, false, false] (by kernel_rfl) rfl rfl ⟨(Z.up HB.out hw807_0 :), (Z.up HB.out hw807_1 :), (Z.up HB.out hw807_2 :), (Z.up HB.out hw808_0 :), (Z.up HB.out hw808_1 :), (Z.up HB.out hw808_2 :)⟩ (fun hHeld => ?_); refine with_tabW spec_SafeActs.tab10 spec_SafeActs.bits10 (fun HT_ HW_ => ?_)
         generalize w48.drew = w49 at HO_9 HO_10 HO806 BK785 HB GG31 HQ50 hf31_0 hx31_0 hx807_0 hx807_1 hx807_2 hx808_0 hx808_1 hx808_2 hHeld ⊢
         refine Z.pv 0 61 13 1 HT_.out ?_
         refine Z.pv 1 62 13 3 HT_.out ?_
         refine Z.pv 2 63 13 7 HT_.out ?_
         refine Z.pv 3 64 13 15 HT_.out ?_
         refine Z.pv 4 65 13 31 HT_.out ?_
         refine Z.pv 6 67 13 95 HT_.out ?_
         refine Z.pv 7 68 13 223 HT_.out ?_
         refine Z.pv 8 69 13 479 HT_.out ?_
         refine Z.pv 9 70 13 991 HT_.out ?_
         refine Z.t6 5 66 13 1023 HT_.out HW_.out hHeld ?_
         refine Z.t6 10 71 13 2047 HT_.out HW_.out hHeld ?_
         refine Z.pv 11 72 13 4095 HT_.out ?_
         refine last_ (i := 12) (N := none) #[true, true, true, true, true, true, true, true, true, true, true, true, true] rfl rfl (one_of HT_.out (by kernel_rfl)) (by decide) (fun K hK => ?_)
         refine skip_ (w1 := ?_) (by rfl) rfl ?_ ?_
         rotate_left
         ·go_simp
          rfl
         refine hK.out _ _ ?_
         clear hK K
         refine done_ (done_of HT_.out (by kernel_rfl)) ?_
         try go_wp2_with (first | ((with_reducible refine gate_callee (f := 80) rfl ?_); refine goesL_ (some 75) rfl rfl Try.func80 (by kernel_rfl) rfl #[.slice A2 l2.length c2, .slice (some ⟨go31, 0, none⟩) y809.length co31] rfl (by (try simp only [List.map_toArray, List.map_cons, List.map_nil]); (rw [show y809.length = y804.length from (Kd.R_reads' HQ50.out).1.symm] <;> rfl)) ?_; (with_reducible refine (spec_l11Bad.calls k2 _ _ l2 _ _ y809 false _ ?q1 ?q2 ?q3 ?q4 A32.out).mono ?_); (case q1 => exact Kd.C_below HR2.out (by repeat ((with_reducible first | exact HB.out | refine below_set ?_ GB31.out)))); (case q2 => exact HC2.out); (case q3 => refine (Kd.R_reads' (e := 3) (base := w.heap.size) (ok := fun k_ => some k_ ≠ (.slice Ao44 x10_2.length co44 : Value).ownBlock) (n := y804.length) (c := co31) ?_).2.2; exact (by (with_reducible skip); exact HQ50.out)); (case q4 => rw [show y809.length = y804.length from (Kd.R_reads' HQ50.out).1.symm]; exact (Kd.R_reads' HO806.out).2.1); rintro e w' ⟨rfl, ⟨nd, rfl⟩⟩; refine ⟨_, rfl, ?_⟩; have p811 : 0 ≤ (x11_2 : Int) := Z.od; have q811 : x11_2 < (l3.length : Int) := Z.od; obtain ⟨ad811, e811, hx811_0, hx811_1, hx811_2⟩ := at_T53 HR3.out x11_2 p811 q811; obtain rfl : ad797 = ad811 := (by injection e811); have hn811_0 : ad797.block ≠ go31 := Nat.ne_of_lt (Nat.lt_of_lt_of_le (by have := World.block_lt_of_cell? _ _ hx811_0; rwa [add_block] at this) GB31.out); replace hx811_0 := Z.up HB.out hx811_0; replace hx811_1 := Z.up HB.out hx811_1; replace hx811_2 := Z.up HB.out hx811_2; replace hx811_0 := (cell_far (p := ⟨go31, (((rd_T53 l3 x11_2).f0) : Int).toNat, none⟩) (by (rw [add_block]; exact hn811_0)) (.int .i64 ((rd_T53 l3 x11_2).f1))).trans hx811_0; replace hx811_1 := (cell_far (p := ⟨go31, (((rd_T53 l3 x11_2).f0) : Int).toNat, none⟩) (by (rw [add_block]; exact hn811_0)) (.int .i64 ((rd_T53 l3 x11_2).f1))).trans hx811_1; replace hx811_2 := (cell_far (p := ⟨go31, (((rd_T53 l3 x11_2).f0) : Int).toNat, none⟩) (by (rw [add_block]; exact hn811_0)) (.int .i64 ((rd_T53 l3 x11_2).f1))).trans hx811_2; clear hn811_0; replace p811 := eq_true p811; replace q811 := eq_true q811) | ((with_reducible refine gate_builtin (b := .append) (xs := #[.tmp 78, .tmp 83]) rfl ?_); (try (refine gate_guard (by rfl) ?_; dsimp only)); at_builtin; refine Kd.R_append k53 (w0 := w) w.heap.size rfl (.tmp 78) (.tmp 83) 38 53 (.agg #[(.int .i64 0), (.int .i64 0), (.int .i64 0)]) 24 rfl Try.underlying38 info53 rfl (by decide) (by omega) u9 x9_2 (⟨(rd_T53 l3 x11_2).f0, (rd_T53 l3 x11_2).f1, (rd_T53 l3 x11_2).f2⟩ : S53) [.int .i64 ((rd_T53 l3 x11_2).f0), .int .i64 ((rd_T53 l3 x11_2).f1), .int .i64 ((rd_T53 l3 x11_2).f2)] (fun _ => True) (fun _ => False) rfl (by (go_simp; done)) ?aP (fun _ hk => hk.elim) ?aF ?aO ?aB ?aS ?aL ?_; (case aP => exact k53_mkM _ _ _ (⟨(rd_T53 l3 x11_2).f0, (rd_T53 l3 x11_2).f1, (rd_T53 l3 x11_2).f2⟩ : S53)); (case aB => exact (by repeat ((with_reducible first | exact HB.out | apply pw_below_drewN | refine below_set ?_ GB31.out)))); (case aF => exact (fun _ _ => trivial)); (case aO => exact (by (with_reducible repeat (apply Kd.R_drewN)); exact Kd.R_mono (Kd.R_far (p := ⟨go31, (((rd_T53 l3 x11_2).f0) : Int).toNat, none⟩) (Kd.R_types HO_9.out GG31.out (by decide)) (fun _ hk => hk.2) (.int .i64 ((rd_T53 l3 x11_2).f1))) (fun _ hk => trivial))); (case aS => exact (below_size (by repeat ((with_reducible first | exact HB.out | apply pw_below_drewN | refine below_set ?_ GB31.out))))); (case aL => have := LMc42.out; omega); intro v813 w51 ho hb hg hat; rw [← Ny812.out] at ho; replace HO_10 := Aside0.mk (Kd.R_over' (by (with_reducible repeat (apply Kd.R_drewN)); exact (Kd.R_mono (Kd.R_far (p := ⟨go31, (((rd_T53 l3 x11_2).f0) : Int).toNat, none⟩) (Kd.R_mono HO_10.out (fun k_ hk => (⟨hk, fun e_ => hk.2 (by rw [e_]; rfl)⟩ : _ ∧ k_ ≠ go31))) (fun _ hk => hk.2) (.int .i64 ((rd_T53 l3 x11_2).f1))) (fun _ h_ => h_.1))) (Kd.R_typed (by (with_reducible repeat (apply Kd.R_drewN)); exact (Kd.R_mono (Kd.R_far (p := ⟨go31, (((rd_T53 l3 x11_2).f0) : Int).toNat, none⟩) (Kd.R_types HO_9.out GG31.out (by decide)) (fun _ hk => hk.2) (.int .i64 ((rd_T53 l3 x11_2).f1))) (fun _ h_ => h_.1)))) (by decide) hg); replace BK785 := Aside0.mk (blk_grown (g := gb785) (o := .cells #[.int .i64 a0_0, .slice A0_1 l0_1.length c0_1, .slice A0_2 l0_2.length c0_2] 35 (0, 0)) (by (with_reducible repeat (refine blk_drewN ?_ _)); refine blk_far ?_ (by have h_ := Kd.R_ne HO806.out BK785.out (by decide); intro e_; exact h_ (by rw [e_]; rfl)) _; (with_reducible skip); exact BK785.out) hg (Kd.R_ne HO_9.out BK785.out (by decide))); replace HO806 := Aside0.mk (Kd.R_over' (by (with_reducible repeat (apply Kd.R_drewN)); exact HQ50.out) (Kd.R_typed (by (with_reducible repeat (apply Kd.R_drewN)); exact (Kd.R_mono (Kd.R_far (p := ⟨go31, (((rd_T53 l3 x11_2).f0) : Int).toNat, none⟩) (Kd.R_types HO_9.out GG31.out (by decide)) (fun _ hk => hk.2) (.int .i64 ((rd_T53 l3 x11_2).f1))) (fun _ h_ => h_.1)))) (by decide) hg); replace HB := Aside0.mk (hb); have HO814 := Aside0.mk (ho); clear HO_9; clear ho hb hg hat))
         go_roundg k2
         case measure => have := HJ4.out; have := HK2.out; omega
         case rel => exact ⟨(y812), (y809), (wrap64 (x11_2 + 1)), (by rfl), H', ⟨by have := HJ4.out; have := HK2.out; omega⟩, ⟨by (with_reducible skip); exact HO814.out⟩, ⟨by (with_reducible skip); exact Kd.R_mono HO806.out (fun _ hk => trivial)⟩, ⟨by (with_reducible skip); exact BK785.out⟩, ⟨Z.bs HB.out GE785.out⟩⟩
       ·replace c27 := Bool.eq_false_iff.mpr c27
        subst c27
        rw [if_neg (show ¬ (false = true) by decide)] at H
        have H' := Aside0.mk H
        clear H
        try go_wp2
        replace HO_9 := Aside0.mk (Kd.R_drew HO_9.out)
        replace HO_10 := Aside0.mk (Kd.R_drew HO_10.out)
        replace BK785 := Aside0.mk (blk_drew BK785.out)
        replace HB := Aside0.mk (below_drew1 HB.out)
        have p797 : 0 ≤ (x11_2 : Int) := Z.od
        have q797 : x11_2 < (l3.length : Int) := Z.od
        obtain ⟨ad797, rfl, hx797_0, hx797_1, hx797_2⟩ := at_T53 HR3.out x11_2 p797 q797
        have hw797_2 := hx797_2
        have hw797_1 := hx797_1
        have hw797_0 := hx797_0
        replace hx797_0 := Z.up HB.out hx797_0
        replace hx797_1 := Z.up HB.out hx797_1
        replace hx797_2 := Z.up HB.out hx797_2
        replace p797 := eq_true p797
        replace q797 := eq_true q797
        have p798 : 0 ≤ (x11_2 : Int) := Z.od
        have q798 : x11_2 < (l3.length : Int) := Z.od
        obtain ⟨ad798, e798, hx798_0, hx798_1, hx798_2⟩ := at_T53 HR3.out x11_2 p798 q798
        have hw798_2 := hx798_2
        have hw798_1 := hx798_1
        have hw798_0 := hx798_0
        obtain rfl : ad797 = ad798 := (by injection e798)
        replace hx798_0 := Z.up HB.out hx798_0
        replace hx798_1 := Z.up HB.out hx798_1
        replace hx798_2 := Z.up HB.out hx798_2
        replace p798 := eq_true p798
        replace q798 := eq_true q798
        have p799 : 0 ≤ (x11_2 : Int) := Z.od
        have q799 : x11_2 < (l3.length : Int) := Z.od
        obtain ⟨ad799, e799, hx799_0, hx799_1, hx799_2⟩ := at_T53 HR3.out x11_2 p799 q799
        have hw799_2 := hx799_2
        have hw799_1 := hx799_1
        have hw799_0 := hx799_0
        obtain rfl : ad797 = ad799 := (by injection e799)
        replace hx799_0 := Z.up HB.out hx799_0
        replace hx799_1 := Z.up HB.out hx799_1
        replace hx799_2 := Z.up HB.out hx799_2
        replace p799 := eq_true p799
        replace q799 := eq_true q799
        obtain ⟨Ao53, co53, eo53⟩ := Kd.R_slice HO_10.out
        (subst eo53)
        refine start_ (n := 19) (S := fun w' => w'.cell? ⟨gb785, 0, none⟩ = some (.int .i64 a0_0) ∧ w'.cell? ⟨gb785, 1, none⟩ = some (.slice A0_1 l0_1.length c0_1) ∧ w'.cell? ⟨gb785, 2, none⟩ = some (.slice A0_2 l0_2.length c0_2) ∧ w'.cell? (ad797.add ((x11_2).toNat * 3)) = some (.int .i64 ((rd_T53 l3 x11_2).f0)) ∧ w'.cell? ⟨(ad797.add ((x11_2).toNat * 3)).block, (ad797.add ((x11_2).toNat * 3)).off + 1, none⟩ = some (.int .i64 ((rd_T53 l3 x11_2).f1)) ∧ w'.cell? ⟨(ad797.add ((x11_2).toNat * 3)).block, (ad797.add ((x11_2).toNat * 3)).off + 2, none⟩ = some (.int .i64 ((rd_T53 l3 x11_2).f2)) ∧ w'.cell? (ad797.add ((x11_2).toNat * 3)) = some (.int .i64 ((rd_T53 l3 x11_2).f0)) ∧ w'.cell? ⟨(ad797.add ((x11_2).toNat * 3)).block, (ad797.add ((x11_2).toNat * 3)).off + 1, none⟩ = some (.int .i64 ((rd_T53 l3 x11_2).f1)) ∧ w'.cell? ⟨(ad797.add ((x11_2).toNat * 3)).block, (ad797.add ((x11_2).toNat * 3)).off + 2, none⟩ = some (.int .i64 ((rd_T53 l3 x11_2).f2)) ∧ w'.cell? (ad797.add ((x11_2).toNat * 3)) = some (.int .i64 ((rd_T53 l3 x11_2).f0)) ∧ w'.cell? ⟨(ad797.add ((x11_2).toNat * 3)).block, (ad797.add ((x11_2).toNat * 3)).off + 1, none⟩ = some (.int .i64 ((rd_T53 l3 x11_2).f1)) ∧ w'.cell? ⟨(ad797.add ((x11_2).toNat * 3)).block, (ad797.add ((x11_2).toNat * 3)).off + 2, none⟩ = some (.int .i64 ((rd_T53 l3 x11_2).f2))) (ds := []) #[false, false, false, false, false, false, false, false, false, false, false, false, false, false, false, false, false, false, false] (by kernel_rfl) rfl rfl ⟨(blk_cell BK785.out 0).trans rfl, (blk_cell BK785.out 1).trans rfl, (blk_cell BK785.out 2).trans rfl, (Z.up HB.out hw797_0 :), (Z.up HB.out hw797_1 :), (Z.up HB.out hw797_2 :), (Z.up HB.out hw798_0 :), (Z.up HB.out hw798_1 :), (Z.up HB.out hw798_2 :), (Z.up HB.out hw799_0 :), (Z.up HB.out hw799_1 :), (Z.up HB.out hw799_2 :)⟩ (fun hHeld => ?_); refine with_tabW spec_SafeActs.tab8 spec_SafeActs.bits8 (fun HT_ HW_ => ?_)
        generalize wr.drew = w52 at HO_9 HO_10 BK785 HB hx797_0 hx797_1 hx797_2 hx798_0 hx798_1 hx798_2 hx799_0 hx799_1 hx799_2 hHeld ⊢
        refine Z.pv 1 40 19 2 HT_.out ?_
        refine Z.pv 2 41 19 6 HT_.out ?_
        refine Z.pv 3 42 19 14 HT_.out ?_
        refine Z.pv 4 43 19 30 HT_.out ?_
        refine Z.pv 5 44 19 62 HT_.out ?_
        refine Z.pv 7 46 19 190 HT_.out ?_
        refine Z.pv 8 47 19 446 HT_.out ?_
        refine Z.pv 9 48 19 958 HT_.out ?_
        refine Z.pv 10 49 19 1982 HT_.out ?_
        refine Z.pv 12 51 19 6078 HT_.out ?_
        refine Z.pv 13 52 19 14270 HT_.out ?_
        refine Z.pv 14 53 19 30654 HT_.out ?_
        refine Z.pv 15 54 19 63422 HT_.out ?_
        refine Z.t12 0 39 19 63423 HT_.out HW_.out hHeld ?_
        refine Z.t12 6 45 19 63487 HT_.out HW_.out hHeld ?_
        refine Z.t12 11 50 19 65535 HT_.out HW_.out hHeld ?_
        refine Z.t12 16 55 19 131071 HT_.out HW_.out hHeld ?_
        refine one_ (i := 17) (N := some 56) (Z.mb 19 262143) rfl rfl (one_of HT_.out (by kernel_rfl)) (by decide) (fun K hK => ?_)
        refine goes_ Try.func62 (by kernel_rfl) rfl #[.agg #[.int .i64 a0_0, .slice A0_1 l0_1.length c0_1, .slice A0_2 l0_2.length c0_2], .slice Ao53 x10_2.length co53, .int .i64 ((rd_T53 l3 x11_2).f0), .int .i64 ((rd_T53 l3 x11_2).f1), .int .i64 ((rd_T53 l3 x11_2).f2)] (by rfl) rfl rfl Z.ar ?_
        with_reducible refine (spec_MayChange.calls k2 a0_0 _ _ l0_1 _ _ l0_2 _ _ x10_2 ((rd_T53 l3 x11_2).f0) ((rd_T53 l3 x11_2).f1) ((rd_T53 l3 x11_2).f2) false _ ?q1 ?q2 ?q3 ?q4 ?q5 ?q6 A26.out).mono ?_
        (case q1 => exact Z.cc HR0_1 HB)
        (case q2 => exact HC0_1.out)
        (case q3 => exact Z.cc HR0_2 HB)
        (case q4 => exact HC0_2.out)
        (case q5 => repeat (exact (Kd.R_reads' HO_10.out).2.2))
        (case q6 => exact (Kd.R_reads' HO_10.out).2.1)
        rintro e w54 ⟨rfl, hb⟩
        refine ⟨_, rfl, ?_⟩
        replace HO_9 := Aside0.mk (Kd.R_below (by (with_reducible skip); exact HO_9.out) hb)
        replace HO_10 := Aside0.mk (Kd.R_below (by (with_reducible skip); exact HO_10.out) hb)
        replace BK785 := Z.bb BK785 hb
        replace HB := Z.st (Z.bs HB.out GE785.out) hb
        (try clear hb)
        refine hK.out _ _ ⟨(blk_cell BK785.out 0).trans rfl, (blk_cell BK785.out 1).trans rfl, (blk_cell BK785.out 2).trans rfl, (Z.up HB.out hw797_0 :), (Z.up HB.out hw797_1 :), (Z.up HB.out hw797_2 :), (Z.up HB.out hw798_0 :), (Z.up HB.out hw798_1 :), (Z.up HB.out hw798_2 :), (Z.up HB.out hw799_0 :), (Z.up HB.out hw799_1 :), (Z.up HB.out hw799_2 :)⟩ (fun hHeld => ?_)
        clear hK K
        refine Z.nm ?_
        refine Z.pv 18 57 19 524287 HT_.out ?_
        refine done_ (done_of HT_.out (by kernel_rfl)) ?_
        try go_wp2
        go_roundg k2
        case measure => have := HJ4.out; have := HK2.out; omega
        case rel => exact ⟨(x9_2), (x10_2), (wrap64 (x11_2 + 1)), (by rfl), H', ⟨by have := HJ4.out; have := HK2.out; omega⟩, ⟨by (with_reducible skip); exact HO_9.out⟩, ⟨by (with_reducible skip); exact HO_10.out⟩, ⟨by (with_reducible skip); exact BK785.out⟩, ⟨Z.bs HB.out GE785.out⟩⟩
      ·rw [if_neg c24] at H
       have c24b0 := decide_eq_false c24
       clear c24
       obtain rfl := Option.some.inj H
       go_wp2
       go_ret
       exact ⟨_, by rfl, by (with_reducible skip); exact HO_9.out, Z.bs HB.out GE785.out⟩
end Go.Proofs.Ytcafckapdgaogaa.PAll

/- Walks of functions that some laws of this seat reach, in the form of the print. -/
import Derived.Test.YtcafckapdgaogaaCAll0
import Derived.Test.YtcafckapdgaogaaCAll1
import Derived.Test.YtcafckapdgaogaaCAll14
import Derived.Test.YtcafckapdgaogaaCAll17
import Derived.Test.YtcafckapdgaogaaCAll31
import Derived.Test.YtcafckapdgaogaaCAll53
import Derived.Test.YtcafckapdgaogaaZ
import Derived.Test.YtcafckapdgaogaaV2
-- PRINTED
namespace Go.Proofs.Ytcafckapdgaogaa.PAll
open Go.RowKit Go.Proofs.YtcafckapdgaogaaW.PrintWords Go.Proofs.YtcafckapdgaogaaW.PrintLast Go.Proofs.YtcafckapdgaogaaW.PrintMore
attribute [local go_sem] max2_int min2_int max_two min_two max_three min_three max_four min_four
set_option linter.unusedVariables false
set_option linter.unusedSimpArgs false


/-! ### impl_SafeActs: function 42 -/
mutual
def impl_SafeActs.j0 : Nat → List Int → List Int → List (S53) → Bool → Int → List Int → List (List (S86)) → Option ((List (S53)))
 | 0, _, _, _, _, _, _, _ => none
 | k + 1, x1, x2, x3, x32, x888000, x888001, x888002 => if x32 = true then (some ([] : List (S53))) else ((some (([] : List Int) : List Int)).bind fun y892 => (if y892.length + x1.length < 17592186044416 then (impl_SafeActs.l0 k x2 (y892 ++ x1) (([] : List (S53))) x3 (x3.length : Int) 0 x888000 x888001 x888002) else (none)))
def impl_SafeActs.l0 : Nat → List Int → List Int → List (S53) → List (S53) → Int → Int → Int → List Int → List (List (S86)) → Option ((List (S53)))
 | 0, _, _, _, _, _, _, _, _, _ => none
 | k + 1, x2, x9, x10, x37, x38, x39, x888000, x888001, x888002 => if x39 < x38 then (if 0 ≤ x39 then (if x39 < (x37.length : Int) then ((impl_mayAct.f k x888000 x888001 x888002 x9 ((rd_T53 x37 x39).f0) ((rd_T53 x37 x39).f1) ((rd_T53 x37 x39).f2)).bind fun t903 => (if t903 = true then ((impl_changed.f x9 ((rd_T53 x37 x39).f0) ((rd_T53 x37 x39).f1)).bind fun t904 => ((impl_stateNumber.f k t904).bind fun t907 => ((slices_Contains_int_int.f k x2 t907).bind fun t908 => (if t908 = true then (impl_SafeActs.l0 k x2 x9 x10 x37 x38 (wrap64 (x39 + 1)) x888000 x888001 x888002) else (if 0 ≤ ((rd_T53 x37 x39).f0) then (if ((rd_T53 x37 x39).f0) < (x9.length : Int) then (if x10.length < 5864062014805 then (impl_SafeActs.l0 k x2 (x9.set (((rd_T53 x37 x39).f0) : Int).toNat ((rd_T53 x37 x39).f1)) (x10 ++ [(⟨(rd_T53 x37 x39).f0, (rd_T53 x37 x39).f1, (rd_T53 x37 x39).f2⟩ : S53)]) x37 x38 (wrap64 (x39 + 1)) x888000 x888001 x888002) else (none)) else (none)) else (none)))))) else (impl_SafeActs.l0 k x2 x9 x10 x37 x38 (wrap64 (x39 + 1)) x888000 x888001 x888002))) else (none)) else (none)) else (some x10)
end
def impl_SafeActs.f (k : Nat) (a0_0 : Int) (l0_1 : List Int) (l0_2 : List (List (S86))) (l1 : List Int) (l2 : List Int) (l3 : List (S53)) : Option ((List (S53))) := (impl_isState.f k a0_0 l0_1 l0_2 l1).bind fun t888 => (if t888 = true then ((impl_areBad.f l2).bind fun t889 => (if t889 = true then (if (l3.length : Int) > 12 then (impl_SafeActs.j0 k l1 l2 l3 true a0_0 l0_1 l0_2) else ((impl_stateNumber.f k l1).bind fun t890 => ((slices_Contains_int_int.f k l2 t890).bind fun t891 => (impl_SafeActs.j0 k l1 l2 l3 t891 a0_0 l0_1 l0_2)))) else (impl_SafeActs.j0 k l1 l2 l3 true a0_0 l0_1 l0_2))) else (impl_SafeActs.j0 k l1 l2 l3 true a0_0 l0_1 l0_2))
theorem impl_SafeActs.mono_l : ∀ k, (∀ y0 y1 y2 y3 y4 y5 y6, LeO (impl_SafeActs.j0 k y0 y1 y2 y3 y4 y5 y6) (impl_SafeActs.j0 (k + 1) y0 y1 y2 y3 y4 y5 y6)) ∧ (∀ y0 y1 y2 y3 y4 y5 y6 y7 y8, LeO (impl_SafeActs.l0 k y0 y1 y2 y3 y4 y5 y6 y7 y8) (impl_SafeActs.l0 (k + 1) y0 y1 y2 y3 y4 y5 y6 y7 y8))
 | 0 => ⟨fun _ _ _ _ _ _ _ r h => by simp [impl_SafeActs.j0] at h, fun _ _ _ _ _ _ _ _ _ r h => by simp [impl_SafeActs.l0] at h⟩
 | k + 1 => by
  obtain ⟨ih0, ih1⟩ := impl_SafeActs.mono_l k
  refine ⟨?_, ?_⟩
  ·intro y0 y1 y2 y3 y4 y5 y6
   unfold impl_SafeActs.j0
   repeat' first
   | (with_reducible exact LeO.refl _)
   | exact ih0 _ _ _ _ _ _ _
   | exact ih1 _ _ _ _ _ _ _ _ _
   | exact impl_isState.mono _ _ _ _ _
   | exact impl_mayAct.mono _ _ _ _ _ _ _ _
   | exact impl_stateNumber.mono _ _
   | exact slices_Contains_int_int.mono _ _ _
   | exact LeO.none _
   | refine LeO.ite ?_ ?_
   | refine LeO.bind ?_ (fun _ => ?_)
  ·intro y0 y1 y2 y3 y4 y5 y6 y7 y8
   unfold impl_SafeActs.l0
   repeat' first
   | (with_reducible exact LeO.refl _)
   | exact ih0 _ _ _ _ _ _ _
   | exact ih1 _ _ _ _ _ _ _ _ _
   | exact impl_isState.mono _ _ _ _ _
   | exact impl_mayAct.mono _ _ _ _ _ _ _ _
   | exact impl_stateNumber.mono _ _
   | exact slices_Contains_int_int.mono _ _ _
   | exact LeO.none _
   | refine LeO.ite ?_ ?_
   | refine LeO.bind ?_ (fun _ => ?_)
theorem impl_SafeActs.mono : ∀ a0 a1 a2 a3 a4 a5 k, LeO (impl_SafeActs.f k a0 a1 a2 a3 a4 a5) (impl_SafeActs.f (k + 1) a0 a1 a2 a3 a4 a5) := by
 intro a0 a1 a2 a3 a4 a5 k
 obtain ⟨ih0, ih1⟩ := impl_SafeActs.mono_l k
 unfold impl_SafeActs.f
 repeat' first
   | (with_reducible exact LeO.refl _)
   | exact ih0 _ _ _ _ _ _ _
   | exact ih1 _ _ _ _ _ _ _ _ _
   | exact impl_isState.mono _ _ _ _ _
   | exact impl_mayAct.mono _ _ _ _ _ _ _ _
   | exact impl_stateNumber.mono _ _
   | exact slices_Contains_int_int.mono _ _ _
   | exact LeO.none _
   | refine LeO.ite ?_ ?_
   | refine LeO.bind ?_ (fun _ => ?_)
set_option maxHeartbeats 8000000 in
set_option maxRecDepth 100000 in
theorem impl_SafeActs.calls (k : Nat) (a0_0 : Int) (A0_1 : Option Addr) (c0_1 : Nat) (l0_1 : List Int) (A0_2 : Option Addr) (c0_2 : Nat) (l0_2 : List (List (S86))) (A1 : Option Addr) (c1 : Nat) (l1 : List Int) (A2 : Option Addr) (c2 : Nat) (l2 : List Int) (A3 : Option Addr) (c3 : Nat) (l3 : List (S53)) (r : List (S53)) (w : World) (hr0_1 : Kd.C (Kd.int .i64) w A0_1 l0_1.length l0_1) (hc0_1 : l0_1.length ≤ c0_1) (hr0_2 : Kd.C (Kd.slice 86 k86) w A0_2 l0_2.length l0_2) (hc0_2 : l0_2.length ≤ c0_2) (hr1 : Kd.C (Kd.int .i64) w A1 l1.length l1) (hc1 : l1.length ≤ c1) (hr2 : Kd.C (Kd.int .i64) w A2 l2.length l2) (hc2 : l2.length ≤ c2) (hr3 : Kd.C k53 w A3 l3.length l3) (hc3 : l3.length ≤ c3) (h : impl_SafeActs.f k a0_0 l0_1 l0_2 l1 l2 l3 = some r) :
  Calls Try.prog 42 #[.agg #[.int .i64 a0_0, .slice A0_1 l0_1.length c0_1, .slice A0_2 l0_2.length c0_2], .slice A1 l1.length c1, .slice A2 l2.length c2, .slice A3 l3.length c3] w fun e w' => ∃ v0_ : Value, e = .returned (v0_) ∧ Kd.R k53 53 w' w.heap.size (fun _ => True) v0_ r ∧ Below w.heap.size w w' := by
 have hu35 := Try.underlying35
 have hu53 := Try.underlying53
 have HR0_1 := Aside0.mk hr0_1
 have HC0_1 := Aside0.mk hc0_1
 clear hr0_1 hc0_1
 have HR0_2 := Aside0.mk hr0_2
 have HC0_2 := Aside0.mk hc0_2
 clear hr0_2 hc0_2
 have HR1 := Aside0.mk hr1
 have HC1 := Aside0.mk hc1
 clear hr1 hc1
 have HR2 := Aside0.mk hr2
 have HC2 := Aside0.mk hc2
 clear hr2 hc2
 have HR3 := Aside0.mk hr3
 have HC3 := Aside0.mk hc3
 clear hr3 hc3
 have HB := Aside0.mk (Below.refl w.heap.size w)
 have H := h
 clear h
 unfold impl_SafeActs.f at H
 have HC5 := Aside0.mk H
 clear H
 go_enter Try.func42, Try.ntmps42
 go_upto_region 1 with (((with_reducible refine gate_dst (N := 4) rfl ?_); (try (refine gate_guard (by rfl) ?_; dsimp only)); refine Z.bx #[.int .i64 a0_0, .slice A0_1 l0_1.length c0_1, .slice A0_2 l0_2.length c0_2] 35 HB ?_; clear HB; intro gb887 w6 BK887 GE887 HB hg hb; have GW887 := GE887; clear hb hg))
 go_cut [32] (fun v32 wc => ∃ (kq : Nat) (x32_4 : Bool), v32 = .bool x32_4 ∧ Aside0 (impl_SafeActs.j0 kq l1 l2 l3 x32_4 a0_0 l0_1 l0_2 = some r) ∧ Aside0 (kq ≤ k) ∧ Aside0 (wc.heap[gb887]? = some (.cells #[.int .i64 a0_0, (.slice A0_1 l0_1.length c0_1), (.slice A0_2 l0_2.length c0_2)] 35 (0, 0))) ∧ Aside0 (Below w.heap.size w wc))
 case first =>
  have H := HC5.out
  clear HC5
  replace H := Option.bind_eq_some_iff.mp H
  obtain ⟨t888, A70, H⟩ := H
  have A7 := Aside0.mk A70
  clear A70
  by_cases c8 : t888 = true
  ·subst c8
   rw [if_pos rfl] at H
   replace H := Option.bind_eq_some_iff.mp H
   obtain ⟨t889, A90, H⟩ := H
   have A9 := Aside0.mk A90
   clear A90
   by_cases c10 : t889 = true
   ·subst c10
    rw [if_pos rfl] at H
    by_cases c11 : (l3.length : Int) > 12
    ·rw [if_pos c11] at H
     have c11b0 : decide (12 < (l3.length : Int)) = true := decide_eq_true c11
     have c11b1 : decide (12 < l3.length) = true := decide_eq_true (by omega)
     clear c11
     have H' := Aside0.mk H
     clear H
     have hcz12 := Z.c3 BK887.out
     go_wp2_with (first | ((with_reducible refine gate_callee (f := 65) rfl ?_); refine goesL_ (some 15) rfl rfl Try.func65 (by kernel_rfl) rfl #[.agg #[.int .i64 a0_0, .slice A0_1 l0_1.length c0_1, .slice A0_2 l0_2.length c0_2], .slice A1 l1.length c1] rfl Z.ar ?_; (with_reducible refine (impl_isState.calls k a0_0 _ _ l0_1 _ _ l0_2 _ _ l1 true _ ?q1 ?q2 ?q3 ?q4 ?q5 ?q6 A7.out).mono ?_); (case q1 => exact Z.cc HR0_1 HB); (case q2 => exact HC0_1.out); (case q3 => exact Z.cc HR0_2 HB); (case q4 => exact HC0_2.out); (case q5 => exact Z.cc HR1 HB); (case q6 => exact HC1.out); rintro e w13 ⟨rfl, hb⟩; refine ⟨_, rfl, ?_⟩; replace BK887 := Z.bb BK887 hb; replace HB := Z.st (Z.bs HB.out GE887.out) hb; (try clear hb)) | (go_at_call 81; (with_reducible refine (impl_areBad.calls _ _ l2 true _ ?q1 ?q2 A9.out).mono ?_); (case q1 => exact Z.cc HR2 HB); (case q2 => exact HC2.out); rintro e w14 ⟨rfl, hb⟩; replace BK887 := Z.bb BK887 hb; replace HB := Z.st (Z.bs HB.out GE887.out) hb; (try clear hb)))
     go_meet
     case rel => exact ⟨_, (true), (by rfl), H', ⟨by omega⟩, ⟨by (with_reducible skip); exact BK887.out⟩, ⟨Z.bs HB.out GE887.out⟩⟩
    ·rw [if_neg c11] at H
     have c11b0 : decide (12 < (l3.length : Int)) = false := decide_eq_false c11
     have c11b1 : decide (12 < l3.length) = false := decide_eq_false (by omega)
     clear c11
     replace H := Option.bind_eq_some_iff.mp H
     obtain ⟨t890, A150, H⟩ := H
     have A15 := Aside0.mk A150
     clear A150
     replace H := Option.bind_eq_some_iff.mp H
     obtain ⟨t891, A160, H⟩ := H
     have A16 := Aside0.mk A160
     clear A160
     have H' := Aside0.mk H
     clear H
     have hcz17 := Z.c3 BK887.out
     go_wp2_with (first | ((with_reducible refine gate_callee (f := 65) rfl ?_); refine goesL_ (some 15) rfl rfl Try.func65 (by kernel_rfl) rfl #[.agg #[.int .i64 a0_0, .slice A0_1 l0_1.length c0_1, .slice A0_2 l0_2.length c0_2], .slice A1 l1.length c1] rfl Z.ar ?_; (with_reducible refine (impl_isState.calls k a0_0 _ _ l0_1 _ _ l0_2 _ _ l1 true _ ?q1 ?q2 ?q3 ?q4 ?q5 ?q6 A7.out).mono ?_); (case q1 => exact Z.cc HR0_1 HB); (case q2 => exact HC0_1.out); (case q3 => exact Z.cc HR0_2 HB); (case q4 => exact HC0_2.out); (case q5 => exact Z.cc HR1 HB); (case q6 => exact HC1.out); rintro e w18 ⟨rfl, hb⟩; refine ⟨_, rfl, ?_⟩; replace BK887 := Z.bb BK887 hb; replace HB := Z.st (Z.bs HB.out GE887.out) hb; (try clear hb)) | (go_at_call 81; (with_reducible refine (impl_areBad.calls _ _ l2 true _ ?q1 ?q2 A9.out).mono ?_); (case q1 => exact Z.cc HR2 HB); (case q2 => exact HC2.out); rintro e w19 ⟨rfl, hb⟩; replace BK887 := Z.bb BK887 hb; replace HB := Z.st (Z.bs HB.out GE887.out) hb; (try clear hb)) | (go_at_call 83; (with_reducible refine (impl_stateNumber.calls k _ _ l1 t890 _ ?q1 ?q2 A15.out).mono ?_); (case q1 => exact Z.cc HR1 HB); (case q2 => exact HC1.out); rintro e w' ⟨rfl, ⟨nd, rfl⟩⟩) | (go_at_call 82; (with_reducible refine (slices_Contains_int_int.calls k _ _ l2 t890 t891 _ ?q1 ?q2 A16.out).mono ?_); (case q1 => repeat (exact (Kd.C_below HR2.out (Z.bs HB.out GE887.out)))); (case q2 => exact HC2.out); rintro e w' ⟨rfl, ⟨nd, rfl⟩⟩))
     go_meet
     case rel => exact ⟨_, (t891), (by rfl), H', ⟨by omega⟩, ⟨by (with_reducible repeat (refine blk_drewN ?_ _)); exact BK887.out⟩, ⟨Z.bs HB.out GE887.out⟩⟩
   ·replace c10 := Bool.eq_false_iff.mpr c10
    subst c10
    rw [if_neg (show ¬ (false = true) by decide)] at H
    have H' := Aside0.mk H
    clear H
    have hcz20 := Z.c3 BK887.out
    go_wp2_with (first | ((with_reducible refine gate_callee (f := 65) rfl ?_); refine goesL_ (some 15) rfl rfl Try.func65 (by kernel_rfl) rfl #[.agg #[.int .i64 a0_0, .slice A0_1 l0_1.length c0_1, .slice A0_2 l0_2.length c0_2], .slice A1 l1.length c1] rfl Z.ar ?_; (with_reducible refine (impl_isState.calls k a0_0 _ _ l0_1 _ _ l0_2 _ _ l1 true _ ?q1 ?q2 ?q3 ?q4 ?q5 ?q6 A7.out).mono ?_); (case q1 => exact Z.cc HR0_1 HB); (case q2 => exact HC0_1.out); (case q3 => exact Z.cc HR0_2 HB); (case q4 => exact HC0_2.out); (case q5 => exact Z.cc HR1 HB); (case q6 => exact HC1.out); rintro e w21 ⟨rfl, hb⟩; refine ⟨_, rfl, ?_⟩; replace BK887 := Z.bb BK887 hb; replace HB := Z.st (Z.bs HB.out GE887.out) hb; (try clear hb)) | (go_at_call 81; (with_reducible refine (impl_areBad.calls _ _ l2 false _ ?q1 ?q2 A9.out).mono ?_); (case q1 => exact Z.cc HR2 HB); (case q2 => exact HC2.out); rintro e w22 ⟨rfl, hb⟩; replace BK887 := Z.bb BK887 hb; replace HB := Z.st (Z.bs HB.out GE887.out) hb; (try clear hb)))
    go_meet
    case rel => exact ⟨_, (true), (by rfl), H', ⟨by omega⟩, ⟨by (with_reducible skip); exact BK887.out⟩, ⟨Z.bs HB.out GE887.out⟩⟩
  ·replace c8 := Bool.eq_false_iff.mpr c8
   subst c8
   rw [if_neg (show ¬ (false = true) by decide)] at H
   have H' := Aside0.mk H
   clear H
   have hcz23 := Z.c3 BK887.out
   go_wp2_with (((with_reducible refine gate_callee (f := 65) rfl ?_); refine goesL_ (some 15) rfl rfl Try.func65 (by kernel_rfl) rfl #[.agg #[.int .i64 a0_0, .slice A0_1 l0_1.length c0_1, .slice A0_2 l0_2.length c0_2], .slice A1 l1.length c1] rfl Z.ar ?_; (with_reducible refine (impl_isState.calls k a0_0 _ _ l0_1 _ _ l0_2 _ _ l1 false _ ?q1 ?q2 ?q3 ?q4 ?q5 ?q6 A7.out).mono ?_); (case q1 => exact Z.cc HR0_1 HB); (case q2 => exact HC0_1.out); (case q3 => exact Z.cc HR0_2 HB); (case q4 => exact HC0_2.out); (case q5 => exact Z.cc HR1 HB); (case q6 => exact HC1.out); rintro e w24 ⟨rfl, hb⟩; refine ⟨_, rfl, ?_⟩; replace BK887 := Z.bb BK887 hb; replace HB := Z.st (Z.bs HB.out GE887.out) hb; (try clear hb)))
   go_meet
   case rel => exact ⟨_, (true), (by rfl), H', ⟨by omega⟩, ⟨by (with_reducible skip); exact BK887.out⟩, ⟨Z.bs HB.out GE887.out⟩⟩
 case rest =>
  clear HC5
  obtain ⟨kq, x32_4, rfl, HA, HJ4, BK887, HB⟩ := hcut
  cases kq with
  | zero => exact absurd HA.out (by simp [impl_SafeActs.j0])
  | succ kj4 =>
   have H := HA.out
   clear HA
   simp only [impl_SafeActs.j0] at H
   by_cases c25 : x32_4 = true
   ·subst c25
    rw [if_pos rfl] at H
    obtain rfl := Option.some.inj H
    go_wp2
    go_ret
    exact ⟨_, by rfl, by exact Kd.R_nil _ _ _ _ _, Z.bs HB.out GE887.out⟩
   ·replace c25 := Bool.eq_false_iff.mpr c25
    subst c25
    rw [if_neg (show ¬ (false = true) by decide)] at H
    obtain ⟨y892, hy892⟩ : ∃ y_ : List Int, y_ = (([] : List Int)) := ⟨_, rfl⟩
    replace H : (if y892.length + l1.length < 17592186044416 then (impl_SafeActs.l0 kj4 l2 (y892 ++ l1) (([] : List (S53))) l3 (l3.length : Int) 0 a0_0 l0_1 l0_2) else (none)) = some r := by (have H2_ := (Option.bind_some _ _).symm.trans H; rw [hy892]; with_reducible exact H2_)
    have Ny892 := Aside0.mk hy892
    clear hy892
    obtain ⟨c26, H⟩ := Z.ifp H
    have LMc26 := Aside0.mk c26
    clear c26
    obtain ⟨y895, hy895⟩ : ∃ y_ : List Int, y_ = (y892 ++ l1) := ⟨_, rfl⟩
    replace H : (impl_SafeActs.l0 kj4 l2 y895 (([] : List (S53))) l3 (l3.length : Int) 0 a0_0 l0_1 l0_2) = some r := by (rw [hy895]; with_reducible exact H)
    have Ny895 := Aside0.mk hy895
    clear hy895
    obtain ⟨y898, hy898⟩ : ∃ y_ : List (S53), y_ = (([] : List (S53))) := ⟨_, rfl⟩
    replace H : (impl_SafeActs.l0 kj4 l2 y895 y898 l3 (l3.length : Int) 0 a0_0 l0_1 l0_2) = some r := by (rw [hy898]; with_reducible exact H)
    have Ny898 := Aside0.mk hy898
    clear hy898
    have H' := Aside0.mk H
    clear H
    go_wp2_with (first | ((with_reducible refine gate_dst (N := 33) rfl ?_); (try (refine gate_guard (by rfl) ?_; dsimp only)); refine Kd.R_lit (Kd.int .i64) _ 3 ?hg (N := 33) ?hd (xs := ([] : List Int)) (inner := []) (ok := fun _ => True) (okp := fun _ => True) ?hr ?hp (fun _ hk => hk) trivial (Below.refl _ _) (Nat.le_refl _) (by simp) ?_; (case hd | hg => rfl); (case hr => (go_simp; done)); (case hp => exact (Reps.none _ _)); intro v893 w27 ho28 hb hg_ hnew_; clear hg_ hnew_; (rw [← Ny892.out] at ho28); have HO894 := Aside0.mk (Kd.R_lower ho28 (below_size (Z.bs HB.out GE887.out))); replace BK887 := Z.bb BK887 hb; replace HB := Z.st (Z.bs HB.out GE887.out) hb; clear hb ho28) | ((with_reducible refine gate_builtin (b := .append) (xs := #[.tmp 33, .tmp 34]) rfl ?_); (try (refine gate_guard (by rfl) ?_; dsimp only)); at_builtin; refine Kd.R_append_rows (Kd.int .i64) (w0 := w) w.heap.size rfl (.tmp 33) (.tmp 34) 22 3 (.int .i64 0) 8 rfl Try.underlying22 info3 rfl (by decide) (by omega) v893 y892 l1 _ _ _ (fun _ => True) (fun _ => False) rfl rfl ?aO ?aR (fun _ _ h => h) (fun _ h => h.elim) ?aF ?aB ?aS ?aL ?_; (case aR => exact Z.cc HR1 HB); (case aB => exact (Z.bs HB.out GE887.out)); (case aF => exact (fun _ _ => trivial)); (case aO => exact (by (with_reducible skip); exact HO894.out)); (case aS => exact (below_size (Z.bs HB.out GE887.out))); (case aL => have := LMc26.out; omega); intro v896 w29 ho hb hg hat; rw [← Ny895.out] at ho; replace BK887 := Aside0.mk (blk_grown (g := gb887) (o := .cells #[.int .i64 a0_0, .slice A0_1 l0_1.length c0_1, .slice A0_2 l0_2.length c0_2] 35 (0, 0)) (Z.bk BK887.out) hg (Kd.R_ne HO894.out BK887.out (by decide))); replace HB := Aside0.mk (hb); have HO897 := Aside0.mk (ho); clear HO894; clear ho hb hg hat) | ((with_reducible refine gate_dst (N := 36) rfl ?_); (try (refine gate_guard (by rfl) ?_; dsimp only)); refine Kd.R_lit k53 _ 53 ?hg (N := 36) ?hd (xs := ([] : List (S53))) (inner := []) (ok := fun _ => True) (okp := fun _ => True) ?hr ?hp (fun _ hk => hk) trivial (Below.refl _ _) (Nat.le_refl _) (by simp) ?_; (case hd | hg => rfl); (case hr => (go_simp; done)); (case hp => exact (Reps.none _ _)); intro v899 w30 ho31 hb hg_ hnew_; clear hg_ hnew_; (rw [← Ny898.out] at ho31); replace HO897 := Aside0.mk (Kd.R_below (by (with_reducible skip); exact HO897.out) hb); have HO900 := Aside0.mk (Kd.R_lower ho31 (below_size (Z.bs HB.out GE887.out))); replace BK887 := Z.bb BK887 hb; replace HB := Z.st (Z.bs HB.out GE887.out) hb; clear hb ho31))
    go_loopg [10, 39] kj4 (fun kq v10 v39 w' => ∃ (x9_2 : List Int) (x10_2 : List (S53)) (x39_2 : Int), v39 = .int .i64 x39_2 ∧ Aside0 (impl_SafeActs.l0 kq l2 x9_2 x10_2 l3 (l3.length : Int) x39_2 a0_0 l0_1 l0_2 = some r) ∧ Aside0 (kq ≤ kj4) ∧ Aside0 (Kd.R (Kd.int .i64) 3 w' w.heap.size (fun _ => True) v896 x9_2) ∧ Aside0 (Kd.R k53 53 w' w.heap.size (fun _ => True) v10 x10_2) ∧ Aside0 (w'.heap[gb887]? = some (.cells #[.int .i64 a0_0, (.slice A0_1 l0_1.length c0_1), (.slice A0_2 l0_2.length c0_2)] 35 (0, 0))) ∧ Aside0 (Below w.heap.size w w'))
    case atStart => exact ⟨(y895), (y898), (0), (by rfl), H', ⟨Nat.le_refl _⟩, ⟨by (with_reducible skip); exact HO897.out⟩, ⟨by (with_reducible skip); exact HO900.out⟩, ⟨by (with_reducible skip); exact BK887.out⟩, ⟨Z.bs HB.out GE887.out⟩⟩
    case round =>
     clear H'
     obtain ⟨x9_2, x10_2, x39_2, rfl, HA, HK2, HO_9, HO_10, BK887, HB⟩ := hrel
     cases gk with
     | zero => exact absurd HA.out (by simp [impl_SafeActs.l0])
     | succ k2 =>
      have H := HA.out
      clear HA
      simp only [impl_SafeActs.l0] at H
      by_cases c32 : x39_2 < (l3.length : Int)
      ·rw [if_pos c32] at H
       have c32b0 := decide_eq_true c32
       clear c32
       obtain ⟨c33, H⟩ := Z.ifp H
       have c33b0 : decide (0 ≤ x39_2) = true := decide_eq_true c33
       clear c33
       obtain ⟨c34, H⟩ := Z.ifp H
       have c34b0 : decide (x39_2 < (l3.length : Int)) = true := decide_eq_true c34
       clear c34
       replace H := Option.bind_eq_some_iff.mp H
       obtain ⟨t903, A350, H⟩ := H
       have A35 := Aside0.mk A350
       clear A350
       by_cases c36 : t903 = true
       ·subst c36
        rw [if_pos rfl] at H
        replace H := Option.bind_eq_some_iff.mp H
        obtain ⟨t904, A370, H⟩ := H
        have A37 := Aside0.mk A370
        clear A370
        replace H := Option.bind_eq_some_iff.mp H
        obtain ⟨t907, A380, H⟩ := H
        have A38 := Aside0.mk A380
        clear A380
        replace H := Option.bind_eq_some_iff.mp H
        obtain ⟨t908, A390, H⟩ := H
        have A39 := Aside0.mk A390
        clear A390
        by_cases c40 : t908 = true
        ·subst c40
         rw [if_pos rfl] at H
         have H' := Aside0.mk H
         clear H
         have p901 : 0 ≤ (x39_2 : Int) := Z.od
         have q901 : x39_2 < (l3.length : Int) := Z.od
         obtain ⟨ad901, rfl, hx901_0, hx901_1, hx901_2⟩ := at_T53 HR3.out x39_2 p901 q901
         replace hx901_0 := Z.up HB.out hx901_0
         replace hx901_1 := Z.up HB.out hx901_1
         replace hx901_2 := Z.up HB.out hx901_2
         replace p901 := eq_true p901
         replace q901 := eq_true q901
         go_wp2_with (first | ((with_reducible refine gate_dst (N := 12) rfl ?_); (try (refine gate_guard (by rfl) ?_; dsimp only)); refine Z.bz #[.int .i64 0, .int .i64 0, .int .i64 0] 53 HB GE887 ?_; clear HB; intro gb902 w41 BK902 GE902 HB hg hb; have GW902 := GE902; replace HO_9 := Aside0.mk (Kd.R_below (by (with_reducible skip); exact HO_9.out) hb); replace HO_10 := Aside0.mk (Kd.R_below (Kd.R_elderB (by (with_reducible skip); exact HO_10.out) gb902 (Nat.le_of_eq hg.symm)) hb); have NB887_902 := Z.nl hg BK887; have NB902_887 := Z.ng hg BK887; replace BK887 := Z.bb BK887 hb; clear hb hg; have hnb42 := NB902_887.out; have hnc42 := NB887_902.out; have hcz43 := Z.c3 BK902.out; have hcz44 := Z.c3 BK887.out; obtain ⟨Ao45, co45, eo45⟩ := Kd.R_slice HO_9.out; subst eo45) | ((with_reducible refine gate_callee (f := 66) rfl ?_); refine goesL_ (some 46) rfl rfl Try.func66 (by kernel_rfl) rfl #[.agg #[.int .i64 a0_0, .slice A0_1 l0_1.length c0_1, .slice A0_2 l0_2.length c0_2], .slice Ao45 x9_2.length co45, .agg #[.int .i64 ((rd_T53 l3 x39_2).f0), .int .i64 ((rd_T53 l3 x39_2).f1), .int .i64 ((rd_T53 l3 x39_2).f2)]] rfl Z.ar ?_; (with_reducible refine (impl_mayAct.calls k2 a0_0 _ _ l0_1 _ _ l0_2 _ _ x9_2 ((rd_T53 l3 x39_2).f0) ((rd_T53 l3 x39_2).f1) ((rd_T53 l3 x39_2).f2) true _ ?q1 ?q2 ?q3 ?q4 ?q5 ?q6 A35.out).mono ?_); (case q1 => exact Kd.C_below HR0_1.out (by repeat ((with_reducible first | exact HB.out | refine below_set ?_ GE902.out)))); (case q2 => exact HC0_1.out); (case q3 => exact Kd.C_below HR0_2.out (by repeat ((with_reducible first | exact HB.out | refine below_set ?_ GE902.out)))); (case q4 => exact HC0_2.out); (case q5 => refine (Kd.R_reads' (e := 3) (base := w.heap.size) (ok := fun k_ => True) (n := x9_2.length) (c := co45) ?_).2.2; exact (by (with_reducible skip); exact (Kd.R_mono (Kd.R_far (p := ⟨gb902, 2, none⟩) (Kd.R_far (p := ⟨gb902, 1, none⟩) (Kd.R_far (p := ⟨gb902, 0, none⟩) (Kd.R_types HO_9.out BK902.out (by decide)) (fun _ hk => hk.2) (.int .i64 ((rd_T53 l3 x39_2).f0))) (fun _ hk => hk.2) (.int .i64 ((rd_T53 l3 x39_2).f1))) (fun _ hk => hk.2) (.int .i64 ((rd_T53 l3 x39_2).f2))) (fun _ h_ => h_.1)))); (case q6 => exact (Kd.R_reads' HO_9.out).2.1); rintro e w46 ⟨rfl, hb⟩; refine ⟨_, rfl, ?_⟩; replace HO_9 := Aside0.mk (Kd.R_below (by (with_reducible skip); exact (Kd.R_mono (Kd.R_far (p := ⟨gb902, 2, none⟩) (Kd.R_far (p := ⟨gb902, 1, none⟩) (Kd.R_far (p := ⟨gb902, 0, none⟩) (Kd.R_types HO_9.out BK902.out (by decide)) (fun _ hk => hk.2) (.int .i64 ((rd_T53 l3 x39_2).f0))) (fun _ hk => hk.2) (.int .i64 ((rd_T53 l3 x39_2).f1))) (fun _ hk => hk.2) (.int .i64 ((rd_T53 l3 x39_2).f2))) (fun _ h_ => h_.1))) hb); replace HO_10 := Aside0.mk (Kd.R_below (by (with_reducible skip); exact (Kd.R_mono (Kd.R_far (p := ⟨gb902, 2, none⟩) (Kd.R_far (p := ⟨gb902, 1, none⟩) (Kd.R_far (p := ⟨gb902, 0, none⟩) (Kd.R_mono HO_10.out (fun k_ hk => (⟨hk, hk.2⟩ : _ ∧ k_ ≠ gb902))) (fun _ hk => hk.2) (.int .i64 ((rd_T53 l3 x39_2).f0))) (fun _ hk => hk.2) (.int .i64 ((rd_T53 l3 x39_2).f1))) (fun _ hk => hk.2) (.int .i64 ((rd_T53 l3 x39_2).f2))) (fun _ h_ => h_.1))) hb); replace BK887 := Aside0.mk (blk_below (g := gb887) (o := .cells #[.int .i64 a0_0, .slice A0_1 l0_1.length c0_1, .slice A0_2 l0_2.length c0_2] 35 (0, 0)) (by (with_reducible skip); refine blk_far ?_ NB887_902.out _; (with_reducible skip); refine blk_far ?_ NB887_902.out _; (with_reducible skip); refine blk_far ?_ NB887_902.out _; (with_reducible skip); exact BK887.out) hb); replace BK902 := Aside0.mk (blk_below (g := gb902) (o := .cells #[.int .i64 ((rd_T53 l3 x39_2).f0), .int .i64 ((rd_T53 l3 x39_2).f1), .int .i64 ((rd_T53 l3 x39_2).f2)] 53 (0, 0)) (by (with_reducible skip); refine blk_put (cs := #[.int .i64 ((rd_T53 l3 x39_2).f0), .int .i64 ((rd_T53 l3 x39_2).f1), .int .i64 0]) ?_ 2 _ rfl; (with_reducible skip); refine blk_put (cs := #[.int .i64 ((rd_T53 l3 x39_2).f0), .int .i64 0, .int .i64 0]) ?_ 1 _ rfl; (with_reducible skip); refine blk_put (cs := #[.int .i64 0, .int .i64 0, .int .i64 0]) ?_ 0 _ rfl; (with_reducible skip); exact BK902.out) hb); replace HB := Aside0.mk (below_step (by repeat ((with_reducible first | exact HB.out | refine below_set ?_ GE902.out))) hb); (try clear hb); have hcz47 := Z.c3 BK902.out) | (go_at_call 84; (with_reducible refine (impl_changed.calls _ _ x9_2 ((rd_T53 l3 x39_2).f0) ((rd_T53 l3 x39_2).f1) t904 _ ?q1 ?q2 A37.out).mono ?_); (case q1 => repeat (exact (Kd.R_reads' HO_9.out).2.2)); (case q2 => exact (Kd.R_reads' HO_9.out).2.1); rintro e w48 ⟨v905, rfl, ho0, hb⟩; replace HO_10 := Aside0.mk (Kd.R_below (by (with_reducible skip); exact HO_10.out) hb); have HO906 := Aside0.mk (Kd.R_lower (Kd.R_new' ho0 (Kd.R_lt (by (with_reducible skip); exact HO_9.out))) (below_size (by repeat ((with_reducible exact HB.out))))); replace HO_9 := Aside0.mk (Kd.R_elder' (by (with_reducible skip); exact HO_9.out) (Kd.R_base ho0) hb); replace BK887 := Z.bb BK887 hb; replace BK902 := Z.bb BK902 hb; replace HB := Aside0.mk (below_step (by repeat ((with_reducible exact HB.out))) hb); (try clear hb); (try clear ho0); obtain ⟨Ao49, co49, eo49⟩ := Kd.R_slice HO906.out; subst eo49) | (go_at_call 83; (with_reducible refine (impl_stateNumber.calls k2 _ _ t904 t907 _ ?q1 ?q2 A38.out).mono ?_); (case q1 => repeat (exact (Kd.R_reads' HO906.out).2.2)); (case q2 => exact (Kd.R_reads' HO906.out).2.1); rintro e w' ⟨rfl, ⟨nd, rfl⟩⟩) | (go_at_call 82; (with_reducible refine (slices_Contains_int_int.calls k2 _ _ l2 t907 true _ ?q1 ?q2 A39.out).mono ?_); (case q1 => repeat (exact (Kd.C_below HR2.out (by repeat ((with_reducible first | exact HB.out | apply pw_below_drewN)))))); (case q2 => exact HC2.out); rintro e w' ⟨rfl, ⟨nd, rfl⟩⟩))
         go_roundg k2
         case measure => have := HJ4.out; have := HK2.out; omega
         case rel => exact ⟨(x9_2), (x10_2), (wrap64 (x39_2 + 1)), (by rfl), H', ⟨by have := HJ4.out; have := HK2.out; omega⟩, ⟨by (with_reducible repeat (apply Kd.R_drewN)); exact Kd.R_mono HO_9.out (fun _ hk => trivial)⟩, ⟨by (with_reducible repeat (apply Kd.R_drewN)); exact Kd.R_mono HO_10.out (fun _ hk => trivial)⟩, ⟨by (with_reducible repeat (refine blk_drewN ?_ _)); exact BK887.out⟩, ⟨by repeat ((with_reducible first | exact HB.out | apply pw_below_drewN))⟩⟩
        ·replace c40 := Bool.eq_false_iff.mpr c40
         subst c40
         rw [if_neg (show ¬ (false = true) by decide)] at H
         obtain ⟨c50, H⟩ := Z.ifp H
         have c50b0 : decide (0 ≤ ((rd_T53 l3 x39_2).f0)) = true := decide_eq_true c50
         clear c50
         obtain ⟨c51, H⟩ := Z.ifp H
         have c51b0 : decide (((rd_T53 l3 x39_2).f0) < (x9_2.length : Int)) = true := decide_eq_true c51
         clear c51
         obtain ⟨y909, hy909⟩ : ∃ y_ : List Int, y_ = (x9_2.set (((rd_T53 l3 x39_2).f0) : Int).toNat ((rd_T53 l3 x39_2).f1)) := ⟨_, rfl⟩
         replace H : (if x10_2.length < 5864062014805 then (impl_SafeActs.l0 k2 l2 y909 (x10_2 ++ [(⟨(rd_T53 l3 x39_2).f0, (rd_T53 l3 x39_2).f1, (rd_T53 l3 x39_2).f2⟩ : S53)]) l3 (l3.length : Int) (wrap64 (x39_2 + 1)) a0_0 l0_1 l0_2) else (none)) = some r := by (rw [hy909]; with_reducible exact H)
         have Ny909 := Aside0.mk hy909
         clear hy909
         obtain ⟨c53, H⟩ := Z.ifp H
         have LMc53 := Aside0.mk c53
         clear c53
         obtain ⟨y910, hy910⟩ : ∃ y_ : List (S53), y_ = (x10_2 ++ [(⟨(rd_T53 l3 x39_2).f0, (rd_T53 l3 x39_2).f1, (rd_T53 l3 x39_2).f2⟩ : S53)]) := ⟨_, rfl⟩
         replace H : (impl_SafeActs.l0 k2 l2 y909 y910 l3 (l3.length : Int) (wrap64 (x39_2 + 1)) a0_0 l0_1 l0_2) = some r := by (rw [hy910]; with_reducible exact H)
         have Ny910 := Aside0.mk hy910
         clear hy910
         have H' := Aside0.mk H
         clear H
         have p901 : 0 ≤ (x39_2 : Int) := Z.od
         have q901 : x39_2 < (l3.length : Int) := Z.od
         obtain ⟨ad901, rfl, hx901_0, hx901_1, hx901_2⟩ := at_T53 HR3.out x39_2 p901 q901
         replace hx901_0 := Z.up HB.out hx901_0
         replace hx901_1 := Z.up HB.out hx901_1
         replace hx901_2 := Z.up HB.out hx901_2
         replace p901 := eq_true p901
         replace q901 := eq_true q901
         go_wp2_with (first | ((with_reducible refine gate_dst (N := 12) rfl ?_); (try (refine gate_guard (by rfl) ?_; dsimp only)); refine Z.bz #[.int .i64 0, .int .i64 0, .int .i64 0] 53 HB GE887 ?_; clear HB; intro gb902 w54 BK902 GE902 HB hg hb; have GW902 := GE902; replace HO_9 := Aside0.mk (Kd.R_below (by (with_reducible skip); exact HO_9.out) hb); replace HO_10 := Aside0.mk (Kd.R_below (Kd.R_elderB (by (with_reducible skip); exact HO_10.out) gb902 (Nat.le_of_eq hg.symm)) hb); have NB887_902 := Z.nl hg BK887; have NB902_887 := Z.ng hg BK887; replace BK887 := Z.bb BK887 hb; clear hb hg; have hnb55 := NB902_887.out; have hnc55 := NB887_902.out; have hcz56 := Z.c3 BK902.out; have hcz57 := Z.c3 BK887.out; obtain ⟨Ao58, co58, eo58⟩ := Kd.R_slice HO_9.out; subst eo58) | ((with_reducible refine gate_callee (f := 66) rfl ?_); refine goesL_ (some 46) rfl rfl Try.func66 (by kernel_rfl) rfl #[.agg #[.int .i64 a0_0, .slice A0_1 l0_1.length c0_1, .slice A0_2 l0_2.length c0_2], .slice Ao58 x9_2.length co58, .agg #[.int .i64 ((rd_T53 l3 x39_2).f0), .int .i64 ((rd_T53 l3 x39_2).f1), .int .i64 ((rd_T53 l3 x39_2).f2)]] rfl Z.ar ?_; (with_reducible refine (impl_mayAct.calls k2 a0_0 _ _ l0_1 _ _ l0_2 _ _ x9_2 ((rd_T53 l3 x39_2).f0) ((rd_T53 l3 x39_2).f1) ((rd_T53 l3 x39_2).f2) true _ ?q1 ?q2 ?q3 ?q4 ?q5 ?q6 A35.out).mono ?_); (case q1 => exact Kd.C_below HR0_1.out (by repeat ((with_reducible first | exact HB.out | refine below_set ?_ GE902.out)))); (case q2 => exact HC0_1.out); (case q3 => exact Kd.C_below HR0_2.out (by repeat ((with_reducible first | exact HB.out | refine below_set ?_ GE902.out)))); (case q4 => exact HC0_2.out); (case q5 => refine (Kd.R_reads' (e := 3) (base := w.heap.size) (ok := fun k_ => True) (n := x9_2.length) (c := co58) ?_).2.2; exact (by (with_reducible skip); exact (Kd.R_mono (Kd.R_far (p := ⟨gb902, 2, none⟩) (Kd.R_far (p := ⟨gb902, 1, none⟩) (Kd.R_far (p := ⟨gb902, 0, none⟩) (Kd.R_types HO_9.out BK902.out (by decide)) (fun _ hk => hk.2) (.int .i64 ((rd_T53 l3 x39_2).f0))) (fun _ hk => hk.2) (.int .i64 ((rd_T53 l3 x39_2).f1))) (fun _ hk => hk.2) (.int .i64 ((rd_T53 l3 x39_2).f2))) (fun _ h_ => h_.1)))); (case q6 => exact (Kd.R_reads' HO_9.out).2.1); rintro e w59 ⟨rfl, hb⟩; refine ⟨_, rfl, ?_⟩; replace HO_9 := Aside0.mk (Kd.R_below (by (with_reducible skip); exact (Kd.R_mono (Kd.R_far (p := ⟨gb902, 2, none⟩) (Kd.R_far (p := ⟨gb902, 1, none⟩) (Kd.R_far (p := ⟨gb902, 0, none⟩) (Kd.R_types HO_9.out BK902.out (by decide)) (fun _ hk => hk.2) (.int .i64 ((rd_T53 l3 x39_2).f0))) (fun _ hk => hk.2) (.int .i64 ((rd_T53 l3 x39_2).f1))) (fun _ hk => hk.2) (.int .i64 ((rd_T53 l3 x39_2).f2))) (fun _ h_ => h_.1))) hb); replace HO_10 := Aside0.mk (Kd.R_below (by (with_reducible skip); exact (Kd.R_mono (Kd.R_far (p := ⟨gb902, 2, none⟩) (Kd.R_far (p := ⟨gb902, 1, none⟩) (Kd.R_far (p := ⟨gb902, 0, none⟩) (Kd.R_mono HO_10.out (fun k_ hk => (⟨hk, hk.2⟩ : _ ∧ k_ ≠ gb902))) (fun _ hk => hk.2) (.int .i64 ((rd_T53 l3 x39_2).f0))) (fun _ hk => hk.2) (.int .i64 ((rd_T53 l3 x39_2).f1))) (fun _ hk => hk.2) (.int .i64 ((rd_T53 l3 x39_2).f2))) (fun _ h_ => h_.1))) hb); replace BK887 := Aside0.mk (blk_below (g := gb887) (o := .cells #[.int .i64 a0_0, .slice A0_1 l0_1.length c0_1, .slice A0_2 l0_2.length c0_2] 35 (0, 0)) (by (with_reducible skip); refine blk_far ?_ NB887_902.out _; (with_reducible skip); refine blk_far ?_ NB887_902.out _; (with_reducible skip); refine blk_far ?_ NB887_902.out _; (with_reducible skip); exact BK887.out) hb); replace BK902 := Aside0.mk (blk_below (g := gb902) (o := .cells #[.int .i64 ((rd_T53 l3 x39_2).f0), .int .i64 ((rd_T53 l3 x39_2).f1), .int .i64 ((rd_T53 l3 x39_2).f2)] 53 (0, 0)) (by (with_reducible skip); refine blk_put (cs := #[.int .i64 ((rd_T53 l3 x39_2).f0), .int .i64 ((rd_T53 l3 x39_2).f1), .int .i64 0]) ?_ 2 _ rfl; (with_reducible skip); refine blk_put (cs := #[.int .i64 ((rd_T53 l3 x39_2).f0), .int .i64 0, .int .i64 0]) ?_ 1 _ rfl; (with_reducible skip); refine blk_put (cs := #[.int .i64 0, .int .i64 0, .int .i64 0]) ?_ 0 _ rfl; (with_reducible skip); exact BK902.out) hb); replace HB := Aside0.mk (below_step (by repeat ((with_reducible first | exact HB.out | refine below_set ?_ GE902.out))) hb); (try clear hb); have hcz60 := Z.c3 BK902.out) | (go_at_call 84; (with_reducible refine (impl_changed.calls _ _ x9_2 ((rd_T53 l3 x39_2).f0) ((rd_T53 l3 x39_2).f1) t904 _ ?q1 ?q2 A37.out).mono ?_); (case q1 => repeat (exact (Kd.R_reads' HO_9.out).2.2)); (case q2 => exact (Kd.R_reads' HO_9.out).2.1); rintro e w61 ⟨v905, rfl, ho0, hb⟩; replace HO_10 := Aside0.mk (Kd.R_below (by (with_reducible skip); exact HO_10.out) hb); have HO906 := Aside0.mk (Kd.R_lower (Kd.R_new' ho0 (Kd.R_lt (by (with_reducible skip); exact HO_9.out))) (below_size (by repeat ((with_reducible exact HB.out))))); replace HO_9 := Aside0.mk (Kd.R_elder' (by (with_reducible skip); exact HO_9.out) (Kd.R_base ho0) hb); replace BK887 := Z.bb BK887 hb; replace BK902 := Z.bb BK902 hb; replace HB := Aside0.mk (below_step (by repeat ((with_reducible exact HB.out))) hb); (try clear hb); (try clear ho0); obtain ⟨Ao62, co62, eo62⟩ := Kd.R_slice HO906.out; subst eo62) | (go_at_call 83; (with_reducible refine (impl_stateNumber.calls k2 _ _ t904 t907 _ ?q1 ?q2 A38.out).mono ?_); (case q1 => repeat (exact (Kd.R_reads' HO906.out).2.2)); (case q2 => exact (Kd.R_reads' HO906.out).2.1); rintro e w' ⟨rfl, ⟨nd, rfl⟩⟩; (try (rw [drewN_self w61]; generalize hq_ : World.drewN w61 _ = w61; replace HO906 : Aside0 (Kd.R (Kd.int .i64) 3 w61 w.heap.size (fun k_ => some k_ ≠ (.slice Ao58 x9_2.length co58 : Value).ownBlock) (.slice Ao62 t904.length co62) t904) := ⟨by rw [← hq_]; exact (by (with_reducible repeat (apply Kd.R_drewN)); exact Kd.R_mono HO906.out (fun _ hk => hk.2))⟩; replace HO_10 : Aside0 (Kd.R k53 53 w61 w.heap.size (fun k_ => k_ ≠ gb902) u10 x10_2) := ⟨by rw [← hq_]; exact (by (with_reducible repeat (apply Kd.R_drewN)); exact Kd.R_mono HO_10.out (fun _ hk => hk.2))⟩; replace HO_9 : Aside0 (Kd.R (Kd.int .i64) 3 w61 w.heap.size (fun k_ => some k_ ≠ (.slice Ao62 t904.length co62 : Value).ownBlock) (.slice Ao58 x9_2.length co58) x9_2) := ⟨by rw [← hq_]; exact (by (with_reducible repeat (apply Kd.R_drewN)); exact Kd.R_mono HO_9.out (fun _ hk => hk.2))⟩; replace BK887 : Aside0 (w61.heap[gb887]? = some (.cells #[.int .i64 a0_0, .slice A0_1 l0_1.length c0_1, .slice A0_2 l0_2.length c0_2] 35 (0, 0))) := ⟨by rw [← hq_]; exact (Z.bk BK887.out)⟩; replace BK902 : Aside0 (w61.heap[gb902]? = some (.cells #[.int .i64 ((rd_T53 l3 x39_2).f0), .int .i64 ((rd_T53 l3 x39_2).f1), .int .i64 ((rd_T53 l3 x39_2).f2)] 53 (0, 0))) := ⟨by rw [← hq_]; exact (Z.bk BK902.out)⟩; replace HB : Aside0 (Below w.heap.size w w61) := ⟨by rw [← hq_]; exact (by repeat ((with_reducible first | exact HB.out | apply pw_below_drewN)))⟩; clear hq_))) | (go_at_call 82; (with_reducible refine (slices_Contains_int_int.calls k2 _ _ l2 t907 false _ ?q1 ?q2 A39.out).mono ?_); (case q1 => exact Z.cc HR2 HB); (case q2 => exact HC2.out); rintro e w' ⟨rfl, ⟨nd, rfl⟩⟩; (try (rw [drewN_self w61]; generalize hq_ : World.drewN w61 _ = w61; replace HO906 : Aside0 (Kd.R (Kd.int .i64) 3 w61 w.heap.size (fun k_ => some k_ ≠ (.slice Ao58 x9_2.length co58 : Value).ownBlock) (.slice Ao62 t904.length co62) t904) := ⟨by rw [← hq_]; exact (by (with_reducible repeat (apply Kd.R_drewN)); exact HO906.out)⟩; replace HO_10 : Aside0 (Kd.R k53 53 w61 w.heap.size (fun k_ => k_ ≠ gb902) u10 x10_2) := ⟨by rw [← hq_]; exact (by (with_reducible repeat (apply Kd.R_drewN)); exact HO_10.out)⟩; replace HO_9 : Aside0 (Kd.R (Kd.int .i64) 3 w61 w.heap.size (fun k_ => some k_ ≠ (.slice Ao62 t904.length co62 : Value).ownBlock) (.slice Ao58 x9_2.length co58) x9_2) := ⟨by rw [← hq_]; exact (by (with_reducible repeat (apply Kd.R_drewN)); exact HO_9.out)⟩; replace BK887 : Aside0 (w61.heap[gb887]? = some (.cells #[.int .i64 a0_0, .slice A0_1 l0_1.length c0_1, .slice A0_2 l0_2.length c0_2] 35 (0, 0))) := ⟨by rw [← hq_]; exact (Z.bk BK887.out)⟩; replace BK902 : Aside0 (w61.heap[gb902]? = some (.cells #[.int .i64 ((rd_T53 l3 x39_2).f0), .int .i64 ((rd_T53 l3 x39_2).f1), .int .i64 ((rd_T53 l3 x39_2).f2)] 53 (0, 0))) := ⟨by rw [← hq_]; exact (Z.bk BK902.out)⟩; replace HB : Aside0 (Below w.heap.size w w61) := ⟨by rw [← hq_]; exact (by repeat ((with_reducible first | exact HB.out | apply pw_below_drewN)))⟩; clear hq_)); have hcz63 := Z.c3 BK902.out; have p52 : 0 ≤ (((rd_T53 l3 x39_2).f0) : Int) := Z.od; have q52 : (((rd_T53 l3 x39_2).f0) : Int) < ((x9_2.length : Int) : Int) := Z.od; obtain ⟨go52, co52, eo52, gb52, gl52, cl52, HG52⟩ := Kd.R_form HO_9.out (by omega); (cases eo52); have GB52 := Aside0.mk gb52; have GG52 := Aside0.mk HG52; clear gb52 gl52 HG52; obtain ⟨hx52_0, hf52_0⟩ := Kd.R_celln 0 HO_9.out (((rd_T53 l3 x39_2).f0) : Int) p52 q52; replace p52 := eq_true p52; replace q52 := eq_true q52; have n_ := Aside0.mk (by exact HO_9.out); clear HO_9; have HO_9 := n_; clear n_; obtain ⟨hy64_, hz64_⟩ := Kd.R_celln 0 HO_9.out (((rd_T53 l3 x39_2).f0) : Int) (Z.od) (Z.od); have HP64 := Kd.R_putg HO_9.out (((rd_T53 l3 x39_2).f0) : Int) ((rd_T53 l3 x39_2).f1)) | ((with_reducible refine gate_store (t := 3) (p := 64) rfl ?_); refine store_event (t := 3) (p := 64) (v := ?vo_w65) (w1 := (w61.setCell ⟨go52, (((rd_T53 l3 x39_2).f0) : Int).toNat, none⟩ (.int .i64 ((rd_T53 l3 x39_2).f1)))) ?hg ?ho ?hn ?hr ?_; (case ho => rfl); (case hg => rfl); (case hn => rfl); (case hr => (go_simp; done)); intro w65 hw; have hg : w61.grownBy w65 (some go52) := (by rw [hw]; exact HP64.2); have hp_ : Kd.R (Kd.int .i64) 3 w65 w.heap.size (fun k_ => some k_ ≠ (.slice Ao62 t904.length co62 : Value).ownBlock) (.slice (some ⟨go52, 0, none⟩) x9_2.length co58) y909 := (by rw [hw, Ny909.out]; exact HP64.1); clear HP64; replace HO_10 := Aside0.mk (Kd.R_over' (v := (.slice (some ⟨go52, 0, none⟩) x9_2.length co58)) (by (with_reducible skip); exact HO_10.out) (Kd.R_typed HO_9.out) (by decide) hg); replace BK887 := Aside0.mk (blk_grown (g := gb887) (o := .cells #[.int .i64 a0_0, .slice A0_1 l0_1.length c0_1, .slice A0_2 l0_2.length c0_2] 35 (0, 0)) (Z.bk BK887.out) hg (Kd.R_ne HO_9.out BK887.out (by decide))); replace BK902 := Aside0.mk (blk_grown (g := gb902) (o := .cells #[.int .i64 ((rd_T53 l3 x39_2).f0), .int .i64 ((rd_T53 l3 x39_2).f1), .int .i64 ((rd_T53 l3 x39_2).f2)] 53 (0, 0)) (Z.bk BK902.out) hg (Kd.R_ne HO_9.out BK902.out (by decide))); replace HO_9 := Aside0.mk (hp_); replace HO906 := Aside0.mk (Kd.R_after (v := (.slice (some ⟨go52, 0, none⟩) x9_2.length co58)) (v1 := (.slice (some ⟨go52, 0, none⟩) x9_2.length co58)) (ok := (fun _ => True)) (by (with_reducible skip); exact Kd.R_mono HO906.out (fun _ h => ⟨trivial, h⟩)) hg (.inl rfl)); replace HB := Aside0.mk ((by rw [hw]; exact below_set (HB.out) GB52.out : Below w.heap.size w w65)); clear hg hw hp_; have hcz66 := Z.c3 BK902.out) | ((with_reducible refine gate_builtin (b := .append) (xs := #[.tmp 65, .tmp 67]) rfl ?_); (try (refine gate_guard (by rfl) ?_; dsimp only)); at_builtin; refine Kd.R_append k53 (w0 := w) w.heap.size rfl (.tmp 65) (.tmp 67) 38 53 (.agg #[(.int .i64 0), (.int .i64 0), (.int .i64 0)]) 24 rfl Try.underlying38 info53 rfl (by decide) (by omega) u10 x10_2 (⟨(rd_T53 l3 x39_2).f0, (rd_T53 l3 x39_2).f1, (rd_T53 l3 x39_2).f2⟩ : S53) [.int .i64 ((rd_T53 l3 x39_2).f0), .int .i64 ((rd_T53 l3 x39_2).f1), .int .i64 ((rd_T53 l3 x39_2).f2)] (fun k_ => k_ ≠ gb902) (fun _ => False) rfl rfl ?aP (fun _ hk => hk.elim) ?aF ?aO ?aB ?aS ?aL ?_; (case aP => exact k53_mkM _ _ _ (⟨(rd_T53 l3 x39_2).f0, (rd_T53 l3 x39_2).f1, (rd_T53 l3 x39_2).f2⟩ : S53)); (case aB => exact (by repeat ((with_reducible exact HB.out)))); (case aF => exact (fun k_ hk => Kd.freshB (g := gb902) (o := .cells #[.int .i64 ((rd_T53 l3 x39_2).f0), .int .i64 ((rd_T53 l3 x39_2).f1), .int .i64 ((rd_T53 l3 x39_2).f2)] 53 (0, 0)) (Z.bk BK902.out) k_ hk)); (case aO => exact (by (with_reducible skip); exact HO_10.out)); (case aS => exact (below_size (by repeat ((with_reducible exact HB.out))))); (case aL => have := LMc53.out; omega); intro v911 w67 ho hb hg hat; rw [← Ny910.out] at ho; replace HO_9 := Aside0.mk (Kd.R_over' (by (with_reducible skip); exact HO_9.out) (Kd.R_typed (by (with_reducible skip); exact HO_10.out)) (by decide) hg); replace BK887 := Aside0.mk (blk_grown (g := gb887) (o := .cells #[.int .i64 a0_0, .slice A0_1 l0_1.length c0_1, .slice A0_2 l0_2.length c0_2] 35 (0, 0)) (Z.bk BK887.out) hg (Kd.R_ne HO_10.out BK887.out (by decide))); replace BK902 := Aside0.mk (blk_grown (g := gb902) (o := .cells #[.int .i64 ((rd_T53 l3 x39_2).f0), .int .i64 ((rd_T53 l3 x39_2).f1), .int .i64 ((rd_T53 l3 x39_2).f2)] 53 (0, 0)) (Z.bk BK902.out) hg ((by exact Kd.R_away HO_10.out (fun _ hk => hk)))); replace HO906 := Aside0.mk (Kd.R_over' (by (with_reducible skip); exact HO906.out) (Kd.R_typed (by (with_reducible skip); exact HO_10.out)) (by decide) hg); replace HB := Aside0.mk (hb); have HO912 := Aside0.mk (ho); clear HO_10; clear ho hb hg hat))
         go_roundg k2
         case measure => have := HJ4.out; have := HK2.out; omega
         case rel => exact ⟨(y909), (y910), (wrap64 (x39_2 + 1)), (by rfl), H', ⟨by have := HJ4.out; have := HK2.out; omega⟩, ⟨by (with_reducible skip); exact Kd.R_mono HO_9.out (fun _ hk => trivial)⟩, ⟨by (with_reducible skip); exact Kd.R_mono HO912.out (fun _ hk => trivial)⟩, ⟨by (with_reducible skip); exact BK887.out⟩, ⟨by repeat ((with_reducible exact HB.out))⟩⟩
       ·replace c36 := Bool.eq_false_iff.mpr c36
        subst c36
        rw [if_neg (show ¬ (false = true) by decide)] at H
        have H' := Aside0.mk H
        clear H
        have p901 : 0 ≤ (x39_2 : Int) := Z.od
        have q901 : x39_2 < (l3.length : Int) := Z.od
        obtain ⟨ad901, rfl, hx901_0, hx901_1, hx901_2⟩ := at_T53 HR3.out x39_2 p901 q901
        replace hx901_0 := Z.up HB.out hx901_0
        replace hx901_1 := Z.up HB.out hx901_1
        replace hx901_2 := Z.up HB.out hx901_2
        replace p901 := eq_true p901
        replace q901 := eq_true q901
        go_wp2_with (first | ((with_reducible refine gate_dst (N := 12) rfl ?_); (try (refine gate_guard (by rfl) ?_; dsimp only)); refine Z.bz #[.int .i64 0, .int .i64 0, .int .i64 0] 53 HB GE887 ?_; clear HB; intro gb902 w68 BK902 GE902 HB hg hb; have GW902 := GE902; replace HO_9 := Aside0.mk (Kd.R_below (by (with_reducible skip); exact HO_9.out) hb); replace HO_10 := Aside0.mk (Kd.R_below (Kd.R_elderB (by (with_reducible skip); exact HO_10.out) gb902 (Nat.le_of_eq hg.symm)) hb); have NB887_902 := Z.nl hg BK887; have NB902_887 := Z.ng hg BK887; replace BK887 := Z.bb BK887 hb; clear hb hg; have hnb69 := NB902_887.out; have hnc69 := NB887_902.out; have hcz70 := Z.c3 BK902.out; have hcz71 := Z.c3 BK887.out; obtain ⟨Ao72, co72, eo72⟩ := Kd.R_slice HO_9.out; subst eo72) | ((with_reducible refine gate_callee (f := 66) rfl ?_); refine goesL_ (some 46) rfl rfl Try.func66 (by kernel_rfl) rfl #[.agg #[.int .i64 a0_0, .slice A0_1 l0_1.length c0_1, .slice A0_2 l0_2.length c0_2], .slice Ao72 x9_2.length co72, .agg #[.int .i64 ((rd_T53 l3 x39_2).f0), .int .i64 ((rd_T53 l3 x39_2).f1), .int .i64 ((rd_T53 l3 x39_2).f2)]] rfl Z.ar ?_; (with_reducible refine (impl_mayAct.calls k2 a0_0 _ _ l0_1 _ _ l0_2 _ _ x9_2 ((rd_T53 l3 x39_2).f0) ((rd_T53 l3 x39_2).f1) ((rd_T53 l3 x39_2).f2) false _ ?q1 ?q2 ?q3 ?q4 ?q5 ?q6 A35.out).mono ?_); (case q1 => exact Kd.C_below HR0_1.out (by repeat ((with_reducible first | exact HB.out | refine below_set ?_ GE902.out)))); (case q2 => exact HC0_1.out); (case q3 => exact Kd.C_below HR0_2.out (by repeat ((with_reducible first | exact HB.out | refine below_set ?_ GE902.out)))); (case q4 => exact HC0_2.out); (case q5 => refine (Kd.R_reads' (e := 3) (base := w.heap.size) (ok := fun k_ => True) (n := x9_2.length) (c := co72) ?_).2.2; exact (by (with_reducible skip); exact (Kd.R_mono (Kd.R_far (p := ⟨gb902, 2, none⟩) (Kd.R_far (p := ⟨gb902, 1, none⟩) (Kd.R_far (p := ⟨gb902, 0, none⟩) (Kd.R_types HO_9.out BK902.out (by decide)) (fun _ hk => hk.2) (.int .i64 ((rd_T53 l3 x39_2).f0))) (fun _ hk => hk.2) (.int .i64 ((rd_T53 l3 x39_2).f1))) (fun _ hk => hk.2) (.int .i64 ((rd_T53 l3 x39_2).f2))) (fun _ h_ => h_.1)))); (case q6 => exact (Kd.R_reads' HO_9.out).2.1); rintro e w73 ⟨rfl, hb⟩; refine ⟨_, rfl, ?_⟩; replace HO_9 := Aside0.mk (Kd.R_below (by (with_reducible skip); exact (Kd.R_mono (Kd.R_far (p := ⟨gb902, 2, none⟩) (Kd.R_far (p := ⟨gb902, 1, none⟩) (Kd.R_far (p := ⟨gb902, 0, none⟩) (Kd.R_types HO_9.out BK902.out (by decide)) (fun _ hk => hk.2) (.int .i64 ((rd_T53 l3 x39_2).f0))) (fun _ hk => hk.2) (.int .i64 ((rd_T53 l3 x39_2).f1))) (fun _ hk => hk.2) (.int .i64 ((rd_T53 l3 x39_2).f2))) (fun _ h_ => h_.1))) hb); replace HO_10 := Aside0.mk (Kd.R_below (by (with_reducible skip); exact (Kd.R_mono (Kd.R_far (p := ⟨gb902, 2, none⟩) (Kd.R_far (p := ⟨gb902, 1, none⟩) (Kd.R_far (p := ⟨gb902, 0, none⟩) (Kd.R_mono HO_10.out (fun k_ hk => (⟨hk, hk.2⟩ : _ ∧ k_ ≠ gb902))) (fun _ hk => hk.2) (.int .i64 ((rd_T53 l3 x39_2).f0))) (fun _ hk => hk.2) (.int .i64 ((rd_T53 l3 x39_2).f1))) (fun _ hk => hk.2) (.int .i64 ((rd_T53 l3 x39_2).f2))) (fun _ h_ => h_.1))) hb); replace BK887 := Aside0.mk (blk_below (g := gb887) (o := .cells #[.int .i64 a0_0, .slice A0_1 l0_1.length c0_1, .slice A0_2 l0_2.length c0_2] 35 (0, 0)) (by (with_reducible skip); refine blk_far ?_ NB887_902.out _; (with_reducible skip); refine blk_far ?_ NB887_902.out _; (with_reducible skip); refine blk_far ?_ NB887_902.out _; (with_reducible skip); exact BK887.out) hb); replace BK902 := Aside0.mk (blk_below (g := gb902) (o := .cells #[.int .i64 ((rd_T53 l3 x39_2).f0), .int .i64 ((rd_T53 l3 x39_2).f1), .int .i64 ((rd_T53 l3 x39_2).f2)] 53 (0, 0)) (by (with_reducible skip); refine blk_put (cs := #[.int .i64 ((rd_T53 l3 x39_2).f0), .int .i64 ((rd_T53 l3 x39_2).f1), .int .i64 0]) ?_ 2 _ rfl; (with_reducible skip); refine blk_put (cs := #[.int .i64 ((rd_T53 l3 x39_2).f0), .int .i64 0, .int .i64 0]) ?_ 1 _ rfl; (with_reducible skip); refine blk_put (cs := #[.int .i64 0, .int .i64 0, .int .i64 0]) ?_ 0 _ rfl; (with_reducible skip); exact BK902.out) hb); replace HB := Aside0.mk (below_step (by repeat ((with_reducible first | exact HB.out | refine below_set ?_ GE902.out))) hb); (try clear hb)))
        go_roundg k2
        case measure => have := HJ4.out; have := HK2.out; omega
        case rel => exact ⟨(x9_2), (x10_2), (wrap64 (x39_2 + 1)), (by rfl), H', ⟨by have := HJ4.out; have := HK2.out; omega⟩, ⟨by (with_reducible skip); exact HO_9.out⟩, ⟨by (with_reducible skip); exact Kd.R_mono HO_10.out (fun _ hk => trivial)⟩, ⟨by (with_reducible skip); exact BK887.out⟩, ⟨by repeat ((with_reducible exact HB.out))⟩⟩
      ·rw [if_neg c32] at H
       have c32b0 := decide_eq_false c32
       clear c32
       obtain rfl := Option.some.inj H
       go_wp2
       go_ret
       exact ⟨_, by rfl, by (with_reducible skip); exact HO_10.out, Z.bs HB.out GE887.out⟩

end Go.Proofs.Ytcafckapdgaogaa.PAll

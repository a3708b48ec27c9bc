/- Walks of functions that All reaches, in the form of the print. -/
-- PRINTED
import Derived.Test.YtenjngocdinfmaaCAll8
import Derived.Test.YtenjngocdinfmaaCAll9
namespace Go.Proofs.Ytenjngocdinfmaa.PAll
open Go.RowKit Go.Proofs.YtenjngocdinfmaaW.PrintWords Go.Proofs.YtenjngocdinfmaaW.PrintLast Go.Proofs.YtenjngocdinfmaaW.PrintMore
attribute [local go_sem] max2_int min2_int max_two min_two max_three min_three max_four min_four
set_option linter.unusedVariables false
set_option linter.unusedSimpArgs false

/-! ### impl_ConsentOk: function 17 -/
def impl_ConsentOk.f (k : Nat) (a0_0 : Int) (l0_1 : List Int) (l1 : List (S35)) (a2 : Int) : Option (Bool) := (impl_isTerm.f k a0_0 l0_1 l1).bind fun t357 => (if t357 = true then ((impl_isCrowd.f a0_0 a2).bind fun t358 => (if t358 = true then ((impl_consents.f k a0_0 l0_1 l1 a2).bind fun t359 => (some t359)) else (some false))) else (some false))
set_option maxHeartbeats 8000000 in
set_option maxRecDepth 100000 in
theorem impl_ConsentOk.calls (k : Nat) (a0_0 : Int) (A0_1 : Option Addr) (c0_1 : Nat) (l0_1 : List Int) (A1 : Option Addr) (c1 : Nat) (l1 : List (S35)) (a2 : Int) (r : Bool) (w : World) (hr0_1 : Kd.C (Kd.int .i64) w A0_1 l0_1.length l0_1) (hc0_1 : l0_1.length ≤ c0_1) (hr1 : Kd.C k35 w A1 l1.length l1) (hc1 : l1.length ≤ c1) (h : impl_ConsentOk.f k a0_0 l0_1 l1 a2 = some r) :
  Calls Try.prog 17 #[.agg #[.int .i64 a0_0, .slice A0_1 l0_1.length c0_1], .slice A1 l1.length c1, .int .i64 a2] w fun e w' => e = .returned (.bool r) ∧ Below w.heap.size w w' := by
 have hu25 := Try.underlying25
 have HR0_1 := Aside0.mk hr0_1
 have HC0_1 := Aside0.mk hc0_1
 clear hr0_1 hc0_1
 have HR1 := Aside0.mk hr1
 have HC1 := Aside0.mk hc1
 clear hr1 hc1
 have HB := Aside0.mk (Below.refl w.heap.size w)
 have H := h
 clear h
 unfold impl_ConsentOk.f at H
 replace H := Option.bind_eq_some_iff.mp H
 obtain ⟨t357, A40, H⟩ := H
 try dsimp only at H
 have A4 := Aside0.mk A40
 clear A40
 by_cases c5 : t357 = true
 ·subst c5
  rw [if_pos rfl] at H
  replace H := Option.bind_eq_some_iff.mp H
  obtain ⟨t358, A60, H⟩ := H
  try dsimp only at H
  have A6 := Aside0.mk A60
  clear A60
  by_cases c7 : t358 = true
  ·subst c7
   rw [if_pos rfl] at H
   replace H := Option.bind_eq_some_iff.mp H
   obtain ⟨t359, A80, H⟩ := H
   try dsimp only at H
   have A8 := Aside0.mk A80
   clear A80
   obtain rfl := Option.some.inj H
   go_enter Try.func17, Try.ntmps17
   go_wp2_with (first | ((with_reducible refine gate_dst (N := 3) rfl ?_); refine Z.bx #[.int .i64 a0_0, .slice A0_1 l0_1.length c0_1] 25 HB ?_; clear HB; intro gb356 w9 BK356 GE356 HB hg hb; have GW356 := GE356; clear hb hg; have hcz10 := Z.c2 BK356.out) | ((with_reducible refine gate_callee (f := 20) rfl ?_); refine goesL_ (some 9) rfl rfl Try.func20 (by kernel_rfl) rfl #[.agg #[.int .i64 a0_0, .slice A0_1 l0_1.length c0_1], .slice A1 l1.length c1] rfl Z.ar ?_; (with_reducible refine (impl_isTerm.calls k a0_0 _ _ l0_1 _ _ l1 true _ ?q1 ?q2 ?q3 ?q4 A4.out).mono ?_); (case q1 => exact Z.cc HR0_1 HB); (case q2 => exact HC0_1.out); (case q3 => exact Z.cc HR1 HB); (case q4 => exact HC1.out); rintro e w11 ⟨rfl, hb⟩; refine ⟨_, rfl, ?_⟩; replace BK356 := Z.bb BK356 hb; replace HB := Z.st (Z.bs HB.out GE356.out) hb; (try clear hb); (try clear hb2); (try clear hk); (try clear hi); have hcz12 := Z.c2 BK356.out) | (go_at_call 33; (with_reducible refine (impl_isCrowd.calls a0_0 a2 true _ A6.out).mono ?_); rintro e w' ⟨rfl, ⟨nd, rfl⟩⟩) | (go_at_call 28; (with_reducible refine (impl_consents.calls k a0_0 _ _ l0_1 _ _ l1 a2 t359 _ ?q1 ?q2 ?q3 ?q4 A8.out).mono ?_); (case q1 => repeat (first | exact (Kd.C_below HR0_1.out (Z.bs HB.out GE356.out)) | (with_reducible refine Kd.C_alloc ?_ _) | (with_reducible refine Kd.C_drewN ?_ _) | (with_reducible refine Kd.C_drew ?_))); (case q2 => exact HC0_1.out); (case q3 => repeat (first | exact (Kd.C_below HR1.out (Z.bs HB.out GE356.out)) | (with_reducible refine Kd.C_alloc ?_ _) | (with_reducible refine Kd.C_drewN ?_ _) | (with_reducible refine Kd.C_drew ?_))); (case q4 => exact HC1.out); rintro e w13 ⟨rfl, hb⟩; replace BK356 := Z.bb BK356 hb; replace HB := Z.st (Z.bs HB.out GE356.out) hb; (try clear hb); (try clear hb2); (try clear hk); (try clear hi)))
   go_ret
   exact ⟨by first | rfl | (simp [errW_none, errW_some] <;> rfl) | (simp [*, errW_none, errW_some] <;> rfl), Z.bs HB.out GE356.out⟩
  ·replace c7 := Bool.eq_false_iff.mpr c7
   subst c7
   rw [if_neg (show ¬ (false = true) by decide)] at H
   obtain rfl := Option.some.inj H
   go_enter Try.func17, Try.ntmps17
   go_wp2_with (first | ((with_reducible refine gate_dst (N := 3) rfl ?_); refine Z.bx #[.int .i64 a0_0, .slice A0_1 l0_1.length c0_1] 25 HB ?_; clear HB; intro gb356 w14 BK356 GE356 HB hg hb; have GW356 := GE356; clear hb hg; have hcz15 := Z.c2 BK356.out) | ((with_reducible refine gate_callee (f := 20) rfl ?_); refine goesL_ (some 9) rfl rfl Try.func20 (by kernel_rfl) rfl #[.agg #[.int .i64 a0_0, .slice A0_1 l0_1.length c0_1], .slice A1 l1.length c1] rfl Z.ar ?_; (with_reducible refine (impl_isTerm.calls k a0_0 _ _ l0_1 _ _ l1 true _ ?q1 ?q2 ?q3 ?q4 A4.out).mono ?_); (case q1 => exact Z.cc HR0_1 HB); (case q2 => exact HC0_1.out); (case q3 => exact Z.cc HR1 HB); (case q4 => exact HC1.out); rintro e w16 ⟨rfl, hb⟩; refine ⟨_, rfl, ?_⟩; replace BK356 := Z.bb BK356 hb; replace HB := Z.st (Z.bs HB.out GE356.out) hb; (try clear hb); (try clear hb2); (try clear hk); (try clear hi); have hcz17 := Z.c2 BK356.out) | (go_at_call 33; (with_reducible refine (impl_isCrowd.calls a0_0 a2 false _ A6.out).mono ?_); rintro e w' ⟨rfl, ⟨nd, rfl⟩⟩))
   go_ret
   exact ⟨by first | rfl | (simp [errW_none, errW_some] <;> rfl) | (simp [*, errW_none, errW_some] <;> rfl), Z.bs HB.out GE356.out⟩
 ·replace c5 := Bool.eq_false_iff.mpr c5
  subst c5
  rw [if_neg (show ¬ (false = true) by decide)] at H
  obtain rfl := Option.some.inj H
  go_enter Try.func17, Try.ntmps17
  go_wp2_with (first | ((with_reducible refine gate_dst (N := 3) rfl ?_); refine Z.bx #[.int .i64 a0_0, .slice A0_1 l0_1.length c0_1] 25 HB ?_; clear HB; intro gb356 w18 BK356 GE356 HB hg hb; have GW356 := GE356; clear hb hg; have hcz19 := Z.c2 BK356.out) | ((with_reducible refine gate_callee (f := 20) rfl ?_); refine goesL_ (some 9) rfl rfl Try.func20 (by kernel_rfl) rfl #[.agg #[.int .i64 a0_0, .slice A0_1 l0_1.length c0_1], .slice A1 l1.length c1] rfl Z.ar ?_; (with_reducible refine (impl_isTerm.calls k a0_0 _ _ l0_1 _ _ l1 false _ ?q1 ?q2 ?q3 ?q4 A4.out).mono ?_); (case q1 => exact Z.cc HR0_1 HB); (case q2 => exact HC0_1.out); (case q3 => exact Z.cc HR1 HB); (case q4 => exact HC1.out); rintro e w20 ⟨rfl, hb⟩; refine ⟨_, rfl, ?_⟩; replace BK356 := Z.bb BK356 hb; replace HB := Z.st (Z.bs HB.out GE356.out) hb; (try clear hb); (try clear hb2); (try clear hk); (try clear hi)))
  go_ret
  exact ⟨by first | rfl | (simp [errW_none, errW_some] <;> rfl) | (simp [*, errW_none, errW_some] <;> rfl), Z.bs HB.out GE356.out⟩

end Go.Proofs.Ytenjngocdinfmaa.PAll

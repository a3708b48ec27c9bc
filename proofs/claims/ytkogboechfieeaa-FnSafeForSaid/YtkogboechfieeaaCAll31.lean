/- Walks of functions that laws of this seat reach, in the form of the print. -/
import Derived.Test.YtkogboechfieeaaCAll0
import Derived.Test.YtkogboechfieeaaCAll1
import Derived.Test.YtkogboechfieeaaCAll3
import Derived.Test.YtkogboechfieeaaCAll30
import Derived.Test.YtkogboechfieeaaZ
-- PRINTED
namespace Go.Proofs.Ytkogboechfieeaa.PAll
open Go.RowKit Go.Proofs.YtkogboechfieeaaW.PrintWords Go.Proofs.YtkogboechfieeaaW.PrintLast Go.Proofs.YtkogboechfieeaaW.PrintMore
attribute [local go_sem] max2_int min2_int max_two min_two max_three min_three max_four min_four
set_option linter.unusedVariables false
set_option linter.unusedSimpArgs false

/-! ### spec_SafeFor: function 43 -/
def spec_SafeFor.f (k : Nat) (a0_0 : Int) (l0_1 : List Int) (l0_2 : List (List (S37))) (l1 : List Int) (l2 : List Int) (a3 : Int) : Option (Bool) := (spec_l11Ok.f k a0_0 l0_1 l0_2 l1 l2).bind fun t1184 => (if t1184 = true then ((spec_CrowdOk.f a0_0 a3).bind fun t1185 => (if t1185 = true then ((spec_l11Breaks.f k a0_0 l0_1 l0_2 l1 l2 a3).bind fun t1186 => (some (!t1186))) else (some false))) else (some false))
set_option maxHeartbeats 8000000 in
set_option maxRecDepth 100000 in
theorem spec_SafeFor.calls (k : Nat) (a0_0 : Int) (A0_1 : Option Addr) (c0_1 : Nat) (l0_1 : List Int) (A0_2 : Option Addr) (c0_2 : Nat) (l0_2 : List (List (S37))) (A1 : Option Addr) (c1 : Nat) (l1 : List Int) (A2 : Option Addr) (c2 : Nat) (l2 : List Int) (a3 : Int) (r : Bool) (w : World) (hr0_1 : Kd.C (Kd.int .i64) w A0_1 l0_1.length l0_1) (hc0_1 : l0_1.length ≤ c0_1) (hr0_2 : Kd.C (Kd.slice 37 k37) w A0_2 l0_2.length l0_2) (hc0_2 : l0_2.length ≤ c0_2) (hr1 : Kd.C (Kd.int .i64) w A1 l1.length l1) (hc1 : l1.length ≤ c1) (hr2 : Kd.C (Kd.int .i64) w A2 l2.length l2) (hc2 : l2.length ≤ c2) (h : spec_SafeFor.f k a0_0 l0_1 l0_2 l1 l2 a3 = some r) :
  Calls Try.prog 43 #[.agg #[.int .i64 a0_0, .slice A0_1 l0_1.length c0_1, .slice A0_2 l0_2.length c0_2], .slice A1 l1.length c1, .slice A2 l2.length c2, .int .i64 a3] w fun e w' => e = .returned (.bool r) ∧ Below w.heap.size w w' := by
 have hu35 := Try.underlying28
 have HR0_1 := Z.k hr0_1
 have HC0_1 := Z.k hc0_1
 clear hr0_1 hc0_1
 have HR0_2 := Z.k hr0_2
 have HC0_2 := Z.k hc0_2
 clear hr0_2 hc0_2
 have HR1 := Z.k hr1
 have HC1 := Z.k hc1
 clear hr1 hc1
 have HR2 := Z.k hr2
 have HC2 := Z.k hc2
 clear hr2 hc2
 have HB := Z.k (Below.refl w.heap.size w)
 have H := h
 clear h
 unfold spec_SafeFor.f at H
 replace H := Option.bind_eq_some_iff.mp H
 obtain ⟨t1184, A50, H⟩ := H
 have A5 := Z.k A50
 clear A50
 by_cases c6 : t1184 = true
 ·subst c6
  rw [if_pos rfl] at H
  replace H := Option.bind_eq_some_iff.mp H
  obtain ⟨t1185, A70, H⟩ := H
  have A7 := Z.k A70
  clear A70
  by_cases c8 : t1185 = true
  ·subst c8
   rw [if_pos rfl] at H
   replace H := Option.bind_eq_some_iff.mp H
   obtain ⟨t1186, A90, H⟩ := H
   have A9 := Z.k A90
   clear A90
   obtain rfl := Option.some.inj H
   go_enter Try.func43, Try.ntmps43
   go_wp2_with (first | ((with_reducible refine gate_dst (N := 4) rfl ?_); refine Z.bx #[.int .i64 a0_0, .slice A0_1 l0_1.length c0_1, .slice A0_2 l0_2.length c0_2] 28 HB ?_; clear HB; intro gb1183 w10 BK1183 GE1183 HB hg hb; have GW1183 := GE1183; clear hb hg; have hcz11 := Z.c3 BK1183.out) | ((with_reducible refine gate_callee (f := 81) rfl ?_); refine goesL_ (some 12) rfl rfl Try.func81 (by kernel_rfl) rfl #[.agg #[.int .i64 a0_0, .slice A0_1 l0_1.length c0_1, .slice A0_2 l0_2.length c0_2], .slice A1 l1.length c1, .slice A2 l2.length c2] rfl Z.ar ?_; (with_reducible refine (spec_l11Ok.calls k a0_0 _ _ l0_1 _ _ l0_2 _ _ l1 _ _ l2 true _ ?q1 ?q2 ?q3 ?q4 ?q5 ?q6 ?q7 ?q8 A5.out).mono ?_); (case q1 => exact Z.cc HR0_1 HB); (case q2 => exact HC0_1.out); (case q3 => exact Z.cc HR0_2 HB); (case q4 => exact HC0_2.out); (case q5 => exact Z.cc HR1 HB); (case q6 => exact HC1.out); (case q7 => exact Z.cc HR2 HB); (case q8 => exact HC2.out); rintro e w12 ⟨rfl, hb⟩; refine ⟨_, rfl, ?_⟩; replace BK1183 := Z.bb BK1183 hb; replace HB := Z.st (Z.bs HB.out GE1183.out) hb; (try clear hb); have hcz13 := Z.c3 BK1183.out) | (go_at_call 17; (with_reducible refine (spec_CrowdOk.calls a0_0 a3 true _ A7.out).mono ?_); rintro e w' ⟨rfl, ⟨nd, rfl⟩⟩) | (go_at_call 82; (with_reducible refine (spec_l11Breaks.calls k a0_0 _ _ l0_1 _ _ l0_2 _ _ l1 _ _ l2 a3 t1186 _ ?q1 ?q2 ?q3 ?q4 ?q5 ?q6 ?q7 ?q8 A9.out).mono ?_); (case q1 => repeat (exact (Kd.C_below HR0_1.out (Z.bs HB.out GE1183.out)))); (case q2 => exact HC0_1.out); (case q3 => repeat (exact (Kd.C_below HR0_2.out (Z.bs HB.out GE1183.out)))); (case q4 => exact HC0_2.out); (case q5 => repeat (exact (Kd.C_below HR1.out (Z.bs HB.out GE1183.out)))); (case q6 => exact HC1.out); (case q7 => repeat (exact (Kd.C_below HR2.out (Z.bs HB.out GE1183.out)))); (case q8 => exact HC2.out); rintro e w14 ⟨rfl, hb⟩; replace BK1183 := Z.bb BK1183 hb; replace HB := Z.st (Z.bs HB.out GE1183.out) hb; (try clear hb)))
   go_ret
   exact ⟨by rfl, Z.bs HB.out GE1183.out⟩
  ·replace c8 := Bool.eq_false_iff.mpr c8
   subst c8
   rw [if_neg (show ¬ (false = true) by decide)] at H
   obtain rfl := Option.some.inj H
   go_enter Try.func43, Try.ntmps43
   go_wp2_with (first | ((with_reducible refine gate_dst (N := 4) rfl ?_); refine Z.bx #[.int .i64 a0_0, .slice A0_1 l0_1.length c0_1, .slice A0_2 l0_2.length c0_2] 28 HB ?_; clear HB; intro gb1183 w15 BK1183 GE1183 HB hg hb; have GW1183 := GE1183; clear hb hg; have hcz16 := Z.c3 BK1183.out) | ((with_reducible refine gate_callee (f := 81) rfl ?_); refine goesL_ (some 12) rfl rfl Try.func81 (by kernel_rfl) rfl #[.agg #[.int .i64 a0_0, .slice A0_1 l0_1.length c0_1, .slice A0_2 l0_2.length c0_2], .slice A1 l1.length c1, .slice A2 l2.length c2] rfl Z.ar ?_; (with_reducible refine (spec_l11Ok.calls k a0_0 _ _ l0_1 _ _ l0_2 _ _ l1 _ _ l2 true _ ?q1 ?q2 ?q3 ?q4 ?q5 ?q6 ?q7 ?q8 A5.out).mono ?_); (case q1 => exact Z.cc HR0_1 HB); (case q2 => exact HC0_1.out); (case q3 => exact Z.cc HR0_2 HB); (case q4 => exact HC0_2.out); (case q5 => exact Z.cc HR1 HB); (case q6 => exact HC1.out); (case q7 => exact Z.cc HR2 HB); (case q8 => exact HC2.out); rintro e w17 ⟨rfl, hb⟩; refine ⟨_, rfl, ?_⟩; replace BK1183 := Z.bb BK1183 hb; replace HB := Z.st (Z.bs HB.out GE1183.out) hb; (try clear hb); have hcz18 := Z.c3 BK1183.out) | (go_at_call 17; (with_reducible refine (spec_CrowdOk.calls a0_0 a3 false _ A7.out).mono ?_); rintro e w' ⟨rfl, ⟨nd, rfl⟩⟩))
   go_ret
   exact ⟨by rfl, Z.bs HB.out GE1183.out⟩
 ·replace c6 := Bool.eq_false_iff.mpr c6
  subst c6
  rw [if_neg (show ¬ (false = true) by decide)] at H
  obtain rfl := Option.some.inj H
  go_enter Try.func43, Try.ntmps43
  go_wp2_with (first | ((with_reducible refine gate_dst (N := 4) rfl ?_); refine Z.bx #[.int .i64 a0_0, .slice A0_1 l0_1.length c0_1, .slice A0_2 l0_2.length c0_2] 28 HB ?_; clear HB; intro gb1183 w19 BK1183 GE1183 HB hg hb; have GW1183 := GE1183; clear hb hg; have hcz20 := Z.c3 BK1183.out) | ((with_reducible refine gate_callee (f := 81) rfl ?_); refine goesL_ (some 12) rfl rfl Try.func81 (by kernel_rfl) rfl #[.agg #[.int .i64 a0_0, .slice A0_1 l0_1.length c0_1, .slice A0_2 l0_2.length c0_2], .slice A1 l1.length c1, .slice A2 l2.length c2] rfl Z.ar ?_; (with_reducible refine (spec_l11Ok.calls k a0_0 _ _ l0_1 _ _ l0_2 _ _ l1 _ _ l2 false _ ?q1 ?q2 ?q3 ?q4 ?q5 ?q6 ?q7 ?q8 A5.out).mono ?_); (case q1 => exact Z.cc HR0_1 HB); (case q2 => exact HC0_1.out); (case q3 => exact Z.cc HR0_2 HB); (case q4 => exact HC0_2.out); (case q5 => exact Z.cc HR1 HB); (case q6 => exact HC1.out); (case q7 => exact Z.cc HR2 HB); (case q8 => exact HC2.out); rintro e w21 ⟨rfl, hb⟩; refine ⟨_, rfl, ?_⟩; replace BK1183 := Z.bb BK1183 hb; replace HB := Z.st (Z.bs HB.out GE1183.out) hb; (try clear hb)))
  go_ret
  exact ⟨by rfl, Z.bs HB.out GE1183.out⟩

-- NOT PRINTED: function 70 (impl_safeFor)

-- NOT PRINTED: function 22 (impl_SafeFor)

-- NOT PRINTED: function 12 (laws_FnExactSafeFor)

end Go.Proofs.Ytkogboechfieeaa.PAll

/- Walks of functions that laws of this seat reach, in the form of the print. -/
import Derived.Test.YtojoblllgddckaaCAll0
import Derived.Test.YtojoblllgddckaaCAll1
import Derived.Test.YtojoblllgddckaaCAll7
import Derived.Test.YtojoblllgddckaaCAll21
import Derived.Test.YtojoblllgddckaaCAll24
import Derived.Test.YtojoblllgddckaaZ
-- PRINTED
namespace Go.Proofs.Ytojoblllgddckaa.PAll
open Go.RowKit Go.Proofs.YtojoblllgddckaaW.PrintWords Go.Proofs.YtojoblllgddckaaW.PrintLast Go.Proofs.YtojoblllgddckaaW.PrintMore
attribute [local go_sem] max2_int min2_int max_two min_two max_three min_three max_four min_four
set_option linter.unusedVariables false
set_option linter.unusedSimpArgs false

/-! ### spec_MayChange: function 79 -/
def spec_MayChange.f (k : Nat) (a0_0 : Int) (l0_1 : List Int) (l0_2 : List (List (S91))) (l1 : List Int) (a2 : Int) (a3 : Int) (a4 : Int) : Option (Bool) := (spec_StateOk.f k a0_0 l0_1 l0_2 l1).bind fun t735 => (if t735 = true then ((spec_CrowdOk.f a0_0 a4).bind fun t736 => (if t736 = true then ((spec_l1In.f a2 0 (wrap64 ((l0_2.length : Int) - 1))).bind fun t737 => (if t737 = true then (if 0 ≤ a2 then (if a2 < (l0_2.length : Int) then ((spec_l1In.f a3 0 (wrap64 (((rd_L5 l0_2 a2).length : Int) - 1))).bind fun t739 => (if t739 = true then ((spec_l8May.f k a0_0 l0_1 l0_2 l1 a2 a3 a4).bind fun t740 => (some t740)) else (some false))) else (none)) else (none)) else (some false))) else (some false))) else (some false))
set_option maxHeartbeats 8000000 in
set_option maxRecDepth 100000 in
theorem spec_MayChange.calls (k : Nat) (a0_0 : Int) (A0_1 : Option Addr) (c0_1 : Nat) (l0_1 : List Int) (A0_2 : Option Addr) (c0_2 : Nat) (l0_2 : List (List (S91))) (A1 : Option Addr) (c1 : Nat) (l1 : List Int) (a2 : Int) (a3 : Int) (a4 : Int) (r : Bool) (w : World) (hr0_1 : Kd.C (Kd.int .i64) w A0_1 l0_1.length l0_1) (hc0_1 : l0_1.length ≤ c0_1) (hr0_2 : Kd.C (Kd.slice 91 k91) w A0_2 l0_2.length l0_2) (hc0_2 : l0_2.length ≤ c0_2) (hr1 : Kd.C (Kd.int .i64) w A1 l1.length l1) (hc1 : l1.length ≤ c1) (h : spec_MayChange.f k a0_0 l0_1 l0_2 l1 a2 a3 a4 = some r) :
  Calls Try.prog 79 #[.agg #[.int .i64 a0_0, .slice A0_1 l0_1.length c0_1, .slice A0_2 l0_2.length c0_2], .slice A1 l1.length c1, .int .i64 a2, .int .i64 a3, .int .i64 a4] w fun e w' => e = .returned (.bool r) ∧ Below w.heap.size w w' := by
 have hu46 := Try.underlying46
 have HR0_1 := Z.k hr0_1
 have HC0_1 := Z.k hc0_1
 clear hr0_1 hc0_1
 have HR0_2 := Z.k hr0_2
 have HC0_2 := Z.k hc0_2
 clear hr0_2 hc0_2
 have HR1 := Z.k hr1
 have HC1 := Z.k hc1
 clear hr1 hc1
 have HB := Z.k (Below.refl w.heap.size w)
 have H := h
 clear h
 unfold spec_MayChange.f at H
 replace H := Option.bind_eq_some_iff.mp H
 obtain ⟨t735, A60, H⟩ := H
 have A6 := Z.k A60
 clear A60
 by_cases c7 : t735 = true
 ·subst c7
  rw [if_pos rfl] at H
  replace H := Option.bind_eq_some_iff.mp H
  obtain ⟨t736, A80, H⟩ := H
  have A8 := Z.k A80
  clear A80
  by_cases c9 : t736 = true
  ·subst c9
   rw [if_pos rfl] at H
   replace H := Option.bind_eq_some_iff.mp H
   obtain ⟨t737, A100, H⟩ := H
   have A10 := Z.k A100
   clear A100
   by_cases c11 : t737 = true
   ·subst c11
    rw [if_pos rfl] at H
    obtain ⟨c12, H⟩ := Z.ifp H
    have c12b0 : decide (0 ≤ a2) = true := decide_eq_true c12
    clear c12
    obtain ⟨c13, H⟩ := Z.ifp H
    have c13b0 : decide (a2 < (l0_2.length : Int)) = true := decide_eq_true c13
    clear c13
    replace H := Option.bind_eq_some_iff.mp H
    obtain ⟨t739, A140, H⟩ := H
    have A14 := Z.k A140
    clear A140
    by_cases c15 : t739 = true
    ·subst c15
     rw [if_pos rfl] at H
     replace H := Option.bind_eq_some_iff.mp H
     obtain ⟨t740, A160, H⟩ := H
     have A16 := Z.k A160
     clear A160
     obtain rfl := Option.some.inj H
     go_enter Try.func79, Try.ntmps79
     go_wp2_with (first | ((with_reducible refine gate_dst (N := 5) rfl ?_); (try (refine gate_guard (by rfl) ?_; dsimp only)); refine Z.bx #[.int .i64 a0_0, .slice A0_1 l0_1.length c0_1, .slice A0_2 l0_2.length c0_2] 46 HB ?_; clear HB; intro gb734 w17 BK734 GE734 HB hg hb; have GW734 := GE734; clear hb hg; have hcz18 := Z.c3 BK734.out) | ((with_reducible refine gate_callee (f := 29) rfl ?_); refine goesL_ (some 13) rfl rfl Try.func29 (by kernel_rfl) rfl #[.agg #[.int .i64 a0_0, .slice A0_1 l0_1.length c0_1, .slice A0_2 l0_2.length c0_2], .slice A1 l1.length c1] rfl Z.ar ?_; (with_reducible refine (spec_StateOk.calls k a0_0 _ _ l0_1 _ _ l0_2 _ _ l1 true _ ?q1 ?q2 ?q3 ?q4 ?q5 ?q6 A6.out).mono ?_); (case q1 => exact Z.cc HR0_1 HB); (case q2 => exact HC0_1.out); (case q3 => exact Z.cc HR0_2 HB); (case q4 => exact HC0_2.out); (case q5 => exact Z.cc HR1 HB); (case q6 => exact HC1.out); rintro e w19 ⟨rfl, hb⟩; refine ⟨_, rfl, ?_⟩; replace BK734 := Z.bb BK734 hb; replace HB := Z.st (Z.bs HB.out GE734.out) hb; (try clear hb); have hcz20 := Z.c3 BK734.out) | (go_at_call 91; (with_reducible refine (spec_CrowdOk.calls a0_0 a4 true _ A8.out).mono ?_); rintro e w' ⟨rfl, ⟨nd, rfl⟩⟩) | (go_at_call 54; (with_reducible refine (spec_l1In.calls a2 0 (wrap64 ((l0_2.length : Int) - 1)) true _ A10.out).mono ?_); rintro e w' ⟨rfl, ⟨nd, rfl⟩⟩; have p738 : 0 ≤ (a2 : Int) := Z.od; have q738 : a2 < (l0_2.length : Int) := Z.od; obtain ⟨ad738, A738_0, c738_0, e738, hx738_0, hl738_0, hi738_0⟩ := at_L5 HR0_2.out a2 p738 q738; cases e738; replace hx738_0 := Z.up HB.out hx738_0; have HR738_0 := Z.k hi738_0; have HC738_0 := Z.k hl738_0; clear hi738_0 hl738_0; replace p738 := eq_true p738; replace q738 := eq_true q738) | (go_at_call 54; (with_reducible refine (spec_l1In.calls a3 0 (wrap64 (((rd_L5 l0_2 a2).length : Int) - 1)) true _ A14.out).mono ?_); rintro e w' ⟨rfl, ⟨nd, rfl⟩⟩) | (go_at_call 99; (with_reducible refine (spec_l8May.calls k a0_0 _ _ l0_1 _ _ l0_2 _ _ l1 a2 a3 a4 t740 _ ?q1 ?q2 ?q3 ?q4 ?q5 ?q6 A16.out).mono ?_); (case q1 => repeat (exact (Kd.C_below HR0_1.out (Z.bs HB.out GE734.out)))); (case q2 => exact HC0_1.out); (case q3 => repeat (exact (Kd.C_below HR0_2.out (Z.bs HB.out GE734.out)))); (case q4 => exact HC0_2.out); (case q5 => repeat (exact (Kd.C_below HR1.out (Z.bs HB.out GE734.out)))); (case q6 => exact HC1.out); rintro e w21 ⟨rfl, hb⟩; replace BK734 := Z.bb BK734 hb; replace HB := Z.st (Z.bs HB.out GE734.out) hb; (try clear hb)))
     go_ret
     exact ⟨by rfl, Z.bs HB.out GE734.out⟩
    ·replace c15 := Bool.eq_false_iff.mpr c15
     subst c15
     rw [if_neg (show ¬ (false = true) by decide)] at H
     obtain rfl := Option.some.inj H
     go_enter Try.func79, Try.ntmps79
     go_wp2_with (first | ((with_reducible refine gate_dst (N := 5) rfl ?_); (try (refine gate_guard (by rfl) ?_; dsimp only)); refine Z.bx #[.int .i64 a0_0, .slice A0_1 l0_1.length c0_1, .slice A0_2 l0_2.length c0_2] 46 HB ?_; clear HB; intro gb734 w22 BK734 GE734 HB hg hb; have GW734 := GE734; clear hb hg; have hcz23 := Z.c3 BK734.out) | ((with_reducible refine gate_callee (f := 29) rfl ?_); refine goesL_ (some 13) rfl rfl Try.func29 (by kernel_rfl) rfl #[.agg #[.int .i64 a0_0, .slice A0_1 l0_1.length c0_1, .slice A0_2 l0_2.length c0_2], .slice A1 l1.length c1] rfl Z.ar ?_; (with_reducible refine (spec_StateOk.calls k a0_0 _ _ l0_1 _ _ l0_2 _ _ l1 true _ ?q1 ?q2 ?q3 ?q4 ?q5 ?q6 A6.out).mono ?_); (case q1 => exact Z.cc HR0_1 HB); (case q2 => exact HC0_1.out); (case q3 => exact Z.cc HR0_2 HB); (case q4 => exact HC0_2.out); (case q5 => exact Z.cc HR1 HB); (case q6 => exact HC1.out); rintro e w24 ⟨rfl, hb⟩; refine ⟨_, rfl, ?_⟩; replace BK734 := Z.bb BK734 hb; replace HB := Z.st (Z.bs HB.out GE734.out) hb; (try clear hb); have hcz25 := Z.c3 BK734.out) | (go_at_call 91; (with_reducible refine (spec_CrowdOk.calls a0_0 a4 true _ A8.out).mono ?_); rintro e w' ⟨rfl, ⟨nd, rfl⟩⟩) | (go_at_call 54; (with_reducible refine (spec_l1In.calls a2 0 (wrap64 ((l0_2.length : Int) - 1)) true _ A10.out).mono ?_); rintro e w' ⟨rfl, ⟨nd, rfl⟩⟩; have p738 : 0 ≤ (a2 : Int) := Z.od; have q738 : a2 < (l0_2.length : Int) := Z.od; obtain ⟨ad738, A738_0, c738_0, e738, hx738_0, hl738_0, hi738_0⟩ := at_L5 HR0_2.out a2 p738 q738; cases e738; replace hx738_0 := Z.up HB.out hx738_0; have HR738_0 := Z.k hi738_0; have HC738_0 := Z.k hl738_0; clear hi738_0 hl738_0; replace p738 := eq_true p738; replace q738 := eq_true q738) | (go_at_call 54; (with_reducible refine (spec_l1In.calls a3 0 (wrap64 (((rd_L5 l0_2 a2).length : Int) - 1)) false _ A14.out).mono ?_); rintro e w' ⟨rfl, ⟨nd, rfl⟩⟩))
     go_ret
     exact ⟨by rfl, Z.bs HB.out GE734.out⟩
   ·replace c11 := Bool.eq_false_iff.mpr c11
    subst c11
    rw [if_neg (show ¬ (false = true) by decide)] at H
    obtain rfl := Option.some.inj H
    go_enter Try.func79, Try.ntmps79
    go_wp2_with (first | ((with_reducible refine gate_dst (N := 5) rfl ?_); (try (refine gate_guard (by rfl) ?_; dsimp only)); refine Z.bx #[.int .i64 a0_0, .slice A0_1 l0_1.length c0_1, .slice A0_2 l0_2.length c0_2] 46 HB ?_; clear HB; intro gb734 w26 BK734 GE734 HB hg hb; have GW734 := GE734; clear hb hg; have hcz27 := Z.c3 BK734.out) | ((with_reducible refine gate_callee (f := 29) rfl ?_); refine goesL_ (some 13) rfl rfl Try.func29 (by kernel_rfl) rfl #[.agg #[.int .i64 a0_0, .slice A0_1 l0_1.length c0_1, .slice A0_2 l0_2.length c0_2], .slice A1 l1.length c1] rfl Z.ar ?_; (with_reducible refine (spec_StateOk.calls k a0_0 _ _ l0_1 _ _ l0_2 _ _ l1 true _ ?q1 ?q2 ?q3 ?q4 ?q5 ?q6 A6.out).mono ?_); (case q1 => exact Z.cc HR0_1 HB); (case q2 => exact HC0_1.out); (case q3 => exact Z.cc HR0_2 HB); (case q4 => exact HC0_2.out); (case q5 => exact Z.cc HR1 HB); (case q6 => exact HC1.out); rintro e w28 ⟨rfl, hb⟩; refine ⟨_, rfl, ?_⟩; replace BK734 := Z.bb BK734 hb; replace HB := Z.st (Z.bs HB.out GE734.out) hb; (try clear hb); have hcz29 := Z.c3 BK734.out) | (go_at_call 91; (with_reducible refine (spec_CrowdOk.calls a0_0 a4 true _ A8.out).mono ?_); rintro e w' ⟨rfl, ⟨nd, rfl⟩⟩) | (go_at_call 54; (with_reducible refine (spec_l1In.calls a2 0 (wrap64 ((l0_2.length : Int) - 1)) false _ A10.out).mono ?_); rintro e w' ⟨rfl, ⟨nd, rfl⟩⟩))
    go_ret
    exact ⟨by rfl, Z.bs HB.out GE734.out⟩
  ·replace c9 := Bool.eq_false_iff.mpr c9
   subst c9
   rw [if_neg (show ¬ (false = true) by decide)] at H
   obtain rfl := Option.some.inj H
   go_enter Try.func79, Try.ntmps79
   go_wp2_with (first | ((with_reducible refine gate_dst (N := 5) rfl ?_); (try (refine gate_guard (by rfl) ?_; dsimp only)); refine Z.bx #[.int .i64 a0_0, .slice A0_1 l0_1.length c0_1, .slice A0_2 l0_2.length c0_2] 46 HB ?_; clear HB; intro gb734 w30 BK734 GE734 HB hg hb; have GW734 := GE734; clear hb hg; have hcz31 := Z.c3 BK734.out) | ((with_reducible refine gate_callee (f := 29) rfl ?_); refine goesL_ (some 13) rfl rfl Try.func29 (by kernel_rfl) rfl #[.agg #[.int .i64 a0_0, .slice A0_1 l0_1.length c0_1, .slice A0_2 l0_2.length c0_2], .slice A1 l1.length c1] rfl Z.ar ?_; (with_reducible refine (spec_StateOk.calls k a0_0 _ _ l0_1 _ _ l0_2 _ _ l1 true _ ?q1 ?q2 ?q3 ?q4 ?q5 ?q6 A6.out).mono ?_); (case q1 => exact Z.cc HR0_1 HB); (case q2 => exact HC0_1.out); (case q3 => exact Z.cc HR0_2 HB); (case q4 => exact HC0_2.out); (case q5 => exact Z.cc HR1 HB); (case q6 => exact HC1.out); rintro e w32 ⟨rfl, hb⟩; refine ⟨_, rfl, ?_⟩; replace BK734 := Z.bb BK734 hb; replace HB := Z.st (Z.bs HB.out GE734.out) hb; (try clear hb); have hcz33 := Z.c3 BK734.out) | (go_at_call 91; (with_reducible refine (spec_CrowdOk.calls a0_0 a4 false _ A8.out).mono ?_); rintro e w' ⟨rfl, ⟨nd, rfl⟩⟩))
   go_ret
   exact ⟨by rfl, Z.bs HB.out GE734.out⟩
 ·replace c7 := Bool.eq_false_iff.mpr c7
  subst c7
  rw [if_neg (show ¬ (false = true) by decide)] at H
  obtain rfl := Option.some.inj H
  go_enter Try.func79, Try.ntmps79
  go_wp2_with (first | ((with_reducible refine gate_dst (N := 5) rfl ?_); (try (refine gate_guard (by rfl) ?_; dsimp only)); refine Z.bx #[.int .i64 a0_0, .slice A0_1 l0_1.length c0_1, .slice A0_2 l0_2.length c0_2] 46 HB ?_; clear HB; intro gb734 w34 BK734 GE734 HB hg hb; have GW734 := GE734; clear hb hg; have hcz35 := Z.c3 BK734.out) | ((with_reducible refine gate_callee (f := 29) rfl ?_); refine goesL_ (some 13) rfl rfl Try.func29 (by kernel_rfl) rfl #[.agg #[.int .i64 a0_0, .slice A0_1 l0_1.length c0_1, .slice A0_2 l0_2.length c0_2], .slice A1 l1.length c1] rfl Z.ar ?_; (with_reducible refine (spec_StateOk.calls k a0_0 _ _ l0_1 _ _ l0_2 _ _ l1 false _ ?q1 ?q2 ?q3 ?q4 ?q5 ?q6 A6.out).mono ?_); (case q1 => exact Z.cc HR0_1 HB); (case q2 => exact HC0_1.out); (case q3 => exact Z.cc HR0_2 HB); (case q4 => exact HC0_2.out); (case q5 => exact Z.cc HR1 HB); (case q6 => exact HC1.out); rintro e w36 ⟨rfl, hb⟩; refine ⟨_, rfl, ?_⟩; replace BK734 := Z.bb BK734 hb; replace HB := Z.st (Z.bs HB.out GE734.out) hb; (try clear hb)))
  go_ret
  exact ⟨by rfl, Z.bs HB.out GE734.out⟩

end Go.Proofs.Ytojoblllgddckaa.PAll

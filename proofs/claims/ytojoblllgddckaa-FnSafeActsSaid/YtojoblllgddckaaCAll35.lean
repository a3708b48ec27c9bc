/- Walks of functions that laws of this seat reach, in the form of the print. -/
import Derived.Test.YtojoblllgddckaaCAll0
import Derived.Test.YtojoblllgddckaaCAll1
import Derived.Test.YtojoblllgddckaaCAll7
import Derived.Test.YtojoblllgddckaaCAll21
import Derived.Test.YtojoblllgddckaaCAll30
import Derived.Test.YtojoblllgddckaaZ
-- PRINTED
namespace Go.Proofs.Ytojoblllgddckaa.PAll
open Go.RowKit Go.Proofs.YtojoblllgddckaaW.PrintWords Go.Proofs.YtojoblllgddckaaW.PrintLast Go.Proofs.YtojoblllgddckaaW.PrintMore
attribute [local go_sem] max2_int min2_int max_two min_two max_three min_three max_four min_four
set_option linter.unusedVariables false
set_option linter.unusedSimpArgs false

/-! ### spec_l11Ok: function 87 -/
def spec_l11Ok.l0 : Nat → List Int → List Int → Int → Int → List Int → List (List (S91)) → Option (Bool)
 | 0, _, _, _, _, _, _ => none
 | k + 1, x1, x2, x7, x1169000, x1169001, x1169002 => if x7 < (x2.length : Int) then (if 0 ≤ x7 then ((spec_l1In.f (rd x2 x7) 0 26).bind fun t1170 => (if t1170 = true then (spec_l11Ok.l0 k x1 x2 (wrap64 (x7 + 1)) x1169000 x1169001 x1169002) else (some false))) else (none)) else ((spec_StateOk.f k x1169000 x1169001 x1169002 x1).bind fun t1171 => (if t1171 = true then (some (decide ((x2.length : Int) ≤ 27))) else (some false)))
def spec_l11Ok.f (k : Nat) (a0_0 : Int) (l0_1 : List Int) (l0_2 : List (List (S91))) (l1 : List Int) (l2 : List Int) : Option (Bool) := spec_l11Ok.l0 k l1 l2 0 a0_0 l0_1 l0_2
set_option maxHeartbeats 8000000 in
set_option maxRecDepth 100000 in
theorem spec_l11Ok.calls (k : Nat) (a0_0 : Int) (A0_1 : Option Addr) (c0_1 : Nat) (l0_1 : List Int) (A0_2 : Option Addr) (c0_2 : Nat) (l0_2 : List (List (S91))) (A1 : Option Addr) (c1 : Nat) (l1 : List Int) (A2 : Option Addr) (c2 : Nat) (l2 : List Int) (r : Bool) (w : World) (hr0_1 : Kd.C (Kd.int .i64) w A0_1 l0_1.length l0_1) (hc0_1 : l0_1.length ≤ c0_1) (hr0_2 : Kd.C (Kd.slice 91 k91) w A0_2 l0_2.length l0_2) (hc0_2 : l0_2.length ≤ c0_2) (hr1 : Kd.C (Kd.int .i64) w A1 l1.length l1) (hc1 : l1.length ≤ c1) (hr2 : Kd.C (Kd.int .i64) w A2 l2.length l2) (hc2 : l2.length ≤ c2) (h : spec_l11Ok.f k a0_0 l0_1 l0_2 l1 l2 = some r) :
  Calls Try.prog 87 #[.agg #[.int .i64 a0_0, .slice A0_1 l0_1.length c0_1, .slice A0_2 l0_2.length c0_2], .slice A1 l1.length c1, .slice A2 l2.length c2] w fun e w' => e = .returned (.bool r) ∧ Below w.heap.size w w' := by
 have hu46 := Try.underlying46
 have HR0_1 := Z.k hr0_1
 have HC0_1 := Z.k hc0_1
 clear hr0_1 hc0_1
 have HR0_2 := Z.k hr0_2
 have HC0_2 := Z.k hc0_2
 clear hr0_2 hc0_2
 have HR1 := Z.k hr1
 have HC1 := Z.k hc1
 clear hr1 hc1
 have HR2 := Z.k hr2
 have HC2 := Z.k hc2
 clear hr2 hc2
 have HB := Z.k (Below.refl w.heap.size w)
 have H := h
 clear h
 unfold spec_l11Ok.f at H
 have H' := Z.k H
 clear H
 go_enter Try.func87, Try.ntmps87
 go_wp2_with (((with_reducible refine gate_dst (N := 3) rfl ?_); (try (refine gate_guard (by rfl) ?_; dsimp only)); refine Z.bx #[.int .i64 a0_0, .slice A0_1 l0_1.length c0_1, .slice A0_2 l0_2.length c0_2] 46 HB ?_; clear HB; intro gb1168 w4 BK1168 GE1168 HB hg hb; have GW1168 := GE1168; clear hb hg))
 go_loopg [7] k (fun kq v7 w' => ∃ (x7_1 : Int), v7 = .int .i64 x7_1 ∧ Aside0 (spec_l11Ok.l0 kq l1 l2 x7_1 a0_0 l0_1 l0_2 = some r) ∧ Aside0 (kq ≤ k) ∧ Aside0 (w'.heap[gb1168]? = some (.cells #[.int .i64 a0_0, (.slice A0_1 l0_1.length c0_1), (.slice A0_2 l0_2.length c0_2)] 46 (0, 0))) ∧ Aside0 (Below w.heap.size w w'))
 case atStart => exact ⟨(0), (by rfl), H', ⟨Nat.le_refl _⟩, ⟨by (with_reducible skip); exact BK1168.out⟩, ⟨Z.bs HB.out GE1168.out⟩⟩
 case round =>
  clear H'
  obtain ⟨x7_1, rfl, HA, HK1, BK1168, HB⟩ := hrel
  cases gk with
  | zero => exact absurd HA.out (by simp [spec_l11Ok.l0])
  | succ k1 =>
   have H := HA.out
   clear HA
   simp only [spec_l11Ok.l0] at H
   by_cases c5 : x7_1 < (l2.length : Int)
   ·rw [if_pos c5] at H
    have c5b0 := decide_eq_true c5
    clear c5
    obtain ⟨c6, H⟩ := Z.ifp H
    have c6b0 : decide (0 ≤ x7_1) = true := decide_eq_true c6
    clear c6
    replace H := Option.bind_eq_some_iff.mp H
    obtain ⟨t1170, A70, H⟩ := H
    have A7 := Z.k A70
    clear A70
    by_cases c8 : t1170 = true
    ·subst c8
     rw [if_pos rfl] at H
     have H' := Z.k H
     clear H
     have p1169 : 0 ≤ (x7_1 : Int) := Z.od
     have q1169 : x7_1 < (l2.length : Int) := Z.od
     obtain ⟨ad1169, rfl, hx1169_0⟩ := Kd.at_int HR2.out x7_1 p1169 q1169
     replace hx1169_0 := Z.up HB.out hx1169_0
     replace p1169 := eq_true p1169
     replace q1169 := eq_true q1169
     go_wp2_with (((with_reducible refine gate_callee (f := 54) rfl ?_); refine goesL_ (some 18) rfl rfl Try.func54 (by kernel_rfl) rfl #[.int .i64 (rd l2 x7_1), .int .i64 0, .int .i64 26] rfl Z.ar ?_; (with_reducible refine (spec_l1In.calls (rd l2 x7_1) 0 26 true _ A7.out).mono ?_); rintro e w' ⟨rfl, ⟨nd, rfl⟩⟩; refine ⟨_, rfl, ?_⟩))
     go_roundg k1
     case measure => have := HK1.out; omega
     case rel => exact ⟨(wrap64 (x7_1 + 1)), (by rfl), H', ⟨by have := HK1.out; omega⟩, ⟨by (with_reducible repeat (refine blk_drewN ?_ _)); exact BK1168.out⟩, ⟨Z.bs HB.out GE1168.out⟩⟩
    ·replace c8 := Bool.eq_false_iff.mpr c8
     subst c8
     rw [if_neg (show ¬ (false = true) by decide)] at H
     obtain rfl := Option.some.inj H
     have p1169 : 0 ≤ (x7_1 : Int) := Z.od
     have q1169 : x7_1 < (l2.length : Int) := Z.od
     obtain ⟨ad1169, rfl, hx1169_0⟩ := Kd.at_int HR2.out x7_1 p1169 q1169
     replace hx1169_0 := Z.up HB.out hx1169_0
     replace p1169 := eq_true p1169
     replace q1169 := eq_true q1169
     go_wp2_with (((with_reducible refine gate_callee (f := 54) rfl ?_); refine goesL_ (some 18) rfl rfl Try.func54 (by kernel_rfl) rfl #[.int .i64 (rd l2 x7_1), .int .i64 0, .int .i64 26] rfl Z.ar ?_; (with_reducible refine (spec_l1In.calls (rd l2 x7_1) 0 26 false _ A7.out).mono ?_); rintro e w' ⟨rfl, ⟨nd, rfl⟩⟩; refine ⟨_, rfl, ?_⟩))
     go_ret
     exact ⟨by rfl, Z.bs HB.out GE1168.out⟩
   ·rw [if_neg c5] at H
    have c5b0 := decide_eq_false c5
    clear c5
    replace H := Option.bind_eq_some_iff.mp H
    obtain ⟨t1171, A90, H⟩ := H
    have A9 := Z.k A90
    clear A90
    by_cases c10 : t1171 = true
    ·subst c10
     rw [if_pos rfl] at H
     obtain rfl := Option.some.inj H
     have hcz11 := Z.c3 BK1168.out
     go_wp2_with (((with_reducible refine gate_callee (f := 29) rfl ?_); refine goesL_ (some 22) rfl rfl Try.func29 (by kernel_rfl) rfl #[.agg #[.int .i64 a0_0, .slice A0_1 l0_1.length c0_1, .slice A0_2 l0_2.length c0_2], .slice A1 l1.length c1] rfl Z.ar ?_; (with_reducible refine (spec_StateOk.calls k1 a0_0 _ _ l0_1 _ _ l0_2 _ _ l1 true _ ?q1 ?q2 ?q3 ?q4 ?q5 ?q6 A9.out).mono ?_); (case q1 => exact Z.cc HR0_1 HB); (case q2 => exact HC0_1.out); (case q3 => exact Z.cc HR0_2 HB); (case q4 => exact HC0_2.out); (case q5 => exact Z.cc HR1 HB); (case q6 => exact HC1.out); rintro e w12 ⟨rfl, hb⟩; refine ⟨_, rfl, ?_⟩; replace BK1168 := Z.bb BK1168 hb; replace HB := Z.st (Z.bs HB.out GE1168.out) hb; (try clear hb)))
     go_ret
     exact ⟨by rfl, Z.bs HB.out GE1168.out⟩
    ·replace c10 := Bool.eq_false_iff.mpr c10
     subst c10
     rw [if_neg (show ¬ (false = true) by decide)] at H
     obtain rfl := Option.some.inj H
     have hcz13 := Z.c3 BK1168.out
     go_wp2_with (((with_reducible refine gate_callee (f := 29) rfl ?_); refine goesL_ (some 22) rfl rfl Try.func29 (by kernel_rfl) rfl #[.agg #[.int .i64 a0_0, .slice A0_1 l0_1.length c0_1, .slice A0_2 l0_2.length c0_2], .slice A1 l1.length c1] rfl Z.ar ?_; (with_reducible refine (spec_StateOk.calls k1 a0_0 _ _ l0_1 _ _ l0_2 _ _ l1 false _ ?q1 ?q2 ?q3 ?q4 ?q5 ?q6 A9.out).mono ?_); (case q1 => exact Z.cc HR0_1 HB); (case q2 => exact HC0_1.out); (case q3 => exact Z.cc HR0_2 HB); (case q4 => exact HC0_2.out); (case q5 => exact Z.cc HR1 HB); (case q6 => exact HC1.out); rintro e w14 ⟨rfl, hb⟩; refine ⟨_, rfl, ?_⟩; replace BK1168 := Z.bb BK1168 hb; replace HB := Z.st (Z.bs HB.out GE1168.out) hb; (try clear hb)))
     go_ret
     exact ⟨by rfl, Z.bs HB.out GE1168.out⟩

/-! ### spec_l11Bad: function 88 -/
def spec_l11Bad.l0 : Nat → List Int → List Int → Int → Option (Bool)
 | 0, _, _, _ => none
 | k + 1, x0, x1, x5 => if x5 < (x0.length : Int) then (if 0 ≤ x5 then ((spec_l8Code.f k x1).bind fun t1173 => (if (rd x0 x5) = t1173 then (some true) else (spec_l11Bad.l0 k x0 x1 (wrap64 (x5 + 1))))) else (none)) else (some false)
def spec_l11Bad.f (k : Nat) (l0 : List Int) (l1 : List Int) : Option (Bool) := spec_l11Bad.l0 k l0 l1 0
set_option maxHeartbeats 8000000 in
set_option maxRecDepth 100000 in
theorem spec_l11Bad.calls (k : Nat) (A0 : Option Addr) (c0 : Nat) (l0 : List Int) (A1 : Option Addr) (c1 : Nat) (l1 : List Int) (r : Bool) (w : World) (hr0 : Kd.C (Kd.int .i64) w A0 l0.length l0) (hc0 : l0.length ≤ c0) (hr1 : Kd.C (Kd.int .i64) w A1 l1.length l1) (hc1 : l1.length ≤ c1) (h : spec_l11Bad.f k l0 l1 = some r) :
  Calls Try.prog 88 #[.slice A0 l0.length c0, .slice A1 l1.length c1] w fun e w' => e = .returned (.bool r) ∧ Drawn0 w w' := by
 have HR0 := Z.k hr0
 have HC0 := Z.k hc0
 clear hr0 hc0
 have HR1 := Z.k hr1
 have HC1 := Z.k hc1
 clear hr1 hc1
 have H := h
 clear h
 unfold spec_l11Bad.f at H
 have H' := Z.k H
 clear H
 go_enter Try.func88, Try.ntmps88
 go_wp2
 go_loopg [5] k (fun kq v5 w' => ∃ (x5_1 : Int), v5 = .int .i64 x5_1 ∧ Aside0 (spec_l11Bad.l0 kq l0 l1 x5_1 = some r) ∧ Aside0 (kq ≤ k) ∧ Drawn0 w w')
 case atStart => exact ⟨(0), (by rfl), H', ⟨Nat.le_refl _⟩, by repeat (exact Drawn0.refl _)⟩
 case round =>
  clear H'
  obtain ⟨x5_1, rfl, HA, HK1, ⟨m1, rfl⟩⟩ := hrel
  cases gk with
  | zero => exact absurd HA.out (by simp [spec_l11Bad.l0])
  | succ k1 =>
   have H := HA.out
   clear HA
   simp only [spec_l11Bad.l0] at H
   by_cases c3 : x5_1 < (l0.length : Int)
   ·rw [if_pos c3] at H
    have c3b0 := decide_eq_true c3
    clear c3
    obtain ⟨c4, H⟩ := Z.ifp H
    have c4b0 : decide (0 ≤ x5_1) = true := decide_eq_true c4
    clear c4
    replace H := Option.bind_eq_some_iff.mp H
    obtain ⟨t1173, A50, H⟩ := H
    have A5 := Z.k A50
    clear A50
    by_cases c6 : (rd l0 x5_1) = t1173
    ·rw [if_pos c6] at H
     have c6b0 : ((rd l0 x5_1) == t1173) = true := beq_iff_eq.mpr c6
     have c6b1 : ((rd l0 x5_1) != t1173) = false := bne_eq_false_iff_eq.mpr c6
     clear c6
     obtain rfl := Option.some.inj H
     have p1172 : 0 ≤ (x5_1 : Int) := Z.od
     have q1172 : x5_1 < (l0.length : Int) := Z.od
     obtain ⟨ad1172, rfl, hx1172_0⟩ := Kd.at_int HR0.out x5_1 p1172 q1172
     replace p1172 := eq_true p1172
     replace q1172 := eq_true q1172
     go_wp2_with ((go_at_call 82; (with_reducible refine (spec_l8Code.calls k1 _ _ l1 t1173 _ ?q1 ?q2 A5.out).mono ?_); (case q1 => skip); (case q2 => exact HC1.out); rintro e w' ⟨rfl, ⟨nd, rfl⟩⟩))
     repeat (go_quiet ((go_at_call 82; (with_reducible refine (spec_l8Code.calls k1 _ _ l1 t1173 _ ?q1 ?q2 A5.out).mono ?_); (case q1 => repeat (exact HR1.out)); (case q2 => exact HC1.out); rintro e w' ⟨rfl, ⟨nd, rfl⟩⟩; (try exact ⟨rfl, _, Eq.trans (World.drewN_drewN _ _ _) (congrArg (World.drewN _) (Nat.add_assoc _ _ _))⟩))); try go_wp2_with ((go_at_call 82; (with_reducible refine (spec_l8Code.calls k1 _ _ l1 t1173 _ ?q1 ?q2 A5.out).mono ?_); (case q1 => skip); (case q2 => exact HC1.out); rintro e w' ⟨rfl, ⟨nd, rfl⟩⟩)))
     go_ret
     exact ⟨by rfl, by repeat (first | exact Drawn0.refl _ | apply Drawn0.step)⟩
    ·rw [if_neg c6] at H
     have c6b0 : ((rd l0 x5_1) == t1173) = false := beq_eq_false_iff_ne.mpr c6
     have c6b1 : ((rd l0 x5_1) != t1173) = true := bne_iff_ne.mpr c6
     have H' := Z.k H
     clear H
     have p1172 : 0 ≤ (x5_1 : Int) := Z.od
     have q1172 : x5_1 < (l0.length : Int) := Z.od
     obtain ⟨ad1172, rfl, hx1172_0⟩ := Kd.at_int HR0.out x5_1 p1172 q1172
     replace p1172 := eq_true p1172
     replace q1172 := eq_true q1172
     go_wp2_with ((go_at_call 82; (with_reducible refine (spec_l8Code.calls k1 _ _ l1 t1173 _ ?q1 ?q2 A5.out).mono ?_); (case q1 => skip); (case q2 => exact HC1.out); rintro e w' ⟨rfl, ⟨nd, rfl⟩⟩))
     repeat (go_quiet ((go_at_call 82; (with_reducible refine (spec_l8Code.calls k1 _ _ l1 t1173 _ ?q1 ?q2 A5.out).mono ?_); (case q1 => repeat (exact HR1.out)); (case q2 => exact HC1.out); rintro e w' ⟨rfl, ⟨nd, rfl⟩⟩; (try exact ⟨rfl, _, Eq.trans (World.drewN_drewN _ _ _) (congrArg (World.drewN _) (Nat.add_assoc _ _ _))⟩))); try go_wp2_with ((go_at_call 82; (with_reducible refine (spec_l8Code.calls k1 _ _ l1 t1173 _ ?q1 ?q2 A5.out).mono ?_); (case q1 => skip); (case q2 => exact HC1.out); rintro e w' ⟨rfl, ⟨nd, rfl⟩⟩)))
     go_roundg k1
     case measure => have := HK1.out; omega
     case rel => exact ⟨(wrap64 (x5_1 + 1)), (by rfl), H', ⟨by have := HK1.out; omega⟩, by repeat (first | exact Drawn0.refl _ | apply Drawn0.step)⟩
   ·rw [if_neg c3] at H
    have c3b0 := decide_eq_false c3
    clear c3
    obtain rfl := Option.some.inj H
    go_wp2
    go_ret
    exact ⟨by rfl, by repeat (first | exact Drawn0.refl _ | apply Drawn0.step)⟩

end Go.Proofs.Ytojoblllgddckaa.PAll

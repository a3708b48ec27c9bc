/- Walks of functions that some laws of this seat reach, in the form of the print. -/
import Derived.Test.YtcafckapdgaogaaCAll0
import Derived.Test.YtcafckapdgaogaaCAll1
import Derived.Test.YtcafckapdgaogaaCAll2
import Derived.Test.YtcafckapdgaogaaCAll10
import Derived.Test.YtcafckapdgaogaaCAll17
import Derived.Test.YtcafckapdgaogaaCAll19
import Derived.Test.YtcafckapdgaogaaCAll20
import Derived.Test.YtcafckapdgaogaaCAll22
import Derived.Test.YtcafckapdgaogaaCAll23
import Derived.Test.YtcafckapdgaogaaCAll48
import Derived.Test.YtcafckapdgaogaaZ
import Derived.Test.YtcafckapdgaogaaV2
-- PRINTED
namespace Go.Proofs.Ytcafckapdgaogaa.PAll
open Go.RowKit Go.Proofs.YtcafckapdgaogaaW.PrintWords Go.Proofs.YtcafckapdgaogaaW.PrintLast Go.Proofs.YtcafckapdgaogaaW.PrintMore
attribute [local go_sem] max2_int min2_int max_two min_two max_three min_three max_four min_four
set_option linter.unusedVariables false
set_option linter.unusedSimpArgs false


/-! ### laws_FnExactAfterActs: function 4 -/
mutual
def laws_FnExactAfterActs.j0 : Nat → List Int → List (S51) → Int → List Int → List (List (S128)) → Option (Bool)
 | 0, _, _, _, _, _ => none
 | k + 1, x1, x2, x482000, x482001, x482002 => (laws_szCharter.f k x482000 x482001 x482002 1048576).bind fun t482 => (if t482 < 0 then (some true) else (laws_FnExactAfterActs.j1 k x1 x2 t482 x482000 x482001 x482002))
def laws_FnExactAfterActs.j1 : Nat → List Int → List (S51) → Int → Int → List Int → List (List (S128)) → Option (Bool)
 | 0, _, _, _, _, _, _ => none
 | k + 1, x1, x2, x7, x482000, x482001, x482002 => (laws_szActS.f x2 x7).bind fun t483 => (if t483 < 0 then (some true) else (laws_FnExactAfterActs.j2 k x1 x2 x482000 x482001 x482002))
def laws_FnExactAfterActs.j2 : Nat → List Int → List (S51) → Int → List Int → List (List (S128)) → Option (Bool)
 | 0, _, _, _, _, _ => none
 | k + 1, x1, x2, x482000, x482001, x482002 => (laws_toCharter.f k x482000 x482001 x482002).bind fun bt484 => ((laws_toIntS.f k x1).bind fun t491 => ((laws_toActS.f k x2).bind fun t494 => ((spec_AfterActs.f k bt484.1 bt484.2.1 bt484.2.2 t491 t494).bind fun bt497 => ((laws_toCharter.f k x482000 x482001 x482002).bind fun bt501 => ((laws_toIntS.f k x1).bind fun t509 => ((laws_toActS.f k x2).bind fun t512 => ((impl_AfterActs.f k bt501.1 bt501.2.1 bt501.2.2 t509 t512).bind fun bt515 => ((laws_eqIntS.f k bt515.1 bt497.1).bind fun t519 => (if t519 = true then (laws_FnExactAfterActs.j3 k x1 x2 bt497.1 bt497.2 t509 t512 bt515.1 bt515.2 (bt515.2 != bt497.2) x482000 x482001 x482002 bt501.1 bt501.2.1 bt501.2.2) else (laws_FnExactAfterActs.j3 k x1 x2 bt497.1 bt497.2 t509 t512 bt515.1 bt515.2 true x482000 x482001 x482002 bt501.1 bt501.2.1 bt501.2.2))))))))))
def laws_FnExactAfterActs.j3 : Nat → List Int → List (S51) → List Int → Int → List Int → List (S53) → List Int → Int → Bool → Int → List Int → List (List (S128)) → Int → List Int → List (List (S86)) → Option (Bool)
 | 0, _, _, _, _, _, _, _, _, _, _, _, _, _, _, _ => none
 | k + 1, x1, x2, x8, x9, x11, x12, x13, x14, x64, x482000, x482001, x482002, x509000, x509001, x509002 => if x64 = true then (some false) else (laws_FnExactAfterActs.j4 k x1 x2 x8 x9 x11 x12 x13 x14 x482000 x482001 x482002 x509000 x509001 x509002)
def laws_FnExactAfterActs.j4 : Nat → List Int → List (S51) → List Int → Int → List Int → List (S53) → List Int → Int → Int → List Int → List (List (S128)) → Int → List Int → List (List (S86)) → Option (Bool)
 | 0, _, _, _, _, _, _, _, _, _, _, _, _, _, _ => none
 | k + 1, x1, x2, x8, x9, x11, x12, x13, x14, x482000, x482001, x482002, x509000, x509001, x509002 => (laws_toCharter.f k x482000 x482001 x482002).bind fun bt520 => ((laws_eqCharter.f k x509000 x509001 x509002 bt520.1 bt520.2.1 bt520.2.2).bind fun t527 => (if t527 = true then (laws_FnExactAfterActs.j5 k x1 x2 x8 x9 x11 x12 x13 x14 x482000 x482001 x482002 x509000 x509001 x509002) else (some false)))
def laws_FnExactAfterActs.j5 : Nat → List Int → List (S51) → List Int → Int → List Int → List (S53) → List Int → Int → Int → List Int → List (List (S128)) → Int → List Int → List (List (S86)) → Option (Bool)
 | 0, _, _, _, _, _, _, _, _, _, _, _, _, _, _ => none
 | k + 1, x1, x2, x8, x9, x11, x12, x13, x14, x482000, x482001, x482002, x509000, x509001, x509002 => (laws_toIntS.f k x1).bind fun t528 => ((laws_eqIntS.f k x11 t528).bind fun t531 => (if t531 = true then (laws_FnExactAfterActs.j6 k x1 x2 x8 x9 x11 x12 x13 x14 x482000 x482001 x482002 x509000 x509001 x509002) else (some false)))
def laws_FnExactAfterActs.j6 : Nat → List Int → List (S51) → List Int → Int → List Int → List (S53) → List Int → Int → Int → List Int → List (List (S128)) → Int → List Int → List (List (S86)) → Option (Bool)
 | 0, _, _, _, _, _, _, _, _, _, _, _, _, _, _ => none
 | k + 1, x1, x2, x8, x9, x11, x12, x13, x14, x482000, x482001, x482002, x509000, x509001, x509002 => (laws_toActS.f k x2).bind fun t532 => ((laws_eqActS.f k x12 t532).bind fun t535 => (if t535 = true then (laws_FnExactAfterActs.j7 k x1 x2 x8 x9 x11 x12 x13 x14 x482000 x482001 x482002 x509000 x509001 x509002) else (some false)))
def laws_FnExactAfterActs.j7 : Nat → List Int → List (S51) → List Int → Int → List Int → List (S53) → List Int → Int → Int → List Int → List (List (S128)) → Int → List Int → List (List (S86)) → Option (Bool)
 | 0, _, _, _, _, _, _, _, _, _, _, _, _, _, _ => none
 | k + 1, x1, x2, x8, x9, x11, x12, x13, x14, x482000, x482001, x482002, x509000, x509001, x509002 => (laws_markCharter.f x509000 x509001 x509002 1).bind fun t536 => ((laws_markIntS.f k x11 t536).bind fun bt537 => ((laws_markActS.f k x12 bt537.1).bind fun bt539 => (if bt539.1 < 0 then (laws_FnExactAfterActs.j8 k x1 x2 x8 x9 x13 true x482000 x482001 x482002) else ((laws_eqIntS.f k x13 x8).bind fun t541 => (if t541 = true then (laws_FnExactAfterActs.j8 k x1 x2 x8 x9 x13 (x14 != x9) x482000 x482001 x482002) else (laws_FnExactAfterActs.j8 k x1 x2 x8 x9 x13 true x482000 x482001 x482002))))))
def laws_FnExactAfterActs.j8 : Nat → List Int → List (S51) → List Int → Int → List Int → Bool → Int → List Int → List (List (S128)) → Option (Bool)
 | 0, _, _, _, _, _, _, _, _, _ => none
 | k + 1, x1, x2, x8, x9, x13, x101, x482000, x482001, x482002 => if x101 = true then (some false) else (laws_FnExactAfterActs.j9 k x1 x2 x8 x9 x13 x482000 x482001 x482002)
def laws_FnExactAfterActs.j9 : Nat → List Int → List (S51) → List Int → Int → List Int → Int → List Int → List (List (S128)) → Option (Bool)
 | 0, _, _, _, _, _, _, _, _ => none
 | k + 1, x1, x2, x8, x9, x13, x482000, x482001, x482002 => (laws_markIntS.f k x13 1).bind fun bt542 => ((laws_heldIntS.f k bt542.2 1).bind fun t544 => (if t544 < 0 then (some false) else (laws_FnExactAfterActs.j10 k x1 x2 x8 x9 bt542.2 bt542.1 t544 x482000 x482001 x482002)))
def laws_FnExactAfterActs.j10 : Nat → List Int → List (S51) → List Int → Int → List Int → Int → Int → Int → List Int → List (List (S128)) → Option (Bool)
 | 0, _, _, _, _, _, _, _, _, _, _ => none
 | k + 1, x1, x2, x8, x9, x13, x16, x17, x482000, x482001, x482002 => if x17 = x16 then (laws_FnExactAfterActs.j11 k x1 x2 x8 x9 x13 x16 x482000 x482001 x482002) else (some false)
def laws_FnExactAfterActs.j11 : Nat → List Int → List (S51) → List Int → Int → List Int → Int → Int → List Int → List (List (S128)) → Option (Bool)
 | 0, _, _, _, _, _, _, _, _, _ => none
 | k + 1, x1, x2, x8, x9, x13, x16, x482000, x482001, x482002 => (laws_toCharter.f k x482000 x482001 x482002).bind fun bt545 => ((laws_toIntS.f k x1).bind fun t552 => ((laws_toActS.f k x2).bind fun t555 => ((impl_AfterActs.f k bt545.1 bt545.2.1 bt545.2.2 t552 t555).bind fun bt558 => ((laws_eqIntS.f k bt558.1 x8).bind fun t562 => (if t562 = true then (laws_FnExactAfterActs.j12 k x13 x16 (bt558.2 != x9)) else (laws_FnExactAfterActs.j12 k x13 x16 true))))))
def laws_FnExactAfterActs.j12 : Nat → List Int → Int → Bool → Option (Bool)
 | 0, _, _, _ => none
 | k + 1, x13, x16, x131 => if x131 = true then (some false) else (laws_FnExactAfterActs.j13 k x13 x16)
def laws_FnExactAfterActs.j13 : Nat → List Int → Int → Option (Bool)
 | 0, _, _ => none
 | k + 1, x13, x16 => (laws_heldIntS.f k x13 1).bind fun t563 => (if t563 < 0 then (some false) else (if t563 = x16 then (some true) else (some false)))
end
def laws_FnExactAfterActs.f (k : Nat) (a0_0 : Int) (l0_1 : List Int) (l0_2 : List (List (S128))) (l1 : List Int) (l2 : List (S51)) : Option (Bool) := if (l1.length : Int) > 1048576 then (some true) else (laws_FnExactAfterActs.j0 k l1 l2 a0_0 l0_1 l0_2)
set_option maxHeartbeats 8000000 in
set_option maxRecDepth 100000 in
theorem laws_FnExactAfterActs.calls (k : Nat) (a0_0 : Int) (A0_1 : Option Addr) (c0_1 : Nat) (l0_1 : List Int) (A0_2 : Option Addr) (c0_2 : Nat) (l0_2 : List (List (S128))) (A1 : Option Addr) (c1 : Nat) (l1 : List Int) (A2 : Option Addr) (c2 : Nat) (l2 : List (S51)) (r : Bool) (w : World) (hr0_1 : Kd.C (Kd.int .i64) w A0_1 l0_1.length l0_1) (hc0_1 : l0_1.length ≤ c0_1) (hr0_2 : Kd.C (Kd.slice 128 k128) w A0_2 l0_2.length l0_2) (hc0_2 : l0_2.length ≤ c0_2) (hr1 : Kd.C (Kd.int .i64) w A1 l1.length l1) (hc1 : l1.length ≤ c1) (hr2 : Kd.C k51 w A2 l2.length l2) (hc2 : l2.length ≤ c2) (h : laws_FnExactAfterActs.f k a0_0 l0_1 l0_2 l1 l2 = some r) :
  Calls Try.prog 4 #[.agg #[.int .i64 a0_0, .slice A0_1 l0_1.length c0_1, .slice A0_2 l0_2.length c0_2], .slice A1 l1.length c1, .slice A2 l2.length c2] w fun e w' => e = .returned (.bool r) ∧ Below w.heap.size w w' := by
 have hu27 := Try.underlying27
 have hu35 := Try.underlying35
 have HR0_1 := Aside0.mk hr0_1
 have HC0_1 := Aside0.mk hc0_1
 clear hr0_1 hc0_1
 have HR0_2 := Aside0.mk hr0_2
 have HC0_2 := Aside0.mk hc0_2
 clear hr0_2 hc0_2
 have HR1 := Aside0.mk hr1
 have HC1 := Aside0.mk hc1
 clear hr1 hc1
 have HR2 := Aside0.mk hr2
 have HC2 := Aside0.mk hc2
 clear hr2 hc2
 have HB := Aside0.mk (Below.refl w.heap.size w)
 have H := h
 clear h
 unfold laws_FnExactAfterActs.f at H
 have HC4 := Aside0.mk H
 clear H
 go_enter Try.func4, Try.ntmps4
 go_upto_if 22 with (((with_reducible refine gate_dst (N := 3) rfl ?_); refine Z.bx #[.int .i64 a0_0, .slice A0_1 l0_1.length c0_1, .slice A0_2 l0_2.length c0_2] 27 HB ?_; clear HB; intro gb481 w5 BK481 GE481 HB hg hb; have GW481 := GE481; clear hb hg))
 go_cut [] (fun wc => ∃ (kq : Nat), Aside0 (laws_FnExactAfterActs.j0 kq l1 l2 a0_0 l0_1 l0_2 = some r) ∧ Aside0 (kq ≤ k) ∧ Aside0 (wc.heap[gb481]? = some (.cells #[.int .i64 a0_0, (.slice A0_1 l0_1.length c0_1), (.slice A0_2 l0_2.length c0_2)] 27 (0, 0))) ∧ Aside0 (Below w.heap.size w wc))
 case first =>
  have H := HC4.out
  clear HC4
  by_cases c6 : (l1.length : Int) > 1048576
  ·rw [if_pos c6] at H
   have c6b0 : decide (1048576 < (l1.length : Int)) = true := decide_eq_true c6
   have c6b1 : decide (1048576 < l1.length) = true := decide_eq_true (by omega)
   clear c6
   (rw [c6b0])
   obtain rfl := Option.some.inj H
   go_wp2
   go_ret
   exact ⟨by rfl, Z.bs HB.out GE481.out⟩
  ·rw [if_neg c6] at H
   have c6b0 : decide (1048576 < (l1.length : Int)) = false := decide_eq_false c6
   have c6b1 : decide (1048576 < l1.length) = false := decide_eq_false (by omega)
   clear c6
   (rw [c6b0])
   have H' := Aside0.mk H
   clear H
   go_wp2
   go_meet
   case rel => exact ⟨_, H', ⟨by omega⟩, ⟨by (with_reducible skip); exact BK481.out⟩, ⟨Z.bs HB.out GE481.out⟩⟩
 case rest =>
  clear HC4
  obtain ⟨kq, HA, HJ3, BK481, HB⟩ := hcut
  cases kq with
  | zero => exact absurd HA.out (by simp [laws_FnExactAfterActs.j0])
  | succ kj3 =>
   have H := HA.out
   clear HA
   simp only [laws_FnExactAfterActs.j0] at H
   replace H := Option.bind_eq_some_iff.mp H
   obtain ⟨t482, A70, H⟩ := H
   have A7 := Aside0.mk A70
   clear A70
   have HC8 := Aside0.mk H
   clear H
   have hcz9 := Z.c3 BK481.out
   go_upto_if 27 with (((with_reducible refine gate_callee (f := 17) rfl ?_); refine goesL_ (some 25) rfl rfl Try.func17 (by kernel_rfl) rfl #[.agg #[.int .i64 a0_0, .slice A0_1 l0_1.length c0_1, .slice A0_2 l0_2.length c0_2], .int .i64 1048576] rfl Z.ar ?_; (with_reducible refine (laws_szCharter.calls kj3 a0_0 _ _ l0_1 _ _ l0_2 1048576 t482 _ ?q1 ?q2 ?q3 ?q4 A7.out).mono ?_); (case q1 => exact Z.cc HR0_1 HB); (case q2 => exact HC0_1.out); (case q3 => exact Z.cc HR0_2 HB); (case q4 => exact HC0_2.out); rintro e w10 ⟨rfl, hb⟩; refine ⟨_, rfl, ?_⟩; replace BK481 := Z.bb BK481 hb; replace HB := Z.st (Z.bs HB.out GE481.out) hb; (try clear hb)))
   go_cut [] (fun wc => ∃ (kq : Nat), Aside0 (laws_FnExactAfterActs.j1 kq l1 l2 t482 a0_0 l0_1 l0_2 = some r) ∧ Aside0 (kq ≤ kj3) ∧ Aside0 (wc.heap[gb481]? = some (.cells #[.int .i64 a0_0, (.slice A0_1 l0_1.length c0_1), (.slice A0_2 l0_2.length c0_2)] 27 (0, 0))) ∧ Aside0 (Below w.heap.size w wc))
   case first =>
    have H := HC8.out
    clear HC8
    by_cases c11 : t482 < 0
    ·rw [if_pos c11] at H
     have c11b0 := decide_eq_true c11
     clear c11
     (rw [c11b0])
     obtain rfl := Option.some.inj H
     go_wp2
     go_ret
     exact ⟨by rfl, Z.bs HB.out GE481.out⟩
    ·rw [if_neg c11] at H
     have c11b0 := decide_eq_false c11
     clear c11
     (rw [c11b0])
     have H' := Aside0.mk H
     clear H
     go_wp2
     go_meet
     case rel => exact ⟨_, H', ⟨by have := HJ3.out; omega⟩, ⟨by (with_reducible skip); exact BK481.out⟩, ⟨Z.bs HB.out GE481.out⟩⟩
   case rest =>
    clear HC8
    obtain ⟨kq, HA, HJ7, BK481, HB⟩ := hcut
    cases kq with
    | zero => exact absurd HA.out (by simp [laws_FnExactAfterActs.j1])
    | succ kj7 =>
     have H := HA.out
     clear HA
     simp only [laws_FnExactAfterActs.j1] at H
     replace H := Option.bind_eq_some_iff.mp H
     obtain ⟨t483, A120, H⟩ := H
     have A12 := Aside0.mk A120
     clear A120
     have HC13 := Aside0.mk H
     clear H
     go_upto_if 32 with (((with_reducible refine gate_callee (f := 18) rfl ?_); refine goesL_ (some 30) rfl rfl Try.func18 (by kernel_rfl) rfl #[.slice A2 l2.length c2, .int .i64 t482] rfl Z.ar ?_; (with_reducible refine (laws_szActS.calls _ _ l2 t482 t483 _ ?q1 ?q2 A12.out).mono ?_); (case q1 => exact Z.cc HR2 HB); (case q2 => exact HC2.out); rintro e w' ⟨rfl, ⟨nd, rfl⟩⟩; refine ⟨_, rfl, ?_⟩))
     go_cut [] (fun wc => ∃ (kq : Nat), Aside0 (laws_FnExactAfterActs.j2 kq l1 l2 a0_0 l0_1 l0_2 = some r) ∧ Aside0 (kq ≤ kj7) ∧ Aside0 (wc.heap[gb481]? = some (.cells #[.int .i64 a0_0, (.slice A0_1 l0_1.length c0_1), (.slice A0_2 l0_2.length c0_2)] 27 (0, 0))) ∧ Aside0 (Below w.heap.size w wc))
     case first =>
      have H := HC13.out
      clear HC13
      by_cases c14 : t483 < 0
      ·rw [if_pos c14] at H
       have c14b0 := decide_eq_true c14
       clear c14
       (rw [c14b0])
       obtain rfl := Option.some.inj H
       go_wp2
       go_ret
       exact ⟨by rfl, Z.bs HB.out GE481.out⟩
      ·rw [if_neg c14] at H
       have c14b0 := decide_eq_false c14
       clear c14
       (rw [c14b0])
       have H' := Aside0.mk H
       clear H
       go_wp2
       go_meet
       case rel => exact ⟨_, H', ⟨by have := HJ3.out; have := HJ7.out; omega⟩, ⟨by (with_reducible repeat (refine blk_drewN ?_ _)); exact BK481.out⟩, ⟨Z.bs HB.out GE481.out⟩⟩
     case rest =>
      clear HC13
      obtain ⟨kq, HA, HJ12, BK481, HB⟩ := hcut
      cases kq with
      | zero => exact absurd HA.out (by simp [laws_FnExactAfterActs.j2])
      | succ kj12 =>
       have H := HA.out
       clear HA
       simp only [laws_FnExactAfterActs.j2] at H
       replace H := Option.bind_eq_some_iff.mp H
       obtain ⟨⟨t484, t485, t488⟩, A150, H⟩ := H
       try dsimp only at H
       have A15 := Aside0.mk A150
       clear A150
       replace H := Option.bind_eq_some_iff.mp H
       obtain ⟨t491, A160, H⟩ := H
       have A16 := Aside0.mk A160
       clear A160
       replace H := Option.bind_eq_some_iff.mp H
       obtain ⟨t494, A170, H⟩ := H
       have A17 := Aside0.mk A170
       clear A170
       replace H := Option.bind_eq_some_iff.mp H
       obtain ⟨⟨t497, t500⟩, A180, H⟩ := H
       try dsimp only at H
       have A18 := Aside0.mk A180
       clear A180
       replace H := Option.bind_eq_some_iff.mp H
       obtain ⟨⟨t501, t502, t505⟩, A190, H⟩ := H
       try dsimp only at H
       have A19 := Aside0.mk A190
       clear A190
       replace H := Option.bind_eq_some_iff.mp H
       obtain ⟨t509, A200, H⟩ := H
       have A20 := Aside0.mk A200
       clear A200
       replace H := Option.bind_eq_some_iff.mp H
       obtain ⟨t512, A210, H⟩ := H
       have A21 := Aside0.mk A210
       clear A210
       replace H := Option.bind_eq_some_iff.mp H
       obtain ⟨⟨t515, t518⟩, A220, H⟩ := H
       try dsimp only at H
       have A22 := Aside0.mk A220
       clear A220
       have HC23 := Aside0.mk H
       clear H
       have hcz24 := Z.c3 BK481.out
       go_upto_region 15 with (first | ((with_reducible refine gate_callee (f := 20) rfl ?_); refine goesL_ (some 35) rfl rfl Try.func20 (by kernel_rfl) rfl #[.agg #[.int .i64 a0_0, .slice A0_1 l0_1.length c0_1, .slice A0_2 l0_2.length c0_2]] rfl Z.ar ?_; (with_reducible refine (laws_toCharter.calls kj12 a0_0 _ _ l0_1 _ _ l0_2 t484 t485 t488 _ ?q1 ?q2 ?q3 ?q4 A15.out).mono ?_); (case q1 => exact Z.cc HR0_1 HB); (case q2 => exact HC0_1.out); (case q3 => exact Z.cc HR0_2 HB); (case q4 => exact HC0_2.out); rintro e w25 ⟨v486, v489, rfl, ho0, ho1, hb⟩; refine ⟨_, rfl, ?_⟩; have HO487 := Aside0.mk (Kd.R_lower ho0 (below_size (Z.bs HB.out GE481.out))); have HO490 := Aside0.mk (Kd.R_lower ho1 (below_size (Z.bs HB.out GE481.out))); replace BK481 := Z.bb BK481 hb; replace HB := Z.st (Z.bs HB.out GE481.out) hb; (try clear hb); (try clear ho0); (try clear ho1)) | ((with_reducible refine gate_callee (f := 21) rfl ?_); refine goesL_ (some 37) rfl rfl Try.func21 (by kernel_rfl) rfl #[.slice A1 l1.length c1] rfl Z.ar ?_; (with_reducible refine (laws_toIntS.calls kj12 _ _ l1 t491 _ ?q1 ?q2 A16.out).mono ?_); (case q1 => exact Z.cc HR1 HB); (case q2 => exact HC1.out); rintro e w26 ⟨v492, rfl, ho0, hb⟩; refine ⟨_, rfl, ?_⟩; replace HO490 := Aside0.mk (Kd.R_below (by (with_reducible skip); exact HO490.out) hb); have HO493 := Aside0.mk (Kd.R_lower (Kd.R_new' ho0 (Kd.R_lt (by (with_reducible skip); exact HO487.out))) (below_size (Z.bs HB.out GE481.out))); replace HO487 := Aside0.mk (Kd.R_elder' (by (with_reducible skip); exact HO487.out) (Kd.R_base ho0) hb); replace BK481 := Z.bb BK481 hb; replace HB := Z.st (Z.bs HB.out GE481.out) hb; (try clear hb); (try clear ho0)) | ((with_reducible refine gate_callee (f := 22) rfl ?_); refine goesL_ (some 39) rfl rfl Try.func22 (by kernel_rfl) rfl #[.slice A2 l2.length c2] rfl Z.ar ?_; (with_reducible refine (laws_toActS.calls kj12 _ _ l2 t494 _ ?q1 ?q2 A17.out).mono ?_); (case q1 => exact Z.cc HR2 HB); (case q2 => exact HC2.out); rintro e w27 ⟨v495, rfl, ho0, hb⟩; refine ⟨_, rfl, ?_⟩; replace HO487 := Aside0.mk (Kd.R_below (by (with_reducible skip); exact HO487.out) hb); replace HO490 := Aside0.mk (Kd.R_below (by (with_reducible skip); exact HO490.out) hb); replace HO493 := Aside0.mk (Kd.R_below (by (with_reducible skip); exact HO493.out) hb); have HO496 := Aside0.mk (Kd.R_lower ho0 (below_size (Z.bs HB.out GE481.out))); replace BK481 := Z.bb BK481 hb; replace HB := Z.st (Z.bs HB.out GE481.out) hb; (try clear hb); (try clear ho0); obtain ⟨Ao28, co28, eo28⟩ := Kd.R_slice HO487.out; subst eo28; obtain ⟨Ao29, co29, eo29⟩ := Kd.R_slice HO490.out; subst eo29; obtain ⟨Ao30, co30, eo30⟩ := Kd.R_slice HO493.out; subst eo30; obtain ⟨Ao31, co31, eo31⟩ := Kd.R_slice HO496.out; subst eo31) | ((with_reducible refine gate_callee (f := 27) rfl ?_); refine goesL_ (some 40) rfl rfl Try.func27 (by kernel_rfl) rfl #[.agg #[.int .i64 t484, .slice Ao28 t485.length co28, .slice Ao29 t488.length co29], .slice Ao30 t491.length co30, .slice Ao31 t494.length co31] rfl Z.ar ?_; (with_reducible refine (spec_AfterActs.calls kj12 t484 _ _ t485 _ _ t488 _ _ t491 _ _ t494 t497 t500 _ ?q1 ?q2 ?q3 ?q4 ?q5 ?q6 ?q7 ?q8 A18.out).mono ?_); (case q1 => repeat (exact (Kd.R_reads' HO487.out).2.2)); (case q2 => exact (Kd.R_reads' HO487.out).2.1); (case q3 => repeat (exact (Kd.R_reads' HO490.out).2.2)); (case q4 => exact (Kd.R_reads' HO490.out).2.1); (case q5 => repeat (exact (Kd.R_reads' HO493.out).2.2)); (case q6 => exact (Kd.R_reads' HO493.out).2.1); (case q7 => repeat (exact (Kd.R_reads' HO496.out).2.2)); (case q8 => exact (Kd.R_reads' HO496.out).2.1); rintro e w32 ⟨v498, rfl, ho0, hb⟩; refine ⟨_, rfl, ?_⟩; replace HO490 := Aside0.mk (Kd.R_below (by (with_reducible skip); exact HO490.out) hb); replace HO496 := Aside0.mk (Kd.R_below (by (with_reducible skip); exact HO496.out) hb); have HO499 := Aside0.mk (Kd.R_lower (Kd.R_new' (Kd.R_new' ho0 (Kd.R_lt (by (with_reducible skip); exact HO487.out))) (Kd.R_lt (by (with_reducible skip); exact HO493.out))) (below_size (Z.bs HB.out GE481.out))); replace HO487 := Aside0.mk (Kd.R_elder' (by (with_reducible skip); exact HO487.out) (Kd.R_base ho0) hb); replace HO493 := Aside0.mk (Kd.R_elder' (by (with_reducible skip); exact HO493.out) (Kd.R_base ho0) hb); replace BK481 := Z.bb BK481 hb; replace HB := Z.st (Z.bs HB.out GE481.out) hb; (try clear hb); (try clear ho0); have hcz33 := Z.c3 BK481.out) | ((with_reducible refine gate_callee (f := 20) rfl ?_); refine goesL_ (some 44) rfl rfl Try.func20 (by kernel_rfl) rfl #[.agg #[.int .i64 a0_0, .slice A0_1 l0_1.length c0_1, .slice A0_2 l0_2.length c0_2]] rfl Z.ar ?_; (with_reducible refine (laws_toCharter.calls kj12 a0_0 _ _ l0_1 _ _ l0_2 t501 t502 t505 _ ?q1 ?q2 ?q3 ?q4 A19.out).mono ?_); (case q1 => exact Z.cc HR0_1 HB); (case q2 => exact HC0_1.out); (case q3 => exact Z.cc HR0_2 HB); (case q4 => exact HC0_2.out); rintro e w34 ⟨v503, v506, rfl, ho0, ho1, hb⟩; refine ⟨_, rfl, ?_⟩; replace HO496 := Aside0.mk (Kd.R_below (by (with_reducible skip); exact HO496.out) hb); have HO504 := Aside0.mk (Kd.R_lower (Kd.R_new' (Kd.R_new' (Kd.R_new' ho0 (Kd.R_lt (by (with_reducible skip); exact HO487.out))) (Kd.R_lt (by (with_reducible skip); exact HO493.out))) (Kd.R_lt (by (with_reducible skip); exact HO499.out))) (below_size (Z.bs HB.out GE481.out))); replace HO487 := Aside0.mk (Kd.R_elder' (by (with_reducible skip); exact HO487.out) (Kd.R_base ho0) hb); replace HO493 := Aside0.mk (Kd.R_elder' (by (with_reducible skip); exact HO493.out) (Kd.R_base ho0) hb); replace HO499 := Aside0.mk (Kd.R_elder' (by (with_reducible skip); exact HO499.out) (Kd.R_base ho0) hb); have HO507 := Aside0.mk (Kd.R_lower (Kd.R_new' ho1 (Kd.R_lt (by (with_reducible skip); exact HO490.out))) (below_size (Z.bs HB.out GE481.out))); replace HO490 := Aside0.mk (Kd.R_elder' (by (with_reducible skip); exact HO490.out) (Kd.R_base ho1) hb); replace BK481 := Z.bb BK481 hb; replace HB := Z.st (Z.bs HB.out GE481.out) hb; (try clear hb); (try clear ho0); (try clear ho1)) | ((with_reducible refine gate_dst (N := 10) rfl ?_); refine Z.bz #[.int .i64 0, .slice none 0 0, .slice none 0 0] 35 HB GE481 ?_; clear HB; intro gb508 w35 BK508 GE508 HB hg hb; have GW508 := GE508; replace HO487 := Aside0.mk (Kd.R_below (by (with_reducible skip); exact HO487.out) hb); replace HO490 := Aside0.mk (Kd.R_below (by (with_reducible skip); exact HO490.out) hb); replace HO493 := Aside0.mk (Kd.R_below (by (with_reducible skip); exact HO493.out) hb); replace HO496 := Aside0.mk (Kd.R_below (by (with_reducible skip); exact HO496.out) hb); replace HO499 := Aside0.mk (Kd.R_below (by (with_reducible skip); exact HO499.out) hb); replace HO504 := Aside0.mk (Kd.R_below (by (with_reducible skip); exact HO504.out) hb); replace HO507 := Aside0.mk (Kd.R_below (by (with_reducible skip); exact HO507.out) hb); have NB481_508 := Z.nl hg BK481; have NB508_481 := Z.ng hg BK481; replace BK481 := Z.bb BK481 hb; clear hb hg; have hnb36 := NB508_481.out; have hnc36 := NB481_508.out; have hcz37 := Z.c3 BK508.out; obtain ⟨Ao38, co38, eo38⟩ := Kd.R_slice HO504.out; subst eo38; obtain ⟨Ao39, co39, eo39⟩ := Kd.R_slice HO507.out; subst eo39) | ((with_reducible refine gate_callee (f := 21) rfl ?_); refine goesL_ (some 46) rfl rfl Try.func21 (by kernel_rfl) rfl #[.slice A1 l1.length c1] rfl Z.ar ?_; (with_reducible refine (laws_toIntS.calls kj12 _ _ l1 t509 _ ?q1 ?q2 A20.out).mono ?_); (case q1 => exact Kd.C_below HR1.out (by repeat ((with_reducible first | exact HB.out | refine below_set ?_ GE508.out)))); (case q2 => exact HC1.out); rintro e w40 ⟨v510, rfl, ho0, hb⟩; refine ⟨_, rfl, ?_⟩; replace HO490 := Aside0.mk (Kd.R_below (by (with_reducible skip); exact (Kd.R_mono (Kd.R_far (p := ⟨gb508, 2, none⟩) (Kd.R_far (p := ⟨gb508, 1, none⟩) (Kd.R_far (p := ⟨gb508, 0, none⟩) (Kd.R_types HO490.out BK508.out (by decide)) (fun _ hk => hk.2) (.int .i64 t501)) (fun _ hk => hk.2) (.slice Ao38 t502.length co38)) (fun _ hk => hk.2) (.slice Ao39 t505.length co39)) (fun _ h_ => h_.1))) hb); replace HO496 := Aside0.mk (Kd.R_below (by (with_reducible skip); exact (Kd.R_mono (Kd.R_far (p := ⟨gb508, 2, none⟩) (Kd.R_far (p := ⟨gb508, 1, none⟩) (Kd.R_far (p := ⟨gb508, 0, none⟩) (Kd.R_types HO496.out BK508.out (by decide)) (fun _ hk => hk.2) (.int .i64 t501)) (fun _ hk => hk.2) (.slice Ao38 t502.length co38)) (fun _ hk => hk.2) (.slice Ao39 t505.length co39)) (fun _ h_ => h_.1))) hb); replace HO507 := Aside0.mk (Kd.R_below (by (with_reducible skip); exact (Kd.R_mono (Kd.R_far (p := ⟨gb508, 2, none⟩) (Kd.R_far (p := ⟨gb508, 1, none⟩) (Kd.R_far (p := ⟨gb508, 0, none⟩) (Kd.R_types HO507.out BK508.out (by decide)) (fun _ hk => hk.2) (.int .i64 t501)) (fun _ hk => hk.2) (.slice Ao38 t502.length co38)) (fun _ hk => hk.2) (.slice Ao39 t505.length co39)) (fun _ h_ => h_.1))) hb); have HO511 := Aside0.mk (Kd.R_lower (Kd.R_new' (Kd.R_new' (Kd.R_new' (Kd.R_new' ho0 (Kd.R_lt (by (with_reducible skip); exact (Kd.R_mono (Kd.R_far (p := ⟨gb508, 2, none⟩) (Kd.R_far (p := ⟨gb508, 1, none⟩) (Kd.R_far (p := ⟨gb508, 0, none⟩) (Kd.R_types HO487.out BK508.out (by decide)) (fun _ hk => hk.2) (.int .i64 t501)) (fun _ hk => hk.2) (.slice Ao38 t502.length co38)) (fun _ hk => hk.2) (.slice Ao39 t505.length co39)) (fun _ h_ => h_.1))))) (Kd.R_lt (by (with_reducible skip); exact (Kd.R_mono (Kd.R_far (p := ⟨gb508, 2, none⟩) (Kd.R_far (p := ⟨gb508, 1, none⟩) (Kd.R_far (p := ⟨gb508, 0, none⟩) (Kd.R_types HO493.out BK508.out (by decide)) (fun _ hk => hk.2) (.int .i64 t501)) (fun _ hk => hk.2) (.slice Ao38 t502.length co38)) (fun _ hk => hk.2) (.slice Ao39 t505.length co39)) (fun _ h_ => h_.1))))) (Kd.R_lt (by (with_reducible skip); exact (Kd.R_mono (Kd.R_far (p := ⟨gb508, 2, none⟩) (Kd.R_far (p := ⟨gb508, 1, none⟩) (Kd.R_far (p := ⟨gb508, 0, none⟩) (Kd.R_types HO499.out BK508.out (by decide)) (fun _ hk => hk.2) (.int .i64 t501)) (fun _ hk => hk.2) (.slice Ao38 t502.length co38)) (fun _ hk => hk.2) (.slice Ao39 t505.length co39)) (fun _ h_ => h_.1))))) (Kd.R_lt (by (with_reducible skip); exact (Kd.R_mono (Kd.R_far (p := ⟨gb508, 2, none⟩) (Kd.R_far (p := ⟨gb508, 1, none⟩) (Kd.R_far (p := ⟨gb508, 0, none⟩) (Kd.R_types HO504.out BK508.out (by decide)) (fun _ hk => hk.2) (.int .i64 t501)) (fun _ hk => hk.2) (.slice Ao38 t502.length co38)) (fun _ hk => hk.2) (.slice Ao39 t505.length co39)) (fun _ h_ => h_.1))))) (below_size (by repeat ((with_reducible first | exact HB.out | refine below_set ?_ GE508.out))))); replace HO487 := Aside0.mk (Kd.R_elder' (by (with_reducible skip); exact (Kd.R_mono (Kd.R_far (p := ⟨gb508, 2, none⟩) (Kd.R_far (p := ⟨gb508, 1, none⟩) (Kd.R_far (p := ⟨gb508, 0, none⟩) (Kd.R_types HO487.out BK508.out (by decide)) (fun _ hk => hk.2) (.int .i64 t501)) (fun _ hk => hk.2) (.slice Ao38 t502.length co38)) (fun _ hk => hk.2) (.slice Ao39 t505.length co39)) (fun _ h_ => h_.1))) (Kd.R_base ho0) hb); replace HO493 := Aside0.mk (Kd.R_elder' (by (with_reducible skip); exact (Kd.R_mono (Kd.R_far (p := ⟨gb508, 2, none⟩) (Kd.R_far (p := ⟨gb508, 1, none⟩) (Kd.R_far (p := ⟨gb508, 0, none⟩) (Kd.R_types HO493.out BK508.out (by decide)) (fun _ hk => hk.2) (.int .i64 t501)) (fun _ hk => hk.2) (.slice Ao38 t502.length co38)) (fun _ hk => hk.2) (.slice Ao39 t505.length co39)) (fun _ h_ => h_.1))) (Kd.R_base ho0) hb); replace HO499 := Aside0.mk (Kd.R_elder' (by (with_reducible skip); exact (Kd.R_mono (Kd.R_far (p := ⟨gb508, 2, none⟩) (Kd.R_far (p := ⟨gb508, 1, none⟩) (Kd.R_far (p := ⟨gb508, 0, none⟩) (Kd.R_types HO499.out BK508.out (by decide)) (fun _ hk => hk.2) (.int .i64 t501)) (fun _ hk => hk.2) (.slice Ao38 t502.length co38)) (fun _ hk => hk.2) (.slice Ao39 t505.length co39)) (fun _ h_ => h_.1))) (Kd.R_base ho0) hb); replace HO504 := Aside0.mk (Kd.R_elder' (by (with_reducible skip); exact (Kd.R_mono (Kd.R_far (p := ⟨gb508, 2, none⟩) (Kd.R_far (p := ⟨gb508, 1, none⟩) (Kd.R_far (p := ⟨gb508, 0, none⟩) (Kd.R_types HO504.out BK508.out (by decide)) (fun _ hk => hk.2) (.int .i64 t501)) (fun _ hk => hk.2) (.slice Ao38 t502.length co38)) (fun _ hk => hk.2) (.slice Ao39 t505.length co39)) (fun _ h_ => h_.1))) (Kd.R_base ho0) hb); replace BK481 := Aside0.mk (blk_below (g := gb481) (o := .cells #[.int .i64 a0_0, .slice A0_1 l0_1.length c0_1, .slice A0_2 l0_2.length c0_2] 27 (0, 0)) (by (with_reducible skip); refine blk_far ?_ NB481_508.out _; (with_reducible skip); refine blk_far ?_ NB481_508.out _; (with_reducible skip); refine blk_far ?_ NB481_508.out _; (with_reducible skip); exact BK481.out) hb); replace BK508 := Aside0.mk (blk_below (g := gb508) (o := .cells #[.int .i64 t501, .slice Ao38 t502.length co38, .slice Ao39 t505.length co39] 35 (0, 0)) (by (with_reducible skip); refine blk_put (cs := #[.int .i64 t501, .slice Ao38 t502.length co38, .slice none 0 0]) ?_ 2 _ rfl; (with_reducible skip); refine blk_put (cs := #[.int .i64 t501, .slice none 0 0, .slice none 0 0]) ?_ 1 _ rfl; (with_reducible skip); refine blk_put (cs := #[.int .i64 0, .slice none 0 0, .slice none 0 0]) ?_ 0 _ rfl; (with_reducible skip); exact BK508.out) hb); replace HB := Aside0.mk (below_step (by repeat ((with_reducible first | exact HB.out | refine below_set ?_ GE508.out))) hb); (try clear hb); (try clear ho0)) | ((with_reducible refine gate_callee (f := 22) rfl ?_); refine goesL_ (some 48) rfl rfl Try.func22 (by kernel_rfl) rfl #[.slice A2 l2.length c2] rfl Z.ar ?_; (with_reducible refine (laws_toActS.calls kj12 _ _ l2 t512 _ ?q1 ?q2 A21.out).mono ?_); (case q1 => exact Z.cc HR2 HB); (case q2 => exact HC2.out); rintro e w41 ⟨v513, rfl, ho0, hb⟩; refine ⟨_, rfl, ?_⟩; replace HO487 := Aside0.mk (Kd.R_below (by (with_reducible skip); exact HO487.out) hb); replace HO490 := Aside0.mk (Kd.R_below (by (with_reducible skip); exact HO490.out) hb); replace HO493 := Aside0.mk (Kd.R_below (by (with_reducible skip); exact HO493.out) hb); replace HO499 := Aside0.mk (Kd.R_below (by (with_reducible skip); exact HO499.out) hb); replace HO504 := Aside0.mk (Kd.R_below (by (with_reducible skip); exact HO504.out) hb); replace HO507 := Aside0.mk (Kd.R_below (by (with_reducible skip); exact HO507.out) hb); replace HO511 := Aside0.mk (Kd.R_below (by (with_reducible skip); exact HO511.out) hb); have HO514 := Aside0.mk (Kd.R_lower (Kd.R_new' ho0 (Kd.R_lt (by (with_reducible skip); exact HO496.out))) (below_size (by repeat ((with_reducible exact HB.out))))); replace HO496 := Aside0.mk (Kd.R_elder' (by (with_reducible skip); exact HO496.out) (Kd.R_base ho0) hb); replace BK481 := Z.bb BK481 hb; replace BK508 := Z.bb BK508 hb; replace HB := Aside0.mk (below_step (by repeat ((with_reducible exact HB.out))) hb); (try clear hb); (try clear ho0); have hcz42 := Z.c3 BK508.out; obtain ⟨Ao43, co43, eo43⟩ := Kd.R_slice HO511.out; subst eo43; obtain ⟨Ao44, co44, eo44⟩ := Kd.R_slice HO514.out; subst eo44) | ((with_reducible refine gate_callee (f := 28) rfl ?_); refine goesL_ (some 53) rfl rfl Try.func28 (by kernel_rfl) rfl #[.agg #[.int .i64 t501, .slice Ao38 t502.length co38, .slice Ao39 t505.length co39], .slice Ao43 t509.length co43, .slice Ao44 t512.length co44] rfl Z.ar ?_; (with_reducible refine (impl_AfterActs.calls kj12 t501 _ _ t502 _ _ t505 _ _ t509 _ _ t512 t515 t518 _ ?q1 ?q2 ?q3 ?q4 ?q5 ?q6 ?q7 ?q8 A22.out).mono ?_); (case q1 => repeat (exact (Kd.R_reads' HO504.out).2.2)); (case q2 => exact (Kd.R_reads' HO504.out).2.1); (case q3 => repeat (exact (Kd.R_reads' HO507.out).2.2)); (case q4 => exact (Kd.R_reads' HO507.out).2.1); (case q5 => repeat (exact (Kd.R_reads' HO511.out).2.2)); (case q6 => exact (Kd.R_reads' HO511.out).2.1); (case q7 => repeat (exact (Kd.R_reads' HO514.out).2.2)); (case q8 => exact (Kd.R_reads' HO514.out).2.1); rintro e w45 ⟨v516, rfl, ho0, hb⟩; refine ⟨_, rfl, ?_⟩; replace HO490 := Aside0.mk (Kd.R_below (by (with_reducible skip); exact HO490.out) hb); replace HO496 := Aside0.mk (Kd.R_below (by (with_reducible skip); exact HO496.out) hb); replace HO507 := Aside0.mk (Kd.R_below (by (with_reducible skip); exact HO507.out) hb); replace HO514 := Aside0.mk (Kd.R_below (by (with_reducible skip); exact HO514.out) hb); have HO517 := Aside0.mk (Kd.R_lower (Kd.R_new' (Kd.R_new' (Kd.R_new' (Kd.R_new' (Kd.R_new' ho0 (Kd.R_lt (by (with_reducible skip); exact HO487.out))) (Kd.R_lt (by (with_reducible skip); exact HO493.out))) (Kd.R_lt (by (with_reducible skip); exact HO499.out))) (Kd.R_lt (by (with_reducible skip); exact HO504.out))) (Kd.R_lt (by (with_reducible skip); exact HO511.out))) (below_size (by repeat ((with_reducible exact HB.out))))); replace HO487 := Aside0.mk (Kd.R_elder' (by (with_reducible skip); exact HO487.out) (Kd.R_base ho0) hb); replace HO493 := Aside0.mk (Kd.R_elder' (by (with_reducible skip); exact HO493.out) (Kd.R_base ho0) hb); replace HO499 := Aside0.mk (Kd.R_elder' (by (with_reducible skip); exact HO499.out) (Kd.R_base ho0) hb); replace HO504 := Aside0.mk (Kd.R_elder' (by (with_reducible skip); exact HO504.out) (Kd.R_base ho0) hb); replace HO511 := Aside0.mk (Kd.R_elder' (by (with_reducible skip); exact HO511.out) (Kd.R_base ho0) hb); replace BK481 := Z.bb BK481 hb; replace BK508 := Z.bb BK508 hb; replace HB := Aside0.mk (below_step (by repeat ((with_reducible exact HB.out))) hb); (try clear hb); (try clear ho0)))
       go_cut [64] (fun v64 wc => ∃ (kq : Nat) (x64_22 : Bool), v64 = .bool x64_22 ∧ Aside0 (laws_FnExactAfterActs.j3 kq l1 l2 t497 t500 t509 t512 t515 t518 x64_22 a0_0 l0_1 l0_2 t501 t502 t505 = some r) ∧ Aside0 (kq ≤ kj12) ∧ Aside0 (Kd.R (Kd.int .i64) 3 wc w.heap.size (fun k_ => some k_ ≠ ((.slice Ao43 t509.length co43) : Value).ownBlock ∧ some k_ ≠ (v516 : Value).ownBlock ∧ some k_ ≠ ((.slice Ao38 t502.length co38) : Value).ownBlock) v498 t497) ∧ Aside0 (Kd.R (Kd.int .i64) 3 wc w.heap.size (fun k_ => some k_ ≠ (v498 : Value).ownBlock ∧ some k_ ≠ (v516 : Value).ownBlock ∧ some k_ ≠ ((.slice Ao38 t502.length co38) : Value).ownBlock) (.slice Ao43 t509.length co43) t509) ∧ Aside0 (Kd.R k53 53 wc w.heap.size (fun _ => True) (.slice Ao44 t512.length co44) t512) ∧ Aside0 (Kd.R (Kd.int .i64) 3 wc w.heap.size (fun k_ => some k_ ≠ (v498 : Value).ownBlock ∧ some k_ ≠ ((.slice Ao43 t509.length co43) : Value).ownBlock ∧ some k_ ≠ ((.slice Ao38 t502.length co38) : Value).ownBlock) v516 t515) ∧ Aside0 (Kd.R (Kd.int .i64) 3 wc w.heap.size (fun k_ => some k_ ≠ (v498 : Value).ownBlock ∧ some k_ ≠ ((.slice Ao43 t509.length co43) : Value).ownBlock ∧ some k_ ≠ (v516 : Value).ownBlock) (.slice Ao38 t502.length co38) t502) ∧ Aside0 (Kd.R (Kd.slice 86 k86) 83 wc w.heap.size (fun _ => True) (.slice Ao39 t505.length co39) t505) ∧ Aside0 (wc.heap[gb481]? = some (.cells #[.int .i64 a0_0, (.slice A0_1 l0_1.length c0_1), (.slice A0_2 l0_2.length c0_2)] 27 (0, 0))) ∧ Aside0 (wc.heap[gb508]? = some (.cells #[.int .i64 t501, (.slice Ao38 t502.length co38), (.slice Ao39 t505.length co39)] 35 (0, 0))) ∧ Aside0 (Below w.heap.size w wc))
       case first =>
        have H := HC23.out
        clear HC23
        replace H := Option.bind_eq_some_iff.mp H
        obtain ⟨t519, A460, H⟩ := H
        have A46 := Aside0.mk A460
        clear A460
        by_cases c47 : t519 = true
        ·subst c47
         rw [if_pos rfl] at H
         have H' := Aside0.mk H
         clear H
         obtain ⟨Ao48, co48, eo48⟩ := Kd.R_slice HO517.out
         subst eo48
         obtain ⟨Ao49, co49, eo49⟩ := Kd.R_slice HO499.out
         subst eo49
         go_wp2_with (((with_reducible refine gate_callee (f := 25) rfl ?_); refine goesL_ (some 58) rfl rfl Try.func25 (by kernel_rfl) rfl #[.slice Ao48 t515.length co48, .slice Ao49 t497.length co49] rfl Z.ar ?_; (with_reducible refine (laws_eqIntS.calls kj12 _ _ t515 _ _ t497 true _ ?q1 ?q2 ?q3 ?q4 A46.out).mono ?_); (case q1 => repeat (exact (Kd.R_reads' HO517.out).2.2)); (case q2 => exact (Kd.R_reads' HO517.out).2.1); (case q3 => repeat (exact (Kd.R_reads' HO499.out).2.2)); (case q4 => exact (Kd.R_reads' HO499.out).2.1); rintro e w' ⟨rfl, ⟨nd, rfl⟩⟩; refine ⟨_, rfl, ?_⟩))
         go_meet
         case rel => exact ⟨_, ((t518 != t500)), (by rfl), H', ⟨by have := HJ3.out; have := HJ7.out; have := HJ12.out; omega⟩, ⟨by (with_reducible repeat (apply Kd.R_drewN)); exact Kd.R_mono HO499.out (fun _ hk => ⟨hk.1.2, ⟨hk.2, hk.1.1.2⟩⟩)⟩, ⟨by (with_reducible repeat (apply Kd.R_drewN)); exact Kd.R_mono HO511.out (fun _ hk => ⟨hk.1.1.2, ⟨hk.2, hk.1.2⟩⟩)⟩, ⟨by (with_reducible repeat (apply Kd.R_drewN)); exact Kd.R_mono HO514.out (fun _ hk => trivial)⟩, ⟨by (with_reducible repeat (apply Kd.R_drewN)); exact Kd.R_mono HO517.out (fun _ hk => ⟨hk.1.1.2, ⟨hk.2, hk.1.2⟩⟩)⟩, ⟨by (with_reducible repeat (apply Kd.R_drewN)); exact Kd.R_mono HO504.out (fun _ hk => ⟨hk.1.1.2, ⟨hk.1.2, hk.2⟩⟩)⟩, ⟨by (with_reducible repeat (apply Kd.R_drewN)); exact Kd.R_mono HO507.out (fun _ hk => trivial)⟩, ⟨by (with_reducible repeat (refine blk_drewN ?_ _)); exact BK481.out⟩, ⟨by (with_reducible repeat (refine blk_drewN ?_ _)); exact BK508.out⟩, ⟨by repeat ((with_reducible first | exact HB.out | apply pw_below_drewN))⟩⟩
        ·replace c47 := Bool.eq_false_iff.mpr c47
         subst c47
         rw [if_neg (show ¬ (false = true) by decide)] at H
         have H' := Aside0.mk H
         clear H
         obtain ⟨Ao50, co50, eo50⟩ := Kd.R_slice HO517.out
         subst eo50
         obtain ⟨Ao51, co51, eo51⟩ := Kd.R_slice HO499.out
         subst eo51
         go_wp2_with (((with_reducible refine gate_callee (f := 25) rfl ?_); refine goesL_ (some 58) rfl rfl Try.func25 (by kernel_rfl) rfl #[.slice Ao50 t515.length co50, .slice Ao51 t497.length co51] rfl Z.ar ?_; (with_reducible refine (laws_eqIntS.calls kj12 _ _ t515 _ _ t497 false _ ?q1 ?q2 ?q3 ?q4 A46.out).mono ?_); (case q1 => repeat (exact (Kd.R_reads' HO517.out).2.2)); (case q2 => exact (Kd.R_reads' HO517.out).2.1); (case q3 => repeat (exact (Kd.R_reads' HO499.out).2.2)); (case q4 => exact (Kd.R_reads' HO499.out).2.1); rintro e w' ⟨rfl, ⟨nd, rfl⟩⟩; refine ⟨_, rfl, ?_⟩))
         go_meet
         case rel => exact ⟨_, (true), (by rfl), H', ⟨by have := HJ3.out; have := HJ7.out; have := HJ12.out; omega⟩, ⟨by (with_reducible repeat (apply Kd.R_drewN)); exact Kd.R_mono HO499.out (fun _ hk => ⟨hk.1.2, ⟨hk.2, hk.1.1.2⟩⟩)⟩, ⟨by (with_reducible repeat (apply Kd.R_drewN)); exact Kd.R_mono HO511.out (fun _ hk => ⟨hk.1.1.2, ⟨hk.2, hk.1.2⟩⟩)⟩, ⟨by (with_reducible repeat (apply Kd.R_drewN)); exact Kd.R_mono HO514.out (fun _ hk => trivial)⟩, ⟨by (with_reducible repeat (apply Kd.R_drewN)); exact Kd.R_mono HO517.out (fun _ hk => ⟨hk.1.1.2, ⟨hk.2, hk.1.2⟩⟩)⟩, ⟨by (with_reducible repeat (apply Kd.R_drewN)); exact Kd.R_mono HO504.out (fun _ hk => ⟨hk.1.1.2, ⟨hk.1.2, hk.2⟩⟩)⟩, ⟨by (with_reducible repeat (apply Kd.R_drewN)); exact Kd.R_mono HO507.out (fun _ hk => trivial)⟩, ⟨by (with_reducible repeat (refine blk_drewN ?_ _)); exact BK481.out⟩, ⟨by (with_reducible repeat (refine blk_drewN ?_ _)); exact BK508.out⟩, ⟨by repeat ((with_reducible first | exact HB.out | apply pw_below_drewN))⟩⟩
       case rest =>
        clear HC23
        obtain ⟨kq, x64_22, rfl, HA, HJ22, HO_8, HO_11, HO_12, HO_13, HO_509001, HO_509002, BK481, BK508, HB⟩ := hcut
        cases kq with
        | zero => exact absurd HA.out (by simp [laws_FnExactAfterActs.j3])
        | succ kj22 =>
         have H := HA.out
         clear HA
         simp only [laws_FnExactAfterActs.j3] at H
         have HC52 := Aside0.mk H
         clear H
         go_upto_if 64 with (fail)
         go_cut [] (fun wc => ∃ (kq : Nat), Aside0 (laws_FnExactAfterActs.j4 kq l1 l2 t497 t500 t509 t512 t515 t518 a0_0 l0_1 l0_2 t501 t502 t505 = some r) ∧ Aside0 (kq ≤ kj22) ∧ Aside0 (Kd.R (Kd.int .i64) 3 wc w.heap.size (fun k_ => some k_ ≠ ((.slice Ao43 t509.length co43) : Value).ownBlock ∧ some k_ ≠ (v516 : Value).ownBlock ∧ some k_ ≠ ((.slice Ao38 t502.length co38) : Value).ownBlock) v498 t497) ∧ Aside0 (Kd.R (Kd.int .i64) 3 wc w.heap.size (fun k_ => some k_ ≠ (v498 : Value).ownBlock ∧ some k_ ≠ (v516 : Value).ownBlock ∧ some k_ ≠ ((.slice Ao38 t502.length co38) : Value).ownBlock) (.slice Ao43 t509.length co43) t509) ∧ Aside0 (Kd.R k53 53 wc w.heap.size (fun _ => True) (.slice Ao44 t512.length co44) t512) ∧ Aside0 (Kd.R (Kd.int .i64) 3 wc w.heap.size (fun k_ => some k_ ≠ (v498 : Value).ownBlock ∧ some k_ ≠ ((.slice Ao43 t509.length co43) : Value).ownBlock ∧ some k_ ≠ ((.slice Ao38 t502.length co38) : Value).ownBlock) v516 t515) ∧ Aside0 (Kd.R (Kd.int .i64) 3 wc w.heap.size (fun k_ => some k_ ≠ (v498 : Value).ownBlock ∧ some k_ ≠ ((.slice Ao43 t509.length co43) : Value).ownBlock ∧ some k_ ≠ (v516 : Value).ownBlock) (.slice Ao38 t502.length co38) t502) ∧ Aside0 (Kd.R (Kd.slice 86 k86) 83 wc w.heap.size (fun _ => True) (.slice Ao39 t505.length co39) t505) ∧ Aside0 (wc.heap[gb481]? = some (.cells #[.int .i64 a0_0, (.slice A0_1 l0_1.length c0_1), (.slice A0_2 l0_2.length c0_2)] 27 (0, 0))) ∧ Aside0 (wc.heap[gb508]? = some (.cells #[.int .i64 t501, (.slice Ao38 t502.length co38), (.slice Ao39 t505.length co39)] 35 (0, 0))) ∧ Aside0 (Below w.heap.size w wc))
         case first =>
          have H := HC52.out
          clear HC52
          by_cases c53 : x64_22 = true
          ·subst c53
           rw [if_pos rfl] at H
           obtain rfl := Option.some.inj H
           go_wp2
           go_ret
           exact ⟨by rfl, by repeat ((with_reducible exact HB.out))⟩
          ·replace c53 := Bool.eq_false_iff.mpr c53
           subst c53
           rw [if_neg (show ¬ (false = true) by decide)] at H
           have H' := Aside0.mk H
           clear H
           go_wp2
           go_meet
           case rel => exact ⟨_, H', ⟨by have := HJ3.out; have := HJ7.out; have := HJ12.out; have := HJ22.out; omega⟩, ⟨by (with_reducible skip); exact HO_8.out⟩, ⟨by (with_reducible skip); exact HO_11.out⟩, ⟨by (with_reducible skip); exact HO_12.out⟩, ⟨by (with_reducible skip); exact HO_13.out⟩, ⟨by (with_reducible skip); exact HO_509001.out⟩, ⟨by (with_reducible skip); exact HO_509002.out⟩, ⟨by (with_reducible skip); exact BK481.out⟩, ⟨by (with_reducible skip); exact BK508.out⟩, ⟨by repeat ((with_reducible exact HB.out))⟩⟩
         case rest =>
          clear HC52
          obtain ⟨kq, HA, HJ51, HO_8, HO_11, HO_12, HO_13, HO_509001, HO_509002, BK481, BK508, HB⟩ := hcut
          cases kq with
          | zero => exact absurd HA.out (by simp [laws_FnExactAfterActs.j4])
          | succ kj51 =>
           have H := HA.out
           clear HA
           simp only [laws_FnExactAfterActs.j4] at H
           replace H := Option.bind_eq_some_iff.mp H
           obtain ⟨⟨t520, t521, t524⟩, A540, H⟩ := H
           try dsimp only at H
           have A54 := Aside0.mk A540
           clear A540
           replace H := Option.bind_eq_some_iff.mp H
           obtain ⟨t527, A550, H⟩ := H
           have A55 := Aside0.mk A550
           clear A550
           have HC56 := Aside0.mk H
           clear H
           try go_wp2
           replace HO_8 := Aside0.mk (Kd.R_drew HO_8.out)
           replace HO_11 := Aside0.mk (Kd.R_drew HO_11.out)
           replace HO_12 := Aside0.mk (Kd.R_drew HO_12.out)
           replace HO_13 := Aside0.mk (Kd.R_drew HO_13.out)
           replace HO_509001 := Aside0.mk (Kd.R_drew HO_509001.out)
           replace HO_509002 := Aside0.mk (Kd.R_drew HO_509002.out)
           replace BK481 := Aside0.mk (blk_drew BK481.out)
           replace BK508 := Aside0.mk (blk_drew BK508.out)
           replace HB := Aside0.mk (below_drew1 HB.out)
           refine start_ (n := 5) (S := fun w' => w'.cell? ⟨gb508, 0, none⟩ = some (.int .i64 t501) ∧ w'.cell? ⟨gb508, 1, none⟩ = some (.slice Ao38 t502.length co38) ∧ w'.cell? ⟨gb508, 2, none⟩ = some (.slice Ao39 t505.length co39) ∧ w'.cell? ⟨gb481, 0, none⟩ = some (.int .i64 a0_0) ∧ w'.cell? ⟨gb481, 1, none⟩ = some (.slice A0_1 l0_1.length c0_1) ∧ w'.cell? ⟨gb481, 2, none⟩ = some (.slice A0_2 l0_2.length c0_2)) (ds := []) #[false, false, false, false, false] (by kernel_rfl) rfl rfl ⟨(blk_cell BK508.out 0).trans rfl, (blk_cell BK508.out 1).trans rfl, (blk_cell BK508.out 2).trans rfl, (blk_cell BK481.out 0).trans rfl, (blk_cell BK481.out 1).trans rfl, (blk_cell BK481.out 2).trans rfl⟩ (fun hHeld => ?_)
           generalize wc.drew = w57 at HO_8 HO_11 HO_12 HO_13 HO_509001 HO_509002 BK481 BK508 HB hHeld ⊢
           refine take_ (i := 0) (N := some 65) (v := ?_) (a' := ?_) #[true, false, false, false, false] rfl rfl (by kernel_rfl) (fun _ _ _ h => h) (Or.inl ⟨by rfl, ?_⟩) hHeld ?_ ?_
           rotate_left
           ·rintro w' ⟨s0, s1, s2, s3, s4, s5⟩
            go_simp
            with_reducible rfl
           rotate_left
           ·simp only [Act.put, List.setIfInBounds_toArray, List.set_cons_zero, List.set_cons_succ, i64_w, i32_w]
            rfl
           refine take_ (i := 1) (N := some 66) (v := ?_) (a' := ?_) #[true, true, false, false, false] rfl rfl (by kernel_rfl) (fun _ _ _ h => h) (Or.inl ⟨by rfl, ?_⟩) hHeld ?_ ?_
           rotate_left
           ·rintro w' ⟨s0, s1, s2, s3, s4, s5⟩
            go_simp
            with_reducible rfl
           rotate_left
           ·simp only [Act.put, List.setIfInBounds_toArray, List.set_cons_zero, List.set_cons_succ, i64_w, i32_w]
            rfl
           refine one_ (i := 2) (N := some 67) (Z.mb 5 7) rfl rfl (by kernel_rfl) (by decide) (fun K hK => ?_)
           refine goes_ Try.func20 (by kernel_rfl) rfl #[.agg #[.int .i64 a0_0, .slice A0_1 l0_1.length c0_1, .slice A0_2 l0_2.length c0_2]] (by rfl) rfl rfl Z.ar ?_
           with_reducible refine (laws_toCharter.calls kj51 a0_0 _ _ l0_1 _ _ l0_2 t520 t521 t524 _ ?q1 ?q2 ?q3 ?q4 A54.out).mono ?_
           (case q1 => exact Z.cc HR0_1 HB)
           (case q2 => exact HC0_1.out)
           (case q3 => exact Z.cc HR0_2 HB)
           (case q4 => exact HC0_2.out)
           rintro e w58 ⟨v522, v525, rfl, ho0, ho1, hb⟩
           refine ⟨_, rfl, ?_⟩
           replace HO_12 := Aside0.mk (Kd.R_below (by (with_reducible skip); exact HO_12.out) hb)
           have HO523 := Aside0.mk (Kd.R_lower (Kd.R_new' (Kd.R_new' (Kd.R_new' (Kd.R_new' ho0 (Kd.R_lt (by (with_reducible skip); exact HO_8.out))) (Kd.R_lt (by (with_reducible skip); exact HO_11.out))) (Kd.R_lt (by (with_reducible skip); exact HO_13.out))) (Kd.R_lt (by (with_reducible skip); exact HO_509001.out))) (below_size (by repeat ((with_reducible exact HB.out)))))
           replace HO_8 := Aside0.mk (Kd.R_elder' (by (with_reducible skip); exact HO_8.out) (Kd.R_base ho0) hb)
           replace HO_11 := Aside0.mk (Kd.R_elder' (by (with_reducible skip); exact HO_11.out) (Kd.R_base ho0) hb)
           replace HO_13 := Aside0.mk (Kd.R_elder' (by (with_reducible skip); exact HO_13.out) (Kd.R_base ho0) hb)
           replace HO_509001 := Aside0.mk (Kd.R_elder' (by (with_reducible skip); exact HO_509001.out) (Kd.R_base ho0) hb)
           have HO526 := Aside0.mk (Kd.R_lower (Kd.R_new' ho1 (Kd.R_lt (by (with_reducible skip); exact HO_509002.out))) (below_size (by repeat ((with_reducible exact HB.out)))))
           replace HO_509002 := Aside0.mk (Kd.R_elder' (by (with_reducible skip); exact HO_509002.out) (Kd.R_base ho1) hb)
           replace BK481 := Z.bb BK481 hb
           replace BK508 := Z.bb BK508 hb
           replace HB := Aside0.mk (below_step (by repeat ((with_reducible exact HB.out))) hb)
           (try clear hb)
           (try clear ho0)
           (try clear ho1)
           obtain ⟨Ao59, co59, eo59⟩ := Kd.R_slice HO523.out
           (subst eo59)
           obtain ⟨Ao60, co60, eo60⟩ := Kd.R_slice HO526.out
           (subst eo60)
           refine hK.out _ _ ⟨(blk_cell BK508.out 0).trans rfl, (blk_cell BK508.out 1).trans rfl, (blk_cell BK508.out 2).trans rfl, (blk_cell BK481.out 0).trans rfl, (blk_cell BK481.out 1).trans rfl, (blk_cell BK481.out 2).trans rfl⟩ (fun hHeld => ?_)
           clear hK K
           refine Z.nm ?_
           refine one_ (i := 3) (N := some 68) (Z.mb 5 15) rfl rfl (by kernel_rfl) (by decide) (fun K hK => ?_)
           refine goes_ Try.func24 (by kernel_rfl) rfl #[.agg #[.int .i64 t501, .slice Ao38 t502.length co38, .slice Ao39 t505.length co39], .agg #[.int .i64 t520, .slice Ao59 t521.length co59, .slice Ao60 t524.length co60]] (by rfl) rfl rfl Z.ar ?_
           with_reducible refine (laws_eqCharter.calls kj51 t501 _ _ t502 _ _ t505 t520 _ _ t521 _ _ t524 t527 _ ?q1 ?q2 ?q3 ?q4 ?q5 ?q6 ?q7 ?q8 A55.out).mono ?_
           (case q1 => repeat (exact (Kd.R_reads' HO_509001.out).2.2))
           (case q2 => exact (Kd.R_reads' HO_509001.out).2.1)
           (case q3 => repeat (exact (Kd.R_reads' HO_509002.out).2.2))
           (case q4 => exact (Kd.R_reads' HO_509002.out).2.1)
           (case q5 => repeat (exact (Kd.R_reads' HO523.out).2.2))
           (case q6 => exact (Kd.R_reads' HO523.out).2.1)
           (case q7 => repeat (exact (Kd.R_reads' HO526.out).2.2))
           (case q8 => exact (Kd.R_reads' HO526.out).2.1)
           rintro e w61 ⟨rfl, hb⟩
           refine ⟨_, rfl, ?_⟩
           replace HO_8 := Aside0.mk (Kd.R_below (by (with_reducible skip); exact HO_8.out) hb)
           replace HO_11 := Aside0.mk (Kd.R_below (by (with_reducible skip); exact HO_11.out) hb)
           replace HO_12 := Aside0.mk (Kd.R_below (by (with_reducible skip); exact HO_12.out) hb)
           replace HO_13 := Aside0.mk (Kd.R_below (by (with_reducible skip); exact HO_13.out) hb)
           replace HO_509001 := Aside0.mk (Kd.R_below (by (with_reducible skip); exact HO_509001.out) hb)
           replace HO_509002 := Aside0.mk (Kd.R_below (by (with_reducible skip); exact HO_509002.out) hb)
           replace HO523 := Aside0.mk (Kd.R_below (by (with_reducible skip); exact HO523.out) hb)
           replace HO526 := Aside0.mk (Kd.R_below (by (with_reducible skip); exact HO526.out) hb)
           replace BK481 := Z.bb BK481 hb
           replace BK508 := Z.bb BK508 hb
           replace HB := Aside0.mk (below_step (by repeat ((with_reducible exact HB.out))) hb)
           (try clear hb)
           refine hK.out _ _ ⟨(blk_cell BK508.out 0).trans rfl, (blk_cell BK508.out 1).trans rfl, (blk_cell BK508.out 2).trans rfl, (blk_cell BK481.out 0).trans rfl, (blk_cell BK481.out 1).trans rfl, (blk_cell BK481.out 2).trans rfl⟩ (fun hHeld => ?_)
           clear hK K
           refine Z.nm ?_
           refine pure_ (i := 4) (N := some 69) (v := ?_) (a' := ?_) #[true, true, true, true, true] rfl rfl (by kernel_rfl) (fun _ _ _ h => h) (Or.inl ⟨by rfl, ?_⟩) ?_ ?_
           rotate_left
           ·intro w'
            go_simp
            with_reducible rfl
           rotate_left
           ·simp only [Act.put, List.setIfInBounds_toArray, List.set_cons_zero, List.set_cons_succ, i64_w, i32_w]
            rfl
           refine done_ (by kernel_rfl) ?_
           go_upto_if 69 with (fail)
           go_cut [] (fun wc => ∃ (kq : Nat), Aside0 (laws_FnExactAfterActs.j5 kq l1 l2 t497 t500 t509 t512 t515 t518 a0_0 l0_1 l0_2 t501 t502 t505 = some r) ∧ Aside0 (kq ≤ kj51) ∧ Aside0 (Kd.R (Kd.int .i64) 3 wc w.heap.size (fun k_ => some k_ ≠ ((.slice Ao43 t509.length co43) : Value).ownBlock ∧ some k_ ≠ (v516 : Value).ownBlock ∧ some k_ ≠ ((.slice Ao38 t502.length co38) : Value).ownBlock) v498 t497) ∧ Aside0 (Kd.R (Kd.int .i64) 3 wc w.heap.size (fun k_ => some k_ ≠ (v498 : Value).ownBlock ∧ some k_ ≠ (v516 : Value).ownBlock ∧ some k_ ≠ ((.slice Ao38 t502.length co38) : Value).ownBlock) (.slice Ao43 t509.length co43) t509) ∧ Aside0 (Kd.R k53 53 wc w.heap.size (fun _ => True) (.slice Ao44 t512.length co44) t512) ∧ Aside0 (Kd.R (Kd.int .i64) 3 wc w.heap.size (fun k_ => some k_ ≠ (v498 : Value).ownBlock ∧ some k_ ≠ ((.slice Ao43 t509.length co43) : Value).ownBlock ∧ some k_ ≠ ((.slice Ao38 t502.length co38) : Value).ownBlock) v516 t515) ∧ Aside0 (Kd.R (Kd.int .i64) 3 wc w.heap.size (fun k_ => some k_ ≠ (v498 : Value).ownBlock ∧ some k_ ≠ ((.slice Ao43 t509.length co43) : Value).ownBlock ∧ some k_ ≠ (v516 : Value).ownBlock) (.slice Ao38 t502.length co38) t502) ∧ Aside0 (Kd.R (Kd.slice 86 k86) 83 wc w.heap.size (fun _ => True) (.slice Ao39 t505.length co39) t505) ∧ Aside0 (wc.heap[gb481]? = some (.cells #[.int .i64 a0_0, (.slice A0_1 l0_1.length c0_1), (.slice A0_2 l0_2.length c0_2)] 27 (0, 0))) ∧ Aside0 (wc.heap[gb508]? = some (.cells #[.int .i64 t501, (.slice Ao38 t502.length co38), (.slice Ao39 t505.length co39)] 35 (0, 0))) ∧ Aside0 (Below w.heap.size w wc))
           case first =>
            have H := HC56.out
            clear HC56
            by_cases c62 : t527 = true
            ·subst c62
             rw [if_pos rfl] at H
             have H' := Aside0.mk H
             clear H
             go_wp2
             go_meet
             case rel => exact ⟨_, H', ⟨by have := HJ3.out; have := HJ7.out; have := HJ12.out; have := HJ22.out; have := HJ51.out; omega⟩, ⟨by (with_reducible skip); exact Kd.R_mono HO_8.out (fun _ hk => ⟨hk.1.1, ⟨hk.1.2.1, hk.1.2.2⟩⟩)⟩, ⟨by (with_reducible skip); exact Kd.R_mono HO_11.out (fun _ hk => ⟨hk.1.1, ⟨hk.1.2.1, hk.1.2.2⟩⟩)⟩, ⟨by (with_reducible skip); exact HO_12.out⟩, ⟨by (with_reducible skip); exact Kd.R_mono HO_13.out (fun _ hk => ⟨hk.1.1, ⟨hk.1.2.1, hk.1.2.2⟩⟩)⟩, ⟨by (with_reducible skip); exact Kd.R_mono HO_509001.out (fun _ hk => ⟨hk.1.1, ⟨hk.1.2.1, hk.1.2.2⟩⟩)⟩, ⟨by (with_reducible skip); exact Kd.R_mono HO_509002.out (fun _ hk => trivial)⟩, ⟨by (with_reducible skip); exact BK481.out⟩, ⟨by (with_reducible skip); exact BK508.out⟩, ⟨by repeat ((with_reducible exact HB.out))⟩⟩
            ·replace c62 := Bool.eq_false_iff.mpr c62
             subst c62
             rw [if_neg (show ¬ (false = true) by decide)] at H
             obtain rfl := Option.some.inj H
             go_wp2
             go_ret
             exact ⟨by rfl, by repeat ((with_reducible exact HB.out))⟩
           case rest =>
            clear HC56
            obtain ⟨kq, HA, HJ55, HO_8, HO_11, HO_12, HO_13, HO_509001, HO_509002, BK481, BK508, HB⟩ := hcut
            cases kq with
            | zero => exact absurd HA.out (by simp [laws_FnExactAfterActs.j5])
            | succ kj55 =>
             have H := HA.out
             clear HA
             simp only [laws_FnExactAfterActs.j5] at H
             replace H := Option.bind_eq_some_iff.mp H
             obtain ⟨t528, A630, H⟩ := H
             have A63 := Aside0.mk A630
             clear A630
             replace H := Option.bind_eq_some_iff.mp H
             obtain ⟨t531, A640, H⟩ := H
             have A64 := Aside0.mk A640
             clear A640
             have HC65 := Aside0.mk H
             clear H
             go_upto_if 74 with (first | ((with_reducible refine gate_callee (f := 21) rfl ?_); refine goesL_ (some 72) rfl rfl Try.func21 (by kernel_rfl) rfl #[.slice A1 l1.length c1] rfl Z.ar ?_; (with_reducible refine (laws_toIntS.calls kj55 _ _ l1 t528 _ ?q1 ?q2 A63.out).mono ?_); (case q1 => exact Z.cc HR1 HB); (case q2 => exact HC1.out); rintro e w66 ⟨v529, rfl, ho0, hb⟩; refine ⟨_, rfl, ?_⟩; replace HO_12 := Aside0.mk (Kd.R_below (by (with_reducible skip); exact HO_12.out) hb); replace HO_509002 := Aside0.mk (Kd.R_below (by (with_reducible skip); exact HO_509002.out) hb); have HO530 := Aside0.mk (Kd.R_lower (Kd.R_new' (Kd.R_new' (Kd.R_new' (Kd.R_new' ho0 (Kd.R_lt (by (with_reducible skip); exact HO_8.out))) (Kd.R_lt (by (with_reducible skip); exact HO_11.out))) (Kd.R_lt (by (with_reducible skip); exact HO_13.out))) (Kd.R_lt (by (with_reducible skip); exact HO_509001.out))) (below_size (by repeat ((with_reducible exact HB.out))))); replace HO_8 := Aside0.mk (Kd.R_elder' (by (with_reducible skip); exact HO_8.out) (Kd.R_base ho0) hb); replace HO_11 := Aside0.mk (Kd.R_elder' (by (with_reducible skip); exact HO_11.out) (Kd.R_base ho0) hb); replace HO_13 := Aside0.mk (Kd.R_elder' (by (with_reducible skip); exact HO_13.out) (Kd.R_base ho0) hb); replace HO_509001 := Aside0.mk (Kd.R_elder' (by (with_reducible skip); exact HO_509001.out) (Kd.R_base ho0) hb); replace BK481 := Z.bb BK481 hb; replace BK508 := Z.bb BK508 hb; replace HB := Aside0.mk (below_step (by repeat ((with_reducible exact HB.out))) hb); (try clear hb); (try clear ho0); obtain ⟨Ao67, co67, eo67⟩ := Kd.R_slice HO530.out; subst eo67) | ((with_reducible refine gate_callee (f := 25) rfl ?_); refine goesL_ (some 73) rfl rfl Try.func25 (by kernel_rfl) rfl #[.slice Ao43 t509.length co43, .slice Ao67 t528.length co67] rfl Z.ar ?_; (with_reducible refine (laws_eqIntS.calls kj55 _ _ t509 _ _ t528 t531 _ ?q1 ?q2 ?q3 ?q4 A64.out).mono ?_); (case q1 => repeat (exact (Kd.R_reads' HO_11.out).2.2)); (case q2 => exact (Kd.R_reads' HO_11.out).2.1); (case q3 => repeat (exact (Kd.R_reads' HO530.out).2.2)); (case q4 => exact (Kd.R_reads' HO530.out).2.1); rintro e w' ⟨rfl, ⟨nd, rfl⟩⟩; refine ⟨_, rfl, ?_⟩))
             go_cut [] (fun wc => ∃ (kq : Nat), Aside0 (laws_FnExactAfterActs.j6 kq l1 l2 t497 t500 t509 t512 t515 t518 a0_0 l0_1 l0_2 t501 t502 t505 = some r) ∧ Aside0 (kq ≤ kj55) ∧ Aside0 (Kd.R (Kd.int .i64) 3 wc w.heap.size (fun k_ => some k_ ≠ ((.slice Ao43 t509.length co43) : Value).ownBlock ∧ some k_ ≠ (v516 : Value).ownBlock ∧ some k_ ≠ ((.slice Ao38 t502.length co38) : Value).ownBlock) v498 t497) ∧ Aside0 (Kd.R (Kd.int .i64) 3 wc w.heap.size (fun k_ => some k_ ≠ (v498 : Value).ownBlock ∧ some k_ ≠ (v516 : Value).ownBlock ∧ some k_ ≠ ((.slice Ao38 t502.length co38) : Value).ownBlock) (.slice Ao43 t509.length co43) t509) ∧ Aside0 (Kd.R k53 53 wc w.heap.size (fun _ => True) (.slice Ao44 t512.length co44) t512) ∧ Aside0 (Kd.R (Kd.int .i64) 3 wc w.heap.size (fun k_ => some k_ ≠ (v498 : Value).ownBlock ∧ some k_ ≠ ((.slice Ao43 t509.length co43) : Value).ownBlock ∧ some k_ ≠ ((.slice Ao38 t502.length co38) : Value).ownBlock) v516 t515) ∧ Aside0 (Kd.R (Kd.int .i64) 3 wc w.heap.size (fun k_ => some k_ ≠ (v498 : Value).ownBlock ∧ some k_ ≠ ((.slice Ao43 t509.length co43) : Value).ownBlock ∧ some k_ ≠ (v516 : Value).ownBlock) (.slice Ao38 t502.length co38) t502) ∧ Aside0 (Kd.R (Kd.slice 86 k86) 83 wc w.heap.size (fun _ => True) (.slice Ao39 t505.length co39) t505) ∧ Aside0 (wc.heap[gb481]? = some (.cells #[.int .i64 a0_0, (.slice A0_1 l0_1.length c0_1), (.slice A0_2 l0_2.length c0_2)] 27 (0, 0))) ∧ Aside0 (wc.heap[gb508]? = some (.cells #[.int .i64 t501, (.slice Ao38 t502.length co38), (.slice Ao39 t505.length co39)] 35 (0, 0))) ∧ Aside0 (Below w.heap.size w wc))
             case first =>
              have H := HC65.out
              clear HC65
              by_cases c68 : t531 = true
              ·subst c68
               rw [if_pos rfl] at H
               have H' := Aside0.mk H
               clear H
               go_wp2
               go_meet
               case rel => exact ⟨_, H', ⟨by have := HJ3.out; have := HJ7.out; have := HJ12.out; have := HJ22.out; have := HJ51.out; have := HJ55.out; omega⟩, ⟨by (with_reducible repeat (apply Kd.R_drewN)); exact Kd.R_mono HO_8.out (fun _ hk => ⟨hk.1.1, ⟨hk.1.2.1, hk.1.2.2⟩⟩)⟩, ⟨by (with_reducible repeat (apply Kd.R_drewN)); exact Kd.R_mono HO_11.out (fun _ hk => ⟨hk.1.1, ⟨hk.1.2.1, hk.1.2.2⟩⟩)⟩, ⟨by (with_reducible repeat (apply Kd.R_drewN)); exact HO_12.out⟩, ⟨by (with_reducible repeat (apply Kd.R_drewN)); exact Kd.R_mono HO_13.out (fun _ hk => ⟨hk.1.1, ⟨hk.1.2.1, hk.1.2.2⟩⟩)⟩, ⟨by (with_reducible repeat (apply Kd.R_drewN)); exact Kd.R_mono HO_509001.out (fun _ hk => ⟨hk.1.1, ⟨hk.1.2.1, hk.1.2.2⟩⟩)⟩, ⟨by (with_reducible repeat (apply Kd.R_drewN)); exact HO_509002.out⟩, ⟨by (with_reducible repeat (refine blk_drewN ?_ _)); exact BK481.out⟩, ⟨by (with_reducible repeat (refine blk_drewN ?_ _)); exact BK508.out⟩, ⟨by repeat ((with_reducible first | exact HB.out | apply pw_below_drewN))⟩⟩
              ·replace c68 := Bool.eq_false_iff.mpr c68
               subst c68
               rw [if_neg (show ¬ (false = true) by decide)] at H
               obtain rfl := Option.some.inj H
               go_wp2
               go_ret
               exact ⟨by rfl, by repeat ((with_reducible first | exact HB.out | apply pw_below_drewN))⟩
             case rest =>
              clear HC65
              obtain ⟨kq, HA, HJ64, HO_8, HO_11, HO_12, HO_13, HO_509001, HO_509002, BK481, BK508, HB⟩ := hcut
              cases kq with
              | zero => exact absurd HA.out (by simp [laws_FnExactAfterActs.j6])
              | succ kj64 =>
               have H := HA.out
               clear HA
               simp only [laws_FnExactAfterActs.j6] at H
               replace H := Option.bind_eq_some_iff.mp H
               obtain ⟨t532, A690, H⟩ := H
               have A69 := Aside0.mk A690
               clear A690
               replace H := Option.bind_eq_some_iff.mp H
               obtain ⟨t535, A700, H⟩ := H
               have A70 := Aside0.mk A700
               clear A700
               have HC71 := Aside0.mk H
               clear H
               go_upto_if 79 with (first | ((with_reducible refine gate_callee (f := 22) rfl ?_); refine goesL_ (some 77) rfl rfl Try.func22 (by kernel_rfl) rfl #[.slice A2 l2.length c2] rfl Z.ar ?_; (with_reducible refine (laws_toActS.calls kj64 _ _ l2 t532 _ ?q1 ?q2 A69.out).mono ?_); (case q1 => exact Z.cc HR2 HB); (case q2 => exact HC2.out); rintro e w72 ⟨v533, rfl, ho0, hb⟩; refine ⟨_, rfl, ?_⟩; replace HO_8 := Aside0.mk (Kd.R_below (by (with_reducible skip); exact HO_8.out) hb); replace HO_11 := Aside0.mk (Kd.R_below (by (with_reducible skip); exact HO_11.out) hb); replace HO_13 := Aside0.mk (Kd.R_below (by (with_reducible skip); exact HO_13.out) hb); replace HO_509001 := Aside0.mk (Kd.R_below (by (with_reducible skip); exact HO_509001.out) hb); replace HO_509002 := Aside0.mk (Kd.R_below (by (with_reducible skip); exact HO_509002.out) hb); have HO534 := Aside0.mk (Kd.R_lower (Kd.R_new' ho0 (Kd.R_lt (by (with_reducible skip); exact HO_12.out))) (below_size (by repeat ((with_reducible exact HB.out))))); replace HO_12 := Aside0.mk (Kd.R_elder' (by (with_reducible skip); exact HO_12.out) (Kd.R_base ho0) hb); replace BK481 := Z.bb BK481 hb; replace BK508 := Z.bb BK508 hb; replace HB := Aside0.mk (below_step (by repeat ((with_reducible exact HB.out))) hb); (try clear hb); (try clear ho0); obtain ⟨Ao73, co73, eo73⟩ := Kd.R_slice HO534.out; subst eo73) | ((with_reducible refine gate_callee (f := 26) rfl ?_); refine goesL_ (some 78) rfl rfl Try.func26 (by kernel_rfl) rfl #[.slice Ao44 t512.length co44, .slice Ao73 t532.length co73] rfl Z.ar ?_; (with_reducible refine (laws_eqActS.calls kj64 _ _ t512 _ _ t532 t535 _ ?q1 ?q2 ?q3 ?q4 A70.out).mono ?_); (case q1 => repeat (exact (Kd.R_reads' HO_12.out).2.2)); (case q2 => exact (Kd.R_reads' HO_12.out).2.1); (case q3 => repeat (exact (Kd.R_reads' HO534.out).2.2)); (case q4 => exact (Kd.R_reads' HO534.out).2.1); rintro e w74 ⟨rfl, hb⟩; refine ⟨_, rfl, ?_⟩; replace HO_8 := Aside0.mk (Kd.R_below (by (with_reducible skip); exact HO_8.out) hb); replace HO_11 := Aside0.mk (Kd.R_below (by (with_reducible skip); exact HO_11.out) hb); replace HO_12 := Aside0.mk (Kd.R_below (by (with_reducible skip); exact HO_12.out) hb); replace HO_13 := Aside0.mk (Kd.R_below (by (with_reducible skip); exact HO_13.out) hb); replace HO_509001 := Aside0.mk (Kd.R_below (by (with_reducible skip); exact HO_509001.out) hb); replace HO_509002 := Aside0.mk (Kd.R_below (by (with_reducible skip); exact HO_509002.out) hb); replace HO534 := Aside0.mk (Kd.R_below (by (with_reducible skip); exact HO534.out) hb); replace BK481 := Z.bb BK481 hb; replace BK508 := Z.bb BK508 hb; replace HB := Aside0.mk (below_step (by repeat ((with_reducible exact HB.out))) hb); (try clear hb)))
               go_cut [] (fun wc => ∃ (kq : Nat), Aside0 (laws_FnExactAfterActs.j7 kq l1 l2 t497 t500 t509 t512 t515 t518 a0_0 l0_1 l0_2 t501 t502 t505 = some r) ∧ Aside0 (kq ≤ kj64) ∧ Aside0 (Kd.R (Kd.int .i64) 3 wc w.heap.size (fun k_ => some k_ ≠ ((.slice Ao43 t509.length co43) : Value).ownBlock ∧ some k_ ≠ (v516 : Value).ownBlock ∧ some k_ ≠ ((.slice Ao38 t502.length co38) : Value).ownBlock) v498 t497) ∧ Aside0 (Kd.R (Kd.int .i64) 3 wc w.heap.size (fun k_ => some k_ ≠ (v498 : Value).ownBlock ∧ some k_ ≠ (v516 : Value).ownBlock ∧ some k_ ≠ ((.slice Ao38 t502.length co38) : Value).ownBlock) (.slice Ao43 t509.length co43) t509) ∧ Aside0 (Kd.R k53 53 wc w.heap.size (fun _ => True) (.slice Ao44 t512.length co44) t512) ∧ Aside0 (Kd.R (Kd.int .i64) 3 wc w.heap.size (fun k_ => some k_ ≠ (v498 : Value).ownBlock ∧ some k_ ≠ ((.slice Ao43 t509.length co43) : Value).ownBlock ∧ some k_ ≠ ((.slice Ao38 t502.length co38) : Value).ownBlock) v516 t515) ∧ Aside0 (Kd.R (Kd.int .i64) 3 wc w.heap.size (fun k_ => some k_ ≠ (v498 : Value).ownBlock ∧ some k_ ≠ ((.slice Ao43 t509.length co43) : Value).ownBlock ∧ some k_ ≠ (v516 : Value).ownBlock) (.slice Ao38 t502.length co38) t502) ∧ Aside0 (Kd.R (Kd.slice 86 k86) 83 wc w.heap.size (fun _ => True) (.slice Ao39 t505.length co39) t505) ∧ Aside0 (wc.heap[gb481]? = some (.cells #[.int .i64 a0_0, (.slice A0_1 l0_1.length c0_1), (.slice A0_2 l0_2.length c0_2)] 27 (0, 0))) ∧ Aside0 (wc.heap[gb508]? = some (.cells #[.int .i64 t501, (.slice Ao38 t502.length co38), (.slice Ao39 t505.length co39)] 35 (0, 0))) ∧ Aside0 (Below w.heap.size w wc))
               case first =>
                have H := HC71.out
                clear HC71
                by_cases c75 : t535 = true
                ·subst c75
                 rw [if_pos rfl] at H
                 have H' := Aside0.mk H
                 clear H
                 go_wp2
                 go_meet
                 case rel => exact ⟨_, H', ⟨by have := HJ3.out; have := HJ7.out; have := HJ12.out; have := HJ22.out; have := HJ51.out; have := HJ55.out; have := HJ64.out; omega⟩, ⟨by (with_reducible skip); exact HO_8.out⟩, ⟨by (with_reducible skip); exact HO_11.out⟩, ⟨by (with_reducible skip); exact Kd.R_mono HO_12.out (fun _ hk => trivial)⟩, ⟨by (with_reducible skip); exact HO_13.out⟩, ⟨by (with_reducible skip); exact HO_509001.out⟩, ⟨by (with_reducible skip); exact HO_509002.out⟩, ⟨by (with_reducible skip); exact BK481.out⟩, ⟨by (with_reducible skip); exact BK508.out⟩, ⟨by repeat ((with_reducible exact HB.out))⟩⟩
                ·replace c75 := Bool.eq_false_iff.mpr c75
                 subst c75
                 rw [if_neg (show ¬ (false = true) by decide)] at H
                 obtain rfl := Option.some.inj H
                 go_wp2
                 go_ret
                 exact ⟨by rfl, by repeat ((with_reducible exact HB.out))⟩
               case rest =>
                clear HC71
                obtain ⟨kq, HA, HJ70, HO_8, HO_11, HO_12, HO_13, HO_509001, HO_509002, BK481, BK508, HB⟩ := hcut
                cases kq with
                | zero => exact absurd HA.out (by simp [laws_FnExactAfterActs.j7])
                | succ kj70 =>
                 have H := HA.out
                 clear HA
                 simp only [laws_FnExactAfterActs.j7] at H
                 replace H := Option.bind_eq_some_iff.mp H
                 obtain ⟨t536, A760, H⟩ := H
                 have A76 := Aside0.mk A760
                 clear A760
                 replace H := Option.bind_eq_some_iff.mp H
                 obtain ⟨⟨t537, t538⟩, A770, H⟩ := H
                 try dsimp only at H
                 have A77 := Aside0.mk A770
                 clear A770
                 replace H := Option.bind_eq_some_iff.mp H
                 obtain ⟨⟨t539, t540⟩, A780, H⟩ := H
                 try dsimp only at H
                 have A78 := Aside0.mk A780
                 clear A780
                 have HC79 := Aside0.mk H
                 clear H
                 have hnb80 := NB508_481.out
                 have hnc80 := NB481_508.out
                 have hcz81 := Z.c3 BK508.out
                 go_upto_region 27 with (first | ((with_reducible refine gate_callee (f := 29) rfl ?_); refine goesL_ (some 82) rfl rfl Try.func29 (by kernel_rfl) rfl #[.agg #[.int .i64 t501, .slice Ao38 t502.length co38, .slice Ao39 t505.length co39], .int .i64 1] rfl Z.ar ?_; (with_reducible refine (laws_markCharter.calls (b0 := w.heap.size) (ok1 := ?o1) (ok2 := ?o2) t501 _ _ t502 _ _ t505 1 t536 _ ?q1 ?q2 A76.out).mono ?_); (case q1 => exact HO_509001.out); (case q2 => exact HO_509002.out); rintro e w82 ⟨rfl, hk⟩; refine ⟨_, rfl, ?_⟩; replace HO_8 := Aside0.mk (Kd.R_mono (ok' := fun k_ => some k_ ≠ (.slice Ao43 t509.length co43 : Value).ownBlock ∧ some k_ ≠ (v516 : Value).ownBlock) (hk.ints (HO_8.out) (fun i_ hi_ => ((HO_8.out).1 i_ hi_).2.2)) (fun k_ hk_ => ⟨hk_.1, hk_.2.1⟩)); replace HO_11 := Aside0.mk (Kd.R_mono (ok' := fun k_ => some k_ ≠ (v498 : Value).ownBlock ∧ some k_ ≠ (v516 : Value).ownBlock) (hk.ints (HO_11.out) (fun i_ hi_ => ((HO_11.out).1 i_ hi_).2.2)) (fun k_ hk_ => ⟨hk_.1, hk_.2.1⟩)); replace HO_12 := Aside0.mk (Kd.R_mono (ok' := fun k_ => True) (hk.row (HO_12.out) rfl (by decide)) (fun k_ hk_ => trivial)); replace HO_13 := Aside0.mk (Kd.R_mono (ok' := fun k_ => some k_ ≠ (v498 : Value).ownBlock ∧ some k_ ≠ (.slice Ao43 t509.length co43 : Value).ownBlock) (hk.ints (HO_13.out) (fun i_ hi_ => ((HO_13.out).1 i_ hi_).2.2)) (fun k_ hk_ => ⟨hk_.1, hk_.2.1⟩)); replace BK481 := Aside0.mk (hk.far (Z.bk BK481.out) (by decide)); replace BK508 := Aside0.mk (hk.far (Z.bk BK508.out) (by decide)); replace HB := Aside0.mk (hk.below (by repeat ((with_reducible exact HB.out)))); clear HO_509001 HO_509002; (try clear hk)) | ((with_reducible refine gate_callee (f := 30) rfl ?_); refine goesL_ (some 85) rfl rfl Try.func30 (by kernel_rfl) rfl #[.slice Ao43 t509.length co43, .int .i64 t536] rfl Z.ar ?_; (with_reducible refine (laws_markIntS.calls kj70 (fun k_ => some k_ = (.slice Ao43 t509.length co43 : Value).ownBlock) (.slice Ao43 t509.length co43) t509 t536 t537 t538 w _ ?q1 ?q2 A77.out).mono ?_); (case q1 => repeat ((with_reducible exact HB.out))); (case q2 => exact Kd.R_tight rfl HO_11.out); rintro e w83 ⟨rfl, hy0, hb, hkp⟩; refine ⟨_, rfl, ?_⟩; replace HO_8 := Aside0.mk (Kd.R_mono (ok' := fun k_ => some k_ ≠ (.slice Ao43 t509.length co43 : Value).ownBlock ∧ some k_ ≠ (v516 : Value).ownBlock) (Kd.R_keptB (HO_8.out) hkp (fun k_ hk_ hs_ => (hk_.1) hs_)) (fun k_ hk_ => ⟨hk_.1.1, hk_.1.2⟩)); replace HO_12 := Aside0.mk (Kd.R_mono (ok' := fun k_ => True) (Kd.R_keptB ((Kd.R_apart' HO_12.out (Kd.R_typed HO_11.out) (by decide))) hkp (fun k_ hk_ hs_ => (hk_.2) hs_)) (fun k_ hk_ => trivial)); replace HO_13 := Aside0.mk (Kd.R_mono (ok' := fun k_ => some k_ ≠ (v498 : Value).ownBlock ∧ some k_ ≠ (.slice Ao43 t509.length co43 : Value).ownBlock) (Kd.R_keptB (HO_13.out) hkp (fun k_ hk_ hs_ => (hk_.2) hs_)) (fun k_ hk_ => ⟨hk_.1.1, hk_.1.2⟩)); replace BK481 := Aside0.mk (blk_kept (Z.bk BK481.out) hkp (fun hs_ => (fun e_ => (Kd.R_ne HO_11.out BK481.out (by decide)) e_) hs_)); replace BK508 := Aside0.mk (blk_kept (Z.bk BK508.out) hkp (fun hs_ => (fun e_ => (Kd.R_ne HO_11.out BK508.out (by decide)) e_) hs_)); replace HO_11 := Aside0.mk (Kd.R_reok rfl hy0 (fun k_ e_ => HO_11.out.1 k_ e_)); replace HB := Aside0.mk (hb); (try clear hb); (try clear hkp); (try clear hy0)) | ((with_reducible refine gate_callee (f := 31) rfl ?_); refine goesL_ (some 88) rfl rfl Try.func31 (by kernel_rfl) rfl #[.slice Ao44 t512.length co44, .int .i64 t537] rfl Z.ar ?_; (with_reducible refine (laws_markActS.calls kj70 (fun k_ => some k_ = (.slice Ao44 t512.length co44 : Value).ownBlock) (.slice Ao44 t512.length co44) t512 t537 t539 t540 w _ ?q1 ?q2 A78.out).mono ?_); (case q1 => repeat ((with_reducible exact HB.out))); (case q2 => exact Kd.R_tight rfl HO_12.out); rintro e w84 ⟨rfl, hy0, hb, hkp⟩; refine ⟨_, rfl, ?_⟩; replace HO_8 := Aside0.mk (Kd.R_mono (ok' := fun k_ => some k_ ≠ (.slice Ao43 t509.length co43 : Value).ownBlock ∧ some k_ ≠ (v516 : Value).ownBlock) (Kd.R_keptB ((Kd.R_apart' HO_8.out (Kd.R_typed HO_12.out) (by decide))) hkp (fun k_ hk_ hs_ => (hk_.2) hs_)) (fun k_ hk_ => ⟨hk_.1.1.1, hk_.1.1.2⟩)); replace HO_11 := Aside0.mk (Kd.R_mono (ok' := fun k_ => some k_ ≠ (v498 : Value).ownBlock ∧ some k_ ≠ (v516 : Value).ownBlock) (Kd.R_keptB ((Kd.R_apart' HO_11.out (Kd.R_typed HO_12.out) (by decide))) hkp (fun k_ hk_ hs_ => (hk_.2) hs_)) (fun k_ hk_ => ⟨hk_.1.1.1, hk_.1.1.2⟩)); replace HO_13 := Aside0.mk (Kd.R_mono (ok' := fun k_ => some k_ ≠ (v498 : Value).ownBlock ∧ some k_ ≠ (.slice Ao43 t509.length co43 : Value).ownBlock) (Kd.R_keptB ((Kd.R_apart' HO_13.out (Kd.R_typed HO_12.out) (by decide))) hkp (fun k_ hk_ hs_ => (hk_.2) hs_)) (fun k_ hk_ => ⟨hk_.1.1.1, hk_.1.1.2⟩)); replace BK481 := Aside0.mk (blk_kept (Z.bk BK481.out) hkp (fun hs_ => (fun e_ => (Kd.R_ne HO_12.out BK481.out (by decide)) e_) hs_)); replace BK508 := Aside0.mk (blk_kept (Z.bk BK508.out) hkp (fun hs_ => (fun e_ => (Kd.R_ne HO_12.out BK508.out (by decide)) e_) hs_)); replace HO_12 := Aside0.mk (Kd.R_reok rfl hy0 (fun k_ e_ => HO_12.out.1 k_ e_)); replace HB := Aside0.mk (hb); (try clear hb); (try clear hkp); (try clear hy0)))
                 go_cut [101] (fun v101 wc => ∃ (kq : Nat) (x101_78 : Bool), v101 = .bool x101_78 ∧ Aside0 (laws_FnExactAfterActs.j8 kq l1 l2 t497 t500 t515 x101_78 a0_0 l0_1 l0_2 = some r) ∧ Aside0 (kq ≤ kj70) ∧ Aside0 (Kd.R (Kd.int .i64) 3 wc w.heap.size (fun k_ => some k_ ≠ (v516 : Value).ownBlock) v498 t497) ∧ Aside0 (Kd.R (Kd.int .i64) 3 wc w.heap.size (fun k_ => some k_ ≠ (v498 : Value).ownBlock) v516 t515) ∧ Aside0 (wc.heap[gb481]? = some (.cells #[.int .i64 a0_0, (.slice A0_1 l0_1.length c0_1), (.slice A0_2 l0_2.length c0_2)] 27 (0, 0))) ∧ Aside0 (Below w.heap.size w wc))
                 case first =>
                  have H := HC79.out
                  clear HC79
                  by_cases c85 : t539 < 0
                  ·rw [if_pos c85] at H
                   have c85b0 := decide_eq_true c85
                   clear c85
                   have H' := Aside0.mk H
                   clear H
                   go_wp2
                   go_meet
                   case rel => exact ⟨_, (true), (by rfl), H', ⟨by have := HJ3.out; have := HJ7.out; have := HJ12.out; have := HJ22.out; have := HJ51.out; have := HJ55.out; have := HJ64.out; have := HJ70.out; omega⟩, ⟨by (with_reducible skip); exact Kd.R_mono HO_8.out (fun _ hk => hk.2)⟩, ⟨by (with_reducible skip); exact Kd.R_mono HO_13.out (fun _ hk => hk.1)⟩, ⟨by (with_reducible skip); exact BK481.out⟩, ⟨by repeat ((with_reducible exact HB.out))⟩⟩
                  ·rw [if_neg c85] at H
                   have c85b0 := decide_eq_false c85
                   clear c85
                   replace H := Option.bind_eq_some_iff.mp H
                   obtain ⟨t541, A860, H⟩ := H
                   have A86 := Aside0.mk A860
                   clear A860
                   by_cases c87 : t541 = true
                   ·subst c87
                    rw [if_pos rfl] at H
                    have H' := Aside0.mk H
                    clear H
                    obtain ⟨Ao88, co88, eo88⟩ := Kd.R_slice HO_13.out
                    subst eo88
                    obtain ⟨Ao89, co89, eo89⟩ := Kd.R_slice HO_8.out
                    subst eo89
                    go_wp2_with ((go_at_call 25; (with_reducible refine (laws_eqIntS.calls kj70 _ _ t515 _ _ t497 true _ ?q1 ?q2 ?q3 ?q4 A86.out).mono ?_); (case q1 => repeat (exact (Kd.R_reads' HO_13.out).2.2)); (case q2 => exact (Kd.R_reads' HO_13.out).2.1); (case q3 => repeat (exact (Kd.R_reads' HO_8.out).2.2)); (case q4 => exact (Kd.R_reads' HO_8.out).2.1); rintro e w' ⟨rfl, ⟨nd, rfl⟩⟩))
                    go_meet
                    case rel => exact ⟨_, ((t518 != t500)), (by rfl), H', ⟨by have := HJ3.out; have := HJ7.out; have := HJ12.out; have := HJ22.out; have := HJ51.out; have := HJ55.out; have := HJ64.out; have := HJ70.out; omega⟩, ⟨by (with_reducible repeat (apply Kd.R_drewN)); exact Kd.R_mono HO_8.out (fun _ hk => hk.2)⟩, ⟨by (with_reducible repeat (apply Kd.R_drewN)); exact Kd.R_mono HO_13.out (fun _ hk => hk.1)⟩, ⟨by (with_reducible repeat (refine blk_drewN ?_ _)); exact BK481.out⟩, ⟨by repeat ((with_reducible first | exact HB.out | apply pw_below_drewN))⟩⟩
                   ·replace c87 := Bool.eq_false_iff.mpr c87
                    subst c87
                    rw [if_neg (show ¬ (false = true) by decide)] at H
                    have H' := Aside0.mk H
                    clear H
                    obtain ⟨Ao90, co90, eo90⟩ := Kd.R_slice HO_13.out
                    subst eo90
                    obtain ⟨Ao91, co91, eo91⟩ := Kd.R_slice HO_8.out
                    subst eo91
                    go_wp2_with ((go_at_call 25; (with_reducible refine (laws_eqIntS.calls kj70 _ _ t515 _ _ t497 false _ ?q1 ?q2 ?q3 ?q4 A86.out).mono ?_); (case q1 => repeat (exact (Kd.R_reads' HO_13.out).2.2)); (case q2 => exact (Kd.R_reads' HO_13.out).2.1); (case q3 => repeat (exact (Kd.R_reads' HO_8.out).2.2)); (case q4 => exact (Kd.R_reads' HO_8.out).2.1); rintro e w' ⟨rfl, ⟨nd, rfl⟩⟩))
                    go_meet
                    case rel => exact ⟨_, (true), (by rfl), H', ⟨by have := HJ3.out; have := HJ7.out; have := HJ12.out; have := HJ22.out; have := HJ51.out; have := HJ55.out; have := HJ64.out; have := HJ70.out; omega⟩, ⟨by (with_reducible repeat (apply Kd.R_drewN)); exact Kd.R_mono HO_8.out (fun _ hk => hk.2)⟩, ⟨by (with_reducible repeat (apply Kd.R_drewN)); exact Kd.R_mono HO_13.out (fun _ hk => hk.1)⟩, ⟨by (with_reducible repeat (refine blk_drewN ?_ _)); exact BK481.out⟩, ⟨by repeat ((with_reducible first | exact HB.out | apply pw_below_drewN))⟩⟩
                 case rest =>
                  clear HC79
                  obtain ⟨kq, x101_78, rfl, HA, HJ78, HO_8, HO_13, BK481, HB⟩ := hcut
                  cases kq with
                  | zero => exact absurd HA.out (by simp [laws_FnExactAfterActs.j8])
                  | succ kj78 =>
                   have H := HA.out
                   clear HA
                   simp only [laws_FnExactAfterActs.j8] at H
                   have HC92 := Aside0.mk H
                   clear H
                   go_upto_if 101 with (fail)
                   go_cut [] (fun wc => ∃ (kq : Nat), Aside0 (laws_FnExactAfterActs.j9 kq l1 l2 t497 t500 t515 a0_0 l0_1 l0_2 = some r) ∧ Aside0 (kq ≤ kj78) ∧ Aside0 (Kd.R (Kd.int .i64) 3 wc w.heap.size (fun k_ => some k_ ≠ (v516 : Value).ownBlock) v498 t497) ∧ Aside0 (Kd.R (Kd.int .i64) 3 wc w.heap.size (fun k_ => some k_ ≠ (v498 : Value).ownBlock) v516 t515) ∧ Aside0 (wc.heap[gb481]? = some (.cells #[.int .i64 a0_0, (.slice A0_1 l0_1.length c0_1), (.slice A0_2 l0_2.length c0_2)] 27 (0, 0))) ∧ Aside0 (Below w.heap.size w wc))
                   case first =>
                    have H := HC92.out
                    clear HC92
                    by_cases c93 : x101_78 = true
                    ·subst c93
                     rw [if_pos rfl] at H
                     obtain rfl := Option.some.inj H
                     go_wp2
                     go_ret
                     exact ⟨by rfl, Z.bs HB.out GE481.out⟩
                    ·replace c93 := Bool.eq_false_iff.mpr c93
                     subst c93
                     rw [if_neg (show ¬ (false = true) by decide)] at H
                     have H' := Aside0.mk H
                     clear H
                     go_wp2
                     go_meet
                     case rel => exact ⟨_, H', ⟨by have := HJ3.out; have := HJ7.out; have := HJ12.out; have := HJ22.out; have := HJ51.out; have := HJ55.out; have := HJ64.out; have := HJ70.out; have := HJ78.out; omega⟩, ⟨by (with_reducible skip); exact HO_8.out⟩, ⟨by (with_reducible skip); exact HO_13.out⟩, ⟨by (with_reducible skip); exact BK481.out⟩, ⟨Z.bs HB.out GE481.out⟩⟩
                   case rest =>
                    clear HC92
                    obtain ⟨kq, HA, HJ91, HO_8, HO_13, BK481, HB⟩ := hcut
                    cases kq with
                    | zero => exact absurd HA.out (by simp [laws_FnExactAfterActs.j9])
                    | succ kj91 =>
                     have H := HA.out
                     clear HA
                     simp only [laws_FnExactAfterActs.j9] at H
                     replace H := Option.bind_eq_some_iff.mp H
                     obtain ⟨⟨t542, t543⟩, A940, H⟩ := H
                     try dsimp only at H
                     have A94 := Aside0.mk A940
                     clear A940
                     replace H := Option.bind_eq_some_iff.mp H
                     obtain ⟨t544, A950, H⟩ := H
                     have A95 := Aside0.mk A950
                     clear A950
                     have HC96 := Aside0.mk H
                     clear H
                     obtain ⟨Ao97, co97, eo97⟩ := Kd.R_slice HO_13.out
                     subst eo97
                     go_upto_if 109 with (first | ((with_reducible refine gate_callee (f := 30) rfl ?_); refine goesL_ (some 104) rfl rfl Try.func30 (by kernel_rfl) rfl #[.slice Ao97 t515.length co97, .int .i64 1] rfl Z.ar ?_; (with_reducible refine (laws_markIntS.calls kj91 (fun k_ => some k_ = (.slice Ao97 t515.length co97 : Value).ownBlock) (.slice Ao97 t515.length co97) t515 1 t542 t543 w _ ?q1 ?q2 A94.out).mono ?_); (case q1 => repeat ((with_reducible exact HB.out))); (case q2 => exact Kd.R_tight rfl HO_13.out); rintro e w98 ⟨rfl, hy0, hb, hkp⟩; refine ⟨_, rfl, ?_⟩; replace HO_8 := Aside0.mk (Kd.R_mono (ok' := fun k_ => some k_ ≠ (.slice Ao97 t515.length co97 : Value).ownBlock) (Kd.R_keptB (HO_8.out) hkp (fun k_ hk_ hs_ => (hk_) hs_)) (fun k_ hk_ => hk_.1)); replace BK481 := Aside0.mk (blk_kept (Z.bk BK481.out) hkp (fun hs_ => (fun e_ => (Kd.R_ne HO_13.out BK481.out (by decide)) e_) hs_)); replace HO_13 := Aside0.mk (Kd.R_reok rfl hy0 (fun k_ e_ => HO_13.out.1 k_ e_)); replace HB := Aside0.mk (hb); (try clear hb); (try clear hkp); (try clear hy0)) | ((with_reducible refine gate_callee (f := 32) rfl ?_); refine goesL_ (some 107) rfl rfl Try.func32 (by kernel_rfl) rfl #[.slice Ao97 t543.length co97, .int .i64 1] rfl (by (try simp only [List.map_toArray, List.map_cons, List.map_nil]); (rw [show t543.length = t515.length from (Kd.R_reads' HO_13.out).1.symm] <;> rfl)) ?_; (with_reducible refine (laws_heldIntS.calls kj91 _ _ t543 1 t544 _ ?q1 ?q2 A95.out).mono ?_); (case q1 => repeat (exact (Kd.R_reads' HO_13.out).2.2)); (case q2 => rw [show t543.length = t515.length from (Kd.R_reads' HO_13.out).1.symm]; exact (Kd.R_reads' HO_13.out).2.1); rintro e w' ⟨rfl, ⟨nd, rfl⟩⟩; refine ⟨_, rfl, ?_⟩))
                     go_cut [] (fun wc => ∃ (kq : Nat), Aside0 (laws_FnExactAfterActs.j10 kq l1 l2 t497 t500 t543 t542 t544 a0_0 l0_1 l0_2 = some r) ∧ Aside0 (kq ≤ kj91) ∧ Aside0 (Kd.R (Kd.int .i64) 3 wc w.heap.size (fun k_ => some k_ ≠ ((.slice Ao97 t515.length co97) : Value).ownBlock) v498 t497) ∧ Aside0 (Kd.R (Kd.int .i64) 3 wc w.heap.size (fun k_ => some k_ ≠ (v498 : Value).ownBlock) (.slice Ao97 t515.length co97) t543) ∧ Aside0 (wc.heap[gb481]? = some (.cells #[.int .i64 a0_0, (.slice A0_1 l0_1.length c0_1), (.slice A0_2 l0_2.length c0_2)] 27 (0, 0))) ∧ Aside0 (Below w.heap.size w wc))
                     case first =>
                      have H := HC96.out
                      clear HC96
                      by_cases c99 : t544 < 0
                      ·rw [if_pos c99] at H
                       have c99b0 := decide_eq_true c99
                       clear c99
                       (rw [c99b0])
                       obtain rfl := Option.some.inj H
                       go_wp2
                       go_ret
                       exact ⟨by rfl, Z.bs HB.out GE481.out⟩
                      ·rw [if_neg c99] at H
                       have c99b0 := decide_eq_false c99
                       clear c99
                       (rw [c99b0])
                       have H' := Aside0.mk H
                       clear H
                       go_wp2
                       go_meet
                       case rel => exact ⟨_, H', ⟨by have := HJ3.out; have := HJ7.out; have := HJ12.out; have := HJ22.out; have := HJ51.out; have := HJ55.out; have := HJ64.out; have := HJ70.out; have := HJ78.out; have := HJ91.out; omega⟩, ⟨by (with_reducible repeat (apply Kd.R_drewN)); exact HO_8.out⟩, ⟨by (with_reducible repeat (apply Kd.R_drewN)); exact HO_13.out⟩, ⟨by (with_reducible repeat (refine blk_drewN ?_ _)); exact BK481.out⟩, ⟨Z.bs HB.out GE481.out⟩⟩
                     case rest =>
                      clear HC96
                      obtain ⟨kq, HA, HJ95, HO_8, HO_13, BK481, HB⟩ := hcut
                      have hl13_95 := (Kd.R_reads' HO_13.out).1
                      rw [hl13_95] at HO_13
                      (try simp only [hl13_95])
                      (try simp only [hl13_95] at HO_8)
                      cases kq with
                      | zero => exact absurd HA.out (by simp [laws_FnExactAfterActs.j10])
                      | succ kj95 =>
                       have H := HA.out
                       clear HA
                       simp only [laws_FnExactAfterActs.j10] at H
                       have HC100 := Aside0.mk H
                       clear H
                       go_upto_if 112 with (fail)
                       go_cut [] (fun wc => ∃ (kq : Nat), Aside0 (laws_FnExactAfterActs.j11 kq l1 l2 t497 t500 t543 t542 a0_0 l0_1 l0_2 = some r) ∧ Aside0 (kq ≤ kj95) ∧ Aside0 (Kd.R (Kd.int .i64) 3 wc w.heap.size (fun k_ => some k_ ≠ ((.slice Ao97 t543.length co97) : Value).ownBlock) v498 t497) ∧ Aside0 (Kd.R (Kd.int .i64) 3 wc w.heap.size (fun k_ => some k_ ≠ (v498 : Value).ownBlock) (.slice Ao97 t543.length co97) t543) ∧ Aside0 (wc.heap[gb481]? = some (.cells #[.int .i64 a0_0, (.slice A0_1 l0_1.length c0_1), (.slice A0_2 l0_2.length c0_2)] 27 (0, 0))) ∧ Aside0 (Below w.heap.size w wc))
                       case first =>
                        have H := HC100.out
                        clear HC100
                        by_cases c101 : t544 = t542
                        ·rw [if_pos c101] at H
                         have c101b0 : (t544 == t542) = true := beq_iff_eq.mpr c101
                         have c101b1 : (t544 != t542) = false := bne_eq_false_iff_eq.mpr c101
                         clear c101
                         have H' := Aside0.mk H
                         clear H
                         go_wp2
                         go_meet
                         case rel => exact ⟨_, H', ⟨by have := HJ3.out; have := HJ7.out; have := HJ12.out; have := HJ22.out; have := HJ51.out; have := HJ55.out; have := HJ64.out; have := HJ70.out; have := HJ78.out; have := HJ91.out; have := HJ95.out; omega⟩, ⟨by (with_reducible skip); exact HO_8.out⟩, ⟨by (with_reducible skip); exact HO_13.out⟩, ⟨by (with_reducible skip); exact BK481.out⟩, ⟨Z.bs HB.out GE481.out⟩⟩
                        ·rw [if_neg c101] at H
                         have c101b0 : (t544 == t542) = false := beq_eq_false_iff_ne.mpr c101
                         have c101b1 : (t544 != t542) = true := bne_iff_ne.mpr c101
                         obtain rfl := Option.some.inj H
                         go_wp2
                         go_ret
                         exact ⟨by rfl, Z.bs HB.out GE481.out⟩
                       case rest =>
                        clear HC100
                        obtain ⟨kq, HA, HJ99, HO_8, HO_13, BK481, HB⟩ := hcut
                        cases kq with
                        | zero => exact absurd HA.out (by simp [laws_FnExactAfterActs.j11])
                        | succ kj99 =>
                         have H := HA.out
                         clear HA
                         simp only [laws_FnExactAfterActs.j11] at H
                         replace H := Option.bind_eq_some_iff.mp H
                         obtain ⟨⟨t545, t546, t549⟩, A1020, H⟩ := H
                         try dsimp only at H
                         have A102 := Aside0.mk A1020
                         clear A1020
                         replace H := Option.bind_eq_some_iff.mp H
                         obtain ⟨t552, A1030, H⟩ := H
                         have A103 := Aside0.mk A1030
                         clear A1030
                         replace H := Option.bind_eq_some_iff.mp H
                         obtain ⟨t555, A1040, H⟩ := H
                         have A104 := Aside0.mk A1040
                         clear A1040
                         replace H := Option.bind_eq_some_iff.mp H
                         obtain ⟨⟨t558, t561⟩, A1050, H⟩ := H
                         try dsimp only at H
                         have A105 := Aside0.mk A1050
                         clear A1050
                         have HC106 := Aside0.mk H
                         clear H
                         have hcz107 := Z.c3 BK481.out
                         go_upto_region 38 with (first | ((with_reducible refine gate_callee (f := 20) rfl ?_); refine goesL_ (some 115) rfl rfl Try.func20 (by kernel_rfl) rfl #[.agg #[.int .i64 a0_0, .slice A0_1 l0_1.length c0_1, .slice A0_2 l0_2.length c0_2]] rfl Z.ar ?_; (with_reducible refine (laws_toCharter.calls kj99 a0_0 _ _ l0_1 _ _ l0_2 t545 t546 t549 _ ?q1 ?q2 ?q3 ?q4 A102.out).mono ?_); (case q1 => exact Z.cc HR0_1 HB); (case q2 => exact HC0_1.out); (case q3 => exact Z.cc HR0_2 HB); (case q4 => exact HC0_2.out); rintro e w108 ⟨v547, v550, rfl, ho0, ho1, hb⟩; refine ⟨_, rfl, ?_⟩; have HO548 := Aside0.mk (Kd.R_lower (Kd.R_new' (Kd.R_new' ho0 (Kd.R_lt (by (with_reducible skip); exact HO_8.out))) (Kd.R_lt (by (with_reducible skip); exact HO_13.out))) (below_size (Z.bs HB.out GE481.out))); replace HO_8 := Aside0.mk (Kd.R_elder' (by (with_reducible skip); exact HO_8.out) (Kd.R_base ho0) hb); replace HO_13 := Aside0.mk (Kd.R_elder' (by (with_reducible skip); exact HO_13.out) (Kd.R_base ho0) hb); have HO551 := Aside0.mk (Kd.R_lower ho1 (below_size (Z.bs HB.out GE481.out))); replace BK481 := Z.bb BK481 hb; replace HB := Z.st (Z.bs HB.out GE481.out) hb; (try clear hb); (try clear ho0); (try clear ho1)) | ((with_reducible refine gate_callee (f := 21) rfl ?_); refine goesL_ (some 117) rfl rfl Try.func21 (by kernel_rfl) rfl #[.slice A1 l1.length c1] rfl Z.ar ?_; (with_reducible refine (laws_toIntS.calls kj99 _ _ l1 t552 _ ?q1 ?q2 A103.out).mono ?_); (case q1 => exact Z.cc HR1 HB); (case q2 => exact HC1.out); rintro e w109 ⟨v553, rfl, ho0, hb⟩; refine ⟨_, rfl, ?_⟩; replace HO551 := Aside0.mk (Kd.R_below (by (with_reducible skip); exact HO551.out) hb); have HO554 := Aside0.mk (Kd.R_lower (Kd.R_new' (Kd.R_new' (Kd.R_new' ho0 (Kd.R_lt (by (with_reducible skip); exact HO_8.out))) (Kd.R_lt (by (with_reducible skip); exact HO_13.out))) (Kd.R_lt (by (with_reducible skip); exact HO548.out))) (below_size (Z.bs HB.out GE481.out))); replace HO_8 := Aside0.mk (Kd.R_elder' (by (with_reducible skip); exact HO_8.out) (Kd.R_base ho0) hb); replace HO_13 := Aside0.mk (Kd.R_elder' (by (with_reducible skip); exact HO_13.out) (Kd.R_base ho0) hb); replace HO548 := Aside0.mk (Kd.R_elder' (by (with_reducible skip); exact HO548.out) (Kd.R_base ho0) hb); replace BK481 := Z.bb BK481 hb; replace HB := Z.st (Z.bs HB.out GE481.out) hb; (try clear hb); (try clear ho0)) | ((with_reducible refine gate_callee (f := 22) rfl ?_); refine goesL_ (some 119) rfl rfl Try.func22 (by kernel_rfl) rfl #[.slice A2 l2.length c2] rfl Z.ar ?_; (with_reducible refine (laws_toActS.calls kj99 _ _ l2 t555 _ ?q1 ?q2 A104.out).mono ?_); (case q1 => exact Z.cc HR2 HB); (case q2 => exact HC2.out); rintro e w110 ⟨v556, rfl, ho0, hb⟩; refine ⟨_, rfl, ?_⟩; replace HO_8 := Aside0.mk (Kd.R_below (by (with_reducible skip); exact HO_8.out) hb); replace HO_13 := Aside0.mk (Kd.R_below (by (with_reducible skip); exact HO_13.out) hb); replace HO548 := Aside0.mk (Kd.R_below (by (with_reducible skip); exact HO548.out) hb); replace HO551 := Aside0.mk (Kd.R_below (by (with_reducible skip); exact HO551.out) hb); replace HO554 := Aside0.mk (Kd.R_below (by (with_reducible skip); exact HO554.out) hb); have HO557 := Aside0.mk (Kd.R_lower ho0 (below_size (Z.bs HB.out GE481.out))); replace BK481 := Z.bb BK481 hb; replace HB := Z.st (Z.bs HB.out GE481.out) hb; (try clear hb); (try clear ho0); obtain ⟨Ao111, co111, eo111⟩ := Kd.R_slice HO548.out; subst eo111; obtain ⟨Ao112, co112, eo112⟩ := Kd.R_slice HO551.out; subst eo112; obtain ⟨Ao113, co113, eo113⟩ := Kd.R_slice HO554.out; subst eo113; obtain ⟨Ao114, co114, eo114⟩ := Kd.R_slice HO557.out; subst eo114) | ((with_reducible refine gate_callee (f := 28) rfl ?_); refine goesL_ (some 120) rfl rfl Try.func28 (by kernel_rfl) rfl #[.agg #[.int .i64 t545, .slice Ao111 t546.length co111, .slice Ao112 t549.length co112], .slice Ao113 t552.length co113, .slice Ao114 t555.length co114] rfl Z.ar ?_; (with_reducible refine (impl_AfterActs.calls kj99 t545 _ _ t546 _ _ t549 _ _ t552 _ _ t555 t558 t561 _ ?q1 ?q2 ?q3 ?q4 ?q5 ?q6 ?q7 ?q8 A105.out).mono ?_); (case q1 => repeat (exact (Kd.R_reads' HO548.out).2.2)); (case q2 => exact (Kd.R_reads' HO548.out).2.1); (case q3 => repeat (exact (Kd.R_reads' HO551.out).2.2)); (case q4 => exact (Kd.R_reads' HO551.out).2.1); (case q5 => repeat (exact (Kd.R_reads' HO554.out).2.2)); (case q6 => exact (Kd.R_reads' HO554.out).2.1); (case q7 => repeat (exact (Kd.R_reads' HO557.out).2.2)); (case q8 => exact (Kd.R_reads' HO557.out).2.1); rintro e w115 ⟨v559, rfl, ho0, hb⟩; refine ⟨_, rfl, ?_⟩; replace HO551 := Aside0.mk (Kd.R_below (by (with_reducible skip); exact HO551.out) hb); replace HO557 := Aside0.mk (Kd.R_below (by (with_reducible skip); exact HO557.out) hb); have HO560 := Aside0.mk (Kd.R_lower (Kd.R_new' (Kd.R_new' (Kd.R_new' (Kd.R_new' ho0 (Kd.R_lt (by (with_reducible skip); exact HO_8.out))) (Kd.R_lt (by (with_reducible skip); exact HO_13.out))) (Kd.R_lt (by (with_reducible skip); exact HO548.out))) (Kd.R_lt (by (with_reducible skip); exact HO554.out))) (below_size (Z.bs HB.out GE481.out))); replace HO_8 := Aside0.mk (Kd.R_elder' (by (with_reducible skip); exact HO_8.out) (Kd.R_base ho0) hb); replace HO_13 := Aside0.mk (Kd.R_elder' (by (with_reducible skip); exact HO_13.out) (Kd.R_base ho0) hb); replace HO548 := Aside0.mk (Kd.R_elder' (by (with_reducible skip); exact HO548.out) (Kd.R_base ho0) hb); replace HO554 := Aside0.mk (Kd.R_elder' (by (with_reducible skip); exact HO554.out) (Kd.R_base ho0) hb); replace BK481 := Z.bb BK481 hb; replace HB := Z.st (Z.bs HB.out GE481.out) hb; (try clear hb); (try clear ho0)))
                         go_cut [131] (fun v131 wc => ∃ (kq : Nat) (x131_105 : Bool), v131 = .bool x131_105 ∧ Aside0 (laws_FnExactAfterActs.j12 kq t543 t542 x131_105 = some r) ∧ Aside0 (kq ≤ kj99) ∧ Aside0 (Kd.R (Kd.int .i64) 3 wc w.heap.size (fun _ => True) (.slice Ao97 t543.length co97) t543) ∧ Aside0 (wc.heap[gb481]? = some (.cells #[.int .i64 a0_0, (.slice A0_1 l0_1.length c0_1), (.slice A0_2 l0_2.length c0_2)] 27 (0, 0))) ∧ Aside0 (Below w.heap.size w wc))
                         case first =>
                          have H := HC106.out
                          clear HC106
                          replace H := Option.bind_eq_some_iff.mp H
                          obtain ⟨t562, A1160, H⟩ := H
                          have A116 := Aside0.mk A1160
                          clear A1160
                          by_cases c117 : t562 = true
                          ·subst c117
                           rw [if_pos rfl] at H
                           have H' := Aside0.mk H
                           clear H
                           obtain ⟨Ao118, co118, eo118⟩ := Kd.R_slice HO560.out
                           subst eo118
                           obtain ⟨Ao119, co119, eo119⟩ := Kd.R_slice HO_8.out
                           subst eo119
                           go_wp2_with (((with_reducible refine gate_callee (f := 25) rfl ?_); refine goesL_ (some 125) rfl rfl Try.func25 (by kernel_rfl) rfl #[.slice Ao118 t558.length co118, .slice Ao119 t497.length co119] rfl Z.ar ?_; (with_reducible refine (laws_eqIntS.calls kj99 _ _ t558 _ _ t497 true _ ?q1 ?q2 ?q3 ?q4 A116.out).mono ?_); (case q1 => repeat (exact (Kd.R_reads' HO560.out).2.2)); (case q2 => exact (Kd.R_reads' HO560.out).2.1); (case q3 => repeat (exact (Kd.R_reads' HO_8.out).2.2)); (case q4 => exact (Kd.R_reads' HO_8.out).2.1); rintro e w' ⟨rfl, ⟨nd, rfl⟩⟩; refine ⟨_, rfl, ?_⟩))
                           go_meet
                           case rel => exact ⟨_, ((t561 != t500)), (by rfl), H', ⟨by have := HJ3.out; have := HJ7.out; have := HJ12.out; have := HJ22.out; have := HJ51.out; have := HJ55.out; have := HJ64.out; have := HJ70.out; have := HJ78.out; have := HJ91.out; have := HJ95.out; have := HJ99.out; omega⟩, ⟨by (with_reducible repeat (apply Kd.R_drewN)); exact Kd.R_mono HO_13.out (fun _ hk => trivial)⟩, ⟨by (with_reducible repeat (refine blk_drewN ?_ _)); exact BK481.out⟩, ⟨Z.bs HB.out GE481.out⟩⟩
                          ·replace c117 := Bool.eq_false_iff.mpr c117
                           subst c117
                           rw [if_neg (show ¬ (false = true) by decide)] at H
                           have H' := Aside0.mk H
                           clear H
                           obtain ⟨Ao120, co120, eo120⟩ := Kd.R_slice HO560.out
                           subst eo120
                           obtain ⟨Ao121, co121, eo121⟩ := Kd.R_slice HO_8.out
                           subst eo121
                           go_wp2_with (((with_reducible refine gate_callee (f := 25) rfl ?_); refine goesL_ (some 125) rfl rfl Try.func25 (by kernel_rfl) rfl #[.slice Ao120 t558.length co120, .slice Ao121 t497.length co121] rfl Z.ar ?_; (with_reducible refine (laws_eqIntS.calls kj99 _ _ t558 _ _ t497 false _ ?q1 ?q2 ?q3 ?q4 A116.out).mono ?_); (case q1 => repeat (exact (Kd.R_reads' HO560.out).2.2)); (case q2 => exact (Kd.R_reads' HO560.out).2.1); (case q3 => repeat (exact (Kd.R_reads' HO_8.out).2.2)); (case q4 => exact (Kd.R_reads' HO_8.out).2.1); rintro e w' ⟨rfl, ⟨nd, rfl⟩⟩; refine ⟨_, rfl, ?_⟩))
                           go_meet
                           case rel => exact ⟨_, (true), (by rfl), H', ⟨by have := HJ3.out; have := HJ7.out; have := HJ12.out; have := HJ22.out; have := HJ51.out; have := HJ55.out; have := HJ64.out; have := HJ70.out; have := HJ78.out; have := HJ91.out; have := HJ95.out; have := HJ99.out; omega⟩, ⟨by (with_reducible repeat (apply Kd.R_drewN)); exact Kd.R_mono HO_13.out (fun _ hk => trivial)⟩, ⟨by (with_reducible repeat (refine blk_drewN ?_ _)); exact BK481.out⟩, ⟨Z.bs HB.out GE481.out⟩⟩
                         case rest =>
                          clear HC106
                          obtain ⟨kq, x131_105, rfl, HA, HJ105, HO_13, BK481, HB⟩ := hcut
                          cases kq with
                          | zero => exact absurd HA.out (by simp [laws_FnExactAfterActs.j12])
                          | succ kj105 =>
                           have H := HA.out
                           clear HA
                           simp only [laws_FnExactAfterActs.j12] at H
                           have HC122 := Aside0.mk H
                           clear H
                           go_upto_if 131 with (fail)
                           go_cut [] (fun wc => ∃ (kq : Nat), Aside0 (laws_FnExactAfterActs.j13 kq t543 t542 = some r) ∧ Aside0 (kq ≤ kj105) ∧ Aside0 (Kd.R (Kd.int .i64) 3 wc w.heap.size (fun _ => True) (.slice Ao97 t543.length co97) t543) ∧ Aside0 (wc.heap[gb481]? = some (.cells #[.int .i64 a0_0, (.slice A0_1 l0_1.length c0_1), (.slice A0_2 l0_2.length c0_2)] 27 (0, 0))) ∧ Aside0 (Below w.heap.size w wc))
                           case first =>
                            have H := HC122.out
                            clear HC122
                            by_cases c123 : x131_105 = true
                            ·subst c123
                             rw [if_pos rfl] at H
                             obtain rfl := Option.some.inj H
                             go_wp2
                             go_ret
                             exact ⟨by rfl, Z.bs HB.out GE481.out⟩
                            ·replace c123 := Bool.eq_false_iff.mpr c123
                             subst c123
                             rw [if_neg (show ¬ (false = true) by decide)] at H
                             have H' := Aside0.mk H
                             clear H
                             go_wp2
                             go_meet
                             case rel => exact ⟨_, H', ⟨by have := HJ3.out; have := HJ7.out; have := HJ12.out; have := HJ22.out; have := HJ51.out; have := HJ55.out; have := HJ64.out; have := HJ70.out; have := HJ78.out; have := HJ91.out; have := HJ95.out; have := HJ99.out; have := HJ105.out; omega⟩, ⟨by (with_reducible skip); exact HO_13.out⟩, ⟨by (with_reducible skip); exact BK481.out⟩, ⟨Z.bs HB.out GE481.out⟩⟩
                           case rest =>
                            clear HC122
                            obtain ⟨kq, HA, HJ121, HO_13, BK481, HB⟩ := hcut
                            cases kq with
                            | zero => exact absurd HA.out (by simp [laws_FnExactAfterActs.j13])
                            | succ kj121 =>
                             have H := HA.out
                             clear HA
                             simp only [laws_FnExactAfterActs.j13] at H
                             replace H := Option.bind_eq_some_iff.mp H
                             obtain ⟨t563, A1240, H⟩ := H
                             have A124 := Aside0.mk A1240
                             clear A1240
                             by_cases c125 : t563 < 0
                             ·rw [if_pos c125] at H
                              have c125b0 := decide_eq_true c125
                              clear c125
                              obtain rfl := Option.some.inj H
                              go_wp2_with (((with_reducible refine gate_callee (f := 32) rfl ?_); refine goesL_ (some 134) rfl rfl Try.func32 (by kernel_rfl) rfl #[.slice Ao97 t543.length co97, .int .i64 1] rfl Z.ar ?_; (with_reducible refine (laws_heldIntS.calls kj121 _ _ t543 1 t563 _ ?q1 ?q2 A124.out).mono ?_); (case q1 => repeat (exact (Kd.R_reads' HO_13.out).2.2)); (case q2 => exact (Kd.R_reads' HO_13.out).2.1); rintro e w' ⟨rfl, ⟨nd, rfl⟩⟩; refine ⟨_, rfl, ?_⟩))
                              go_ret
                              exact ⟨by rfl, Z.bs HB.out GE481.out⟩
                             ·rw [if_neg c125] at H
                              have c125b0 := decide_eq_false c125
                              clear c125
                              by_cases c126 : t563 = t542
                              ·rw [if_pos c126] at H
                               have c126b0 : (t563 == t542) = true := beq_iff_eq.mpr c126
                               have c126b1 : (t563 != t542) = false := bne_eq_false_iff_eq.mpr c126
                               clear c126
                               obtain rfl := Option.some.inj H
                               go_wp2_with (((with_reducible refine gate_callee (f := 32) rfl ?_); refine goesL_ (some 134) rfl rfl Try.func32 (by kernel_rfl) rfl #[.slice Ao97 t543.length co97, .int .i64 1] rfl Z.ar ?_; (with_reducible refine (laws_heldIntS.calls kj121 _ _ t543 1 t563 _ ?q1 ?q2 A124.out).mono ?_); (case q1 => repeat (exact (Kd.R_reads' HO_13.out).2.2)); (case q2 => exact (Kd.R_reads' HO_13.out).2.1); rintro e w' ⟨rfl, ⟨nd, rfl⟩⟩; refine ⟨_, rfl, ?_⟩))
                               go_ret
                               exact ⟨by rfl, Z.bs HB.out GE481.out⟩
                              ·rw [if_neg c126] at H
                               have c126b0 : (t563 == t542) = false := beq_eq_false_iff_ne.mpr c126
                               have c126b1 : (t563 != t542) = true := bne_iff_ne.mpr c126
                               obtain rfl := Option.some.inj H
                               go_wp2_with (((with_reducible refine gate_callee (f := 32) rfl ?_); refine goesL_ (some 134) rfl rfl Try.func32 (by kernel_rfl) rfl #[.slice Ao97 t543.length co97, .int .i64 1] rfl Z.ar ?_; (with_reducible refine (laws_heldIntS.calls kj121 _ _ t543 1 t563 _ ?q1 ?q2 A124.out).mono ?_); (case q1 => repeat (exact (Kd.R_reads' HO_13.out).2.2)); (case q2 => exact (Kd.R_reads' HO_13.out).2.1); rintro e w' ⟨rfl, ⟨nd, rfl⟩⟩; refine ⟨_, rfl, ?_⟩))
                               go_ret
                               exact ⟨by rfl, Z.bs HB.out GE481.out⟩

end Go.Proofs.Ytcafckapdgaogaa.PAll

/- Walks of functions that some laws of this seat reach, in the form of the print. -/
import Derived.Test.YtcafckapdgaogaaCAll0
import Derived.Test.YtcafckapdgaogaaCAll1
import Derived.Test.YtcafckapdgaogaaCAll2
import Derived.Test.YtcafckapdgaogaaCAll10
import Derived.Test.YtcafckapdgaogaaCAll17
import Derived.Test.YtcafckapdgaogaaCAll19
import Derived.Test.YtcafckapdgaogaaCAll20
import Derived.Test.YtcafckapdgaogaaCAll23
import Derived.Test.YtcafckapdgaogaaCAll24
import Derived.Test.YtcafckapdgaogaaCAll25
import Derived.Test.YtcafckapdgaogaaCAll48
import Derived.Test.YtcafckapdgaogaaZ
import Derived.Test.YtcafckapdgaogaaV2
-- PRINTED
namespace Go.Proofs.Ytcafckapdgaogaa.PAll
open Go.RowKit Go.Proofs.YtcafckapdgaogaaW.PrintWords Go.Proofs.YtcafckapdgaogaaW.PrintLast Go.Proofs.YtcafckapdgaogaaW.PrintMore
attribute [local go_sem] max2_int min2_int max_two min_two max_three min_three max_four min_four
set_option linter.unusedVariables false
set_option linter.unusedSimpArgs false


/-! ### laws_FnExactValidActs: function 5 -/
mutual
def laws_FnExactValidActs.j0 : Nat → List Int → List (S51) → Int → List Int → List (List (S128)) → Option (Bool)
 | 0, _, _, _, _, _ => none
 | k + 1, x1, x2, x608000, x608001, x608002 => (laws_szCharter.f k x608000 x608001 x608002 1048576).bind fun t608 => (if t608 < 0 then (some true) else (laws_FnExactValidActs.j1 k x1 x2 t608 x608000 x608001 x608002))
def laws_FnExactValidActs.j1 : Nat → List Int → List (S51) → Int → Int → List Int → List (List (S128)) → Option (Bool)
 | 0, _, _, _, _, _, _ => none
 | k + 1, x1, x2, x7, x608000, x608001, x608002 => (laws_szActS.f x2 x7).bind fun t609 => (if t609 < 0 then (some true) else (laws_FnExactValidActs.j2 k x1 x2 x608000 x608001 x608002))
def laws_FnExactValidActs.j2 : Nat → List Int → List (S51) → Int → List Int → List (List (S128)) → Option (Bool)
 | 0, _, _, _, _, _ => none
 | k + 1, x1, x2, x608000, x608001, x608002 => (laws_toCharter.f k x608000 x608001 x608002).bind fun bt610 => ((laws_toIntS.f k x1).bind fun t617 => ((laws_toActS.f k x2).bind fun t620 => ((spec_ValidActs.f k bt610.1 bt610.2.1 bt610.2.2 t617 t620).bind fun t623 => ((laws_toCharter.f k x608000 x608001 x608002).bind fun bt626 => ((laws_toIntS.f k x1).bind fun t634 => ((laws_toActS.f k x2).bind fun t637 => ((impl_ValidActs.f k bt626.1 bt626.2.1 bt626.2.2 t634 t637).bind fun t640 => ((laws_eqActS.f k t640 t623).bind fun t643 => (if t643 = true then (laws_FnExactValidActs.j3 k x1 x2 t623 t634 t637 t640 x608000 x608001 x608002 bt626.1 bt626.2.1 bt626.2.2) else (some false))))))))))
def laws_FnExactValidActs.j3 : Nat → List Int → List (S51) → List (S53) → List Int → List (S53) → List (S53) → Int → List Int → List (List (S128)) → Int → List Int → List (List (S86)) → Option (Bool)
 | 0, _, _, _, _, _, _, _, _, _, _, _, _ => none
 | k + 1, x1, x2, x8, x10, x11, x12, x608000, x608001, x608002, x634000, x634001, x634002 => (laws_toCharter.f k x608000 x608001 x608002).bind fun bt644 => ((laws_eqCharter.f k x634000 x634001 x634002 bt644.1 bt644.2.1 bt644.2.2).bind fun t651 => (if t651 = true then (laws_FnExactValidActs.j4 k x1 x2 x8 x10 x11 x12 x608000 x608001 x608002 x634000 x634001 x634002) else (some false)))
def laws_FnExactValidActs.j4 : Nat → List Int → List (S51) → List (S53) → List Int → List (S53) → List (S53) → Int → List Int → List (List (S128)) → Int → List Int → List (List (S86)) → Option (Bool)
 | 0, _, _, _, _, _, _, _, _, _, _, _, _ => none
 | k + 1, x1, x2, x8, x10, x11, x12, x608000, x608001, x608002, x634000, x634001, x634002 => (laws_toIntS.f k x1).bind fun t652 => ((laws_eqIntS.f k x10 t652).bind fun t655 => (if t655 = true then (laws_FnExactValidActs.j5 k x1 x2 x8 x10 x11 x12 x608000 x608001 x608002 x634000 x634001 x634002) else (some false)))
def laws_FnExactValidActs.j5 : Nat → List Int → List (S51) → List (S53) → List Int → List (S53) → List (S53) → Int → List Int → List (List (S128)) → Int → List Int → List (List (S86)) → Option (Bool)
 | 0, _, _, _, _, _, _, _, _, _, _, _, _ => none
 | k + 1, x1, x2, x8, x10, x11, x12, x608000, x608001, x608002, x634000, x634001, x634002 => (laws_toActS.f k x2).bind fun t656 => ((laws_eqActS.f k x11 t656).bind fun t659 => (if t659 = true then (laws_FnExactValidActs.j6 k x1 x2 x8 x10 x11 x12 x608000 x608001 x608002 x634000 x634001 x634002) else (some false)))
def laws_FnExactValidActs.j6 : Nat → List Int → List (S51) → List (S53) → List Int → List (S53) → List (S53) → Int → List Int → List (List (S128)) → Int → List Int → List (List (S86)) → Option (Bool)
 | 0, _, _, _, _, _, _, _, _, _, _, _, _ => none
 | k + 1, x1, x2, x8, x10, x11, x12, x608000, x608001, x608002, x634000, x634001, x634002 => (laws_markCharter.f x634000 x634001 x634002 1).bind fun t660 => ((laws_markIntS.f k x10 t660).bind fun bt661 => ((laws_markActS.f k x11 bt661.1).bind fun bt663 => (if bt663.1 < 0 then (laws_FnExactValidActs.j7 k x1 x2 x8 x12 true x608000 x608001 x608002) else ((laws_eqActS.f k x12 x8).bind fun t665 => (laws_FnExactValidActs.j7 k x1 x2 x8 x12 (!t665) x608000 x608001 x608002)))))
def laws_FnExactValidActs.j7 : Nat → List Int → List (S51) → List (S53) → List (S53) → Bool → Int → List Int → List (List (S128)) → Option (Bool)
 | 0, _, _, _, _, _, _, _, _ => none
 | k + 1, x1, x2, x8, x12, x82, x608000, x608001, x608002 => if x82 = true then (some false) else (laws_FnExactValidActs.j8 k x1 x2 x8 x12 x608000 x608001 x608002)
def laws_FnExactValidActs.j8 : Nat → List Int → List (S51) → List (S53) → List (S53) → Int → List Int → List (List (S128)) → Option (Bool)
 | 0, _, _, _, _, _, _, _ => none
 | k + 1, x1, x2, x8, x12, x608000, x608001, x608002 => (laws_markActS.f k x12 1).bind fun bt666 => ((laws_heldActS.f k bt666.2 1).bind fun t668 => (if t668 < 0 then (some false) else (laws_FnExactValidActs.j9 k x1 x2 x8 bt666.2 bt666.1 t668 x608000 x608001 x608002)))
def laws_FnExactValidActs.j9 : Nat → List Int → List (S51) → List (S53) → List (S53) → Int → Int → Int → List Int → List (List (S128)) → Option (Bool)
 | 0, _, _, _, _, _, _, _, _, _ => none
 | k + 1, x1, x2, x8, x12, x14, x15, x608000, x608001, x608002 => if x15 = x14 then (laws_FnExactValidActs.j10 k x1 x2 x8 x12 x14 x608000 x608001 x608002) else (some false)
def laws_FnExactValidActs.j10 : Nat → List Int → List (S51) → List (S53) → List (S53) → Int → Int → List Int → List (List (S128)) → Option (Bool)
 | 0, _, _, _, _, _, _, _, _ => none
 | k + 1, x1, x2, x8, x12, x14, x608000, x608001, x608002 => (laws_toCharter.f k x608000 x608001 x608002).bind fun bt669 => ((laws_toIntS.f k x1).bind fun t676 => ((laws_toActS.f k x2).bind fun t679 => ((impl_ValidActs.f k bt669.1 bt669.2.1 bt669.2.2 t676 t679).bind fun t682 => ((laws_eqActS.f k t682 x8).bind fun t685 => (if t685 = true then (laws_FnExactValidActs.j11 k x12 x14) else (some false))))))
def laws_FnExactValidActs.j11 : Nat → List (S53) → Int → Option (Bool)
 | 0, _, _ => none
 | k + 1, x12, x14 => (laws_heldActS.f k x12 1).bind fun t686 => (if t686 < 0 then (some false) else (if t686 = x14 then (some true) else (some false)))
end
def laws_FnExactValidActs.f (k : Nat) (a0_0 : Int) (l0_1 : List Int) (l0_2 : List (List (S128))) (l1 : List Int) (l2 : List (S51)) : Option (Bool) := if (l1.length : Int) > 1048576 then (some true) else (laws_FnExactValidActs.j0 k l1 l2 a0_0 l0_1 l0_2)
set_option maxHeartbeats 8000000 in
set_option maxRecDepth 100000 in
theorem laws_FnExactValidActs.calls (k : Nat) (a0_0 : Int) (A0_1 : Option Addr) (c0_1 : Nat) (l0_1 : List Int) (A0_2 : Option Addr) (c0_2 : Nat) (l0_2 : List (List (S128))) (A1 : Option Addr) (c1 : Nat) (l1 : List Int) (A2 : Option Addr) (c2 : Nat) (l2 : List (S51)) (r : Bool) (w : World) (hr0_1 : Kd.C (Kd.int .i64) w A0_1 l0_1.length l0_1) (hc0_1 : l0_1.length ≤ c0_1) (hr0_2 : Kd.C (Kd.slice 128 k128) w A0_2 l0_2.length l0_2) (hc0_2 : l0_2.length ≤ c0_2) (hr1 : Kd.C (Kd.int .i64) w A1 l1.length l1) (hc1 : l1.length ≤ c1) (hr2 : Kd.C k51 w A2 l2.length l2) (hc2 : l2.length ≤ c2) (h : laws_FnExactValidActs.f k a0_0 l0_1 l0_2 l1 l2 = some r) :
  Calls Try.prog 5 #[.agg #[.int .i64 a0_0, .slice A0_1 l0_1.length c0_1, .slice A0_2 l0_2.length c0_2], .slice A1 l1.length c1, .slice A2 l2.length c2] w fun e w' => e = .returned (.bool r) ∧ Below w.heap.size w w' := by
 have hu27 := Try.underlying27
 have hu35 := Try.underlying35
 have HR0_1 := Aside0.mk hr0_1
 have HC0_1 := Aside0.mk hc0_1
 clear hr0_1 hc0_1
 have HR0_2 := Aside0.mk hr0_2
 have HC0_2 := Aside0.mk hc0_2
 clear hr0_2 hc0_2
 have HR1 := Aside0.mk hr1
 have HC1 := Aside0.mk hc1
 clear hr1 hc1
 have HR2 := Aside0.mk hr2
 have HC2 := Aside0.mk hc2
 clear hr2 hc2
 have HB := Aside0.mk (Below.refl w.heap.size w)
 have H := h
 clear h
 unfold laws_FnExactValidActs.f at H
 have HC4 := Aside0.mk H
 clear H
 go_enter Try.func5, Try.ntmps5
 go_upto_if 19 with (((with_reducible refine gate_dst (N := 3) rfl ?_); refine Z.bx #[.int .i64 a0_0, .slice A0_1 l0_1.length c0_1, .slice A0_2 l0_2.length c0_2] 27 HB ?_; clear HB; intro gb607 w5 BK607 GE607 HB hg hb; have GW607 := GE607; clear hb hg))
 go_cut [] (fun wc => ∃ (kq : Nat), Aside0 (laws_FnExactValidActs.j0 kq l1 l2 a0_0 l0_1 l0_2 = some r) ∧ Aside0 (kq ≤ k) ∧ Aside0 (wc.heap[gb607]? = some (.cells #[.int .i64 a0_0, (.slice A0_1 l0_1.length c0_1), (.slice A0_2 l0_2.length c0_2)] 27 (0, 0))) ∧ Aside0 (Below w.heap.size w wc))
 case first =>
  have H := HC4.out
  clear HC4
  by_cases c6 : (l1.length : Int) > 1048576
  ·rw [if_pos c6] at H
   have c6b0 : decide (1048576 < (l1.length : Int)) = true := decide_eq_true c6
   have c6b1 : decide (1048576 < l1.length) = true := decide_eq_true (by omega)
   clear c6
   (rw [c6b0])
   obtain rfl := Option.some.inj H
   go_wp2
   go_ret
   exact ⟨by rfl, Z.bs HB.out GE607.out⟩
  ·rw [if_neg c6] at H
   have c6b0 : decide (1048576 < (l1.length : Int)) = false := decide_eq_false c6
   have c6b1 : decide (1048576 < l1.length) = false := decide_eq_false (by omega)
   clear c6
   (rw [c6b0])
   have H' := Aside0.mk H
   clear H
   go_wp2
   go_meet
   case rel => exact ⟨_, H', ⟨by omega⟩, ⟨by (with_reducible skip); exact BK607.out⟩, ⟨Z.bs HB.out GE607.out⟩⟩
 case rest =>
  clear HC4
  obtain ⟨kq, HA, HJ3, BK607, HB⟩ := hcut
  cases kq with
  | zero => exact absurd HA.out (by simp [laws_FnExactValidActs.j0])
  | succ kj3 =>
   have H := HA.out
   clear HA
   simp only [laws_FnExactValidActs.j0] at H
   replace H := Option.bind_eq_some_iff.mp H
   obtain ⟨t608, A70, H⟩ := H
   have A7 := Aside0.mk A70
   clear A70
   have HC8 := Aside0.mk H
   clear H
   have hcz9 := Z.c3 BK607.out
   go_upto_if 24 with (((with_reducible refine gate_callee (f := 17) rfl ?_); refine goesL_ (some 22) rfl rfl Try.func17 (by kernel_rfl) rfl #[.agg #[.int .i64 a0_0, .slice A0_1 l0_1.length c0_1, .slice A0_2 l0_2.length c0_2], .int .i64 1048576] rfl Z.ar ?_; (with_reducible refine (laws_szCharter.calls kj3 a0_0 _ _ l0_1 _ _ l0_2 1048576 t608 _ ?q1 ?q2 ?q3 ?q4 A7.out).mono ?_); (case q1 => exact Z.cc HR0_1 HB); (case q2 => exact HC0_1.out); (case q3 => exact Z.cc HR0_2 HB); (case q4 => exact HC0_2.out); rintro e w10 ⟨rfl, hb⟩; refine ⟨_, rfl, ?_⟩; replace BK607 := Z.bb BK607 hb; replace HB := Z.st (Z.bs HB.out GE607.out) hb; (try clear hb)))
   go_cut [] (fun wc => ∃ (kq : Nat), Aside0 (laws_FnExactValidActs.j1 kq l1 l2 t608 a0_0 l0_1 l0_2 = some r) ∧ Aside0 (kq ≤ kj3) ∧ Aside0 (wc.heap[gb607]? = some (.cells #[.int .i64 a0_0, (.slice A0_1 l0_1.length c0_1), (.slice A0_2 l0_2.length c0_2)] 27 (0, 0))) ∧ Aside0 (Below w.heap.size w wc))
   case first =>
    have H := HC8.out
    clear HC8
    by_cases c11 : t608 < 0
    ·rw [if_pos c11] at H
     have c11b0 := decide_eq_true c11
     clear c11
     (rw [c11b0])
     obtain rfl := Option.some.inj H
     go_wp2
     go_ret
     exact ⟨by rfl, Z.bs HB.out GE607.out⟩
    ·rw [if_neg c11] at H
     have c11b0 := decide_eq_false c11
     clear c11
     (rw [c11b0])
     have H' := Aside0.mk H
     clear H
     go_wp2
     go_meet
     case rel => exact ⟨_, H', ⟨by have := HJ3.out; omega⟩, ⟨by (with_reducible skip); exact BK607.out⟩, ⟨Z.bs HB.out GE607.out⟩⟩
   case rest =>
    clear HC8
    obtain ⟨kq, HA, HJ7, BK607, HB⟩ := hcut
    cases kq with
    | zero => exact absurd HA.out (by simp [laws_FnExactValidActs.j1])
    | succ kj7 =>
     have H := HA.out
     clear HA
     simp only [laws_FnExactValidActs.j1] at H
     replace H := Option.bind_eq_some_iff.mp H
     obtain ⟨t609, A120, H⟩ := H
     have A12 := Aside0.mk A120
     clear A120
     have HC13 := Aside0.mk H
     clear H
     go_upto_if 29 with (((with_reducible refine gate_callee (f := 18) rfl ?_); refine goesL_ (some 27) rfl rfl Try.func18 (by kernel_rfl) rfl #[.slice A2 l2.length c2, .int .i64 t608] rfl Z.ar ?_; (with_reducible refine (laws_szActS.calls _ _ l2 t608 t609 _ ?q1 ?q2 A12.out).mono ?_); (case q1 => exact Z.cc HR2 HB); (case q2 => exact HC2.out); rintro e w' ⟨rfl, ⟨nd, rfl⟩⟩; refine ⟨_, rfl, ?_⟩))
     go_cut [] (fun wc => ∃ (kq : Nat), Aside0 (laws_FnExactValidActs.j2 kq l1 l2 a0_0 l0_1 l0_2 = some r) ∧ Aside0 (kq ≤ kj7) ∧ Aside0 (wc.heap[gb607]? = some (.cells #[.int .i64 a0_0, (.slice A0_1 l0_1.length c0_1), (.slice A0_2 l0_2.length c0_2)] 27 (0, 0))) ∧ Aside0 (Below w.heap.size w wc))
     case first =>
      have H := HC13.out
      clear HC13
      by_cases c14 : t609 < 0
      ·rw [if_pos c14] at H
       have c14b0 := decide_eq_true c14
       clear c14
       (rw [c14b0])
       obtain rfl := Option.some.inj H
       go_wp2
       go_ret
       exact ⟨by rfl, Z.bs HB.out GE607.out⟩
      ·rw [if_neg c14] at H
       have c14b0 := decide_eq_false c14
       clear c14
       (rw [c14b0])
       have H' := Aside0.mk H
       clear H
       go_wp2
       go_meet
       case rel => exact ⟨_, H', ⟨by have := HJ3.out; have := HJ7.out; omega⟩, ⟨by (with_reducible repeat (refine blk_drewN ?_ _)); exact BK607.out⟩, ⟨Z.bs HB.out GE607.out⟩⟩
     case rest =>
      clear HC13
      obtain ⟨kq, HA, HJ12, BK607, HB⟩ := hcut
      cases kq with
      | zero => exact absurd HA.out (by simp [laws_FnExactValidActs.j2])
      | succ kj12 =>
       have H := HA.out
       clear HA
       simp only [laws_FnExactValidActs.j2] at H
       replace H := Option.bind_eq_some_iff.mp H
       obtain ⟨⟨t610, t611, t614⟩, A150, H⟩ := H
       try dsimp only at H
       have A15 := Aside0.mk A150
       clear A150
       replace H := Option.bind_eq_some_iff.mp H
       obtain ⟨t617, A160, H⟩ := H
       have A16 := Aside0.mk A160
       clear A160
       replace H := Option.bind_eq_some_iff.mp H
       obtain ⟨t620, A170, H⟩ := H
       have A17 := Aside0.mk A170
       clear A170
       replace H := Option.bind_eq_some_iff.mp H
       obtain ⟨t623, A180, H⟩ := H
       have A18 := Aside0.mk A180
       clear A180
       replace H := Option.bind_eq_some_iff.mp H
       obtain ⟨⟨t626, t627, t630⟩, A190, H⟩ := H
       try dsimp only at H
       have A19 := Aside0.mk A190
       clear A190
       replace H := Option.bind_eq_some_iff.mp H
       obtain ⟨t634, A200, H⟩ := H
       have A20 := Aside0.mk A200
       clear A200
       replace H := Option.bind_eq_some_iff.mp H
       obtain ⟨t637, A210, H⟩ := H
       have A21 := Aside0.mk A210
       clear A210
       replace H := Option.bind_eq_some_iff.mp H
       obtain ⟨t640, A220, H⟩ := H
       have A22 := Aside0.mk A220
       clear A220
       replace H := Option.bind_eq_some_iff.mp H
       obtain ⟨t643, A230, H⟩ := H
       have A23 := Aside0.mk A230
       clear A230
       have HC24 := Aside0.mk H
       clear H
       have hcz25 := Z.c3 BK607.out
       go_upto_if 50 with (first | ((with_reducible refine gate_callee (f := 20) rfl ?_); refine goesL_ (some 31) rfl rfl Try.func20 (by kernel_rfl) rfl #[.agg #[.int .i64 a0_0, .slice A0_1 l0_1.length c0_1, .slice A0_2 l0_2.length c0_2]] rfl Z.ar ?_; (with_reducible refine (laws_toCharter.calls kj12 a0_0 _ _ l0_1 _ _ l0_2 t610 t611 t614 _ ?q1 ?q2 ?q3 ?q4 A15.out).mono ?_); (case q1 => exact Z.cc HR0_1 HB); (case q2 => exact HC0_1.out); (case q3 => exact Z.cc HR0_2 HB); (case q4 => exact HC0_2.out); rintro e w26 ⟨v612, v615, rfl, ho0, ho1, hb⟩; refine ⟨_, rfl, ?_⟩; have HO613 := Aside0.mk (Kd.R_lower ho0 (below_size (Z.bs HB.out GE607.out))); have HO616 := Aside0.mk (Kd.R_lower ho1 (below_size (Z.bs HB.out GE607.out))); replace BK607 := Z.bb BK607 hb; replace HB := Z.st (Z.bs HB.out GE607.out) hb; (try clear hb); (try clear ho0); (try clear ho1)) | ((with_reducible refine gate_callee (f := 21) rfl ?_); refine goesL_ (some 33) rfl rfl Try.func21 (by kernel_rfl) rfl #[.slice A1 l1.length c1] rfl Z.ar ?_; (with_reducible refine (laws_toIntS.calls kj12 _ _ l1 t617 _ ?q1 ?q2 A16.out).mono ?_); (case q1 => exact Z.cc HR1 HB); (case q2 => exact HC1.out); rintro e w27 ⟨v618, rfl, ho0, hb⟩; refine ⟨_, rfl, ?_⟩; replace HO616 := Aside0.mk (Kd.R_below (by (with_reducible skip); exact HO616.out) hb); have HO619 := Aside0.mk (Kd.R_lower (Kd.R_new' ho0 (Kd.R_lt (by (with_reducible skip); exact HO613.out))) (below_size (Z.bs HB.out GE607.out))); replace HO613 := Aside0.mk (Kd.R_elder' (by (with_reducible skip); exact HO613.out) (Kd.R_base ho0) hb); replace BK607 := Z.bb BK607 hb; replace HB := Z.st (Z.bs HB.out GE607.out) hb; (try clear hb); (try clear ho0)) | ((with_reducible refine gate_callee (f := 22) rfl ?_); refine goesL_ (some 35) rfl rfl Try.func22 (by kernel_rfl) rfl #[.slice A2 l2.length c2] rfl Z.ar ?_; (with_reducible refine (laws_toActS.calls kj12 _ _ l2 t620 _ ?q1 ?q2 A17.out).mono ?_); (case q1 => exact Z.cc HR2 HB); (case q2 => exact HC2.out); rintro e w28 ⟨v621, rfl, ho0, hb⟩; refine ⟨_, rfl, ?_⟩; replace HO613 := Aside0.mk (Kd.R_below (by (with_reducible skip); exact HO613.out) hb); replace HO616 := Aside0.mk (Kd.R_below (by (with_reducible skip); exact HO616.out) hb); replace HO619 := Aside0.mk (Kd.R_below (by (with_reducible skip); exact HO619.out) hb); have HO622 := Aside0.mk (Kd.R_lower ho0 (below_size (Z.bs HB.out GE607.out))); replace BK607 := Z.bb BK607 hb; replace HB := Z.st (Z.bs HB.out GE607.out) hb; (try clear hb); (try clear ho0); obtain ⟨Ao29, co29, eo29⟩ := Kd.R_slice HO613.out; subst eo29; obtain ⟨Ao30, co30, eo30⟩ := Kd.R_slice HO616.out; subst eo30; obtain ⟨Ao31, co31, eo31⟩ := Kd.R_slice HO619.out; subst eo31; obtain ⟨Ao32, co32, eo32⟩ := Kd.R_slice HO622.out; subst eo32) | ((with_reducible refine gate_callee (f := 33) rfl ?_); refine goesL_ (some 36) rfl rfl Try.func33 (by kernel_rfl) rfl #[.agg #[.int .i64 t610, .slice Ao29 t611.length co29, .slice Ao30 t614.length co30], .slice Ao31 t617.length co31, .slice Ao32 t620.length co32] rfl Z.ar ?_; (with_reducible refine (spec_ValidActs.calls kj12 t610 _ _ t611 _ _ t614 _ _ t617 _ _ t620 t623 _ ?q1 ?q2 ?q3 ?q4 ?q5 ?q6 ?q7 ?q8 A18.out).mono ?_); (case q1 => repeat (exact (Kd.R_reads' HO613.out).2.2)); (case q2 => exact (Kd.R_reads' HO613.out).2.1); (case q3 => repeat (exact (Kd.R_reads' HO616.out).2.2)); (case q4 => exact (Kd.R_reads' HO616.out).2.1); (case q5 => repeat (exact (Kd.R_reads' HO619.out).2.2)); (case q6 => exact (Kd.R_reads' HO619.out).2.1); (case q7 => repeat (exact (Kd.R_reads' HO622.out).2.2)); (case q8 => exact (Kd.R_reads' HO622.out).2.1); rintro e w33 ⟨v624, rfl, ho0, hb⟩; refine ⟨_, rfl, ?_⟩; replace HO613 := Aside0.mk (Kd.R_below (by (with_reducible skip); exact HO613.out) hb); replace HO616 := Aside0.mk (Kd.R_below (by (with_reducible skip); exact HO616.out) hb); replace HO619 := Aside0.mk (Kd.R_below (by (with_reducible skip); exact HO619.out) hb); have HO625 := Aside0.mk (Kd.R_lower (Kd.R_new' ho0 (Kd.R_lt (by (with_reducible skip); exact HO622.out))) (below_size (Z.bs HB.out GE607.out))); replace HO622 := Aside0.mk (Kd.R_elder' (by (with_reducible skip); exact HO622.out) (Kd.R_base ho0) hb); replace BK607 := Z.bb BK607 hb; replace HB := Z.st (Z.bs HB.out GE607.out) hb; (try clear hb); (try clear ho0); have hcz34 := Z.c3 BK607.out) | ((with_reducible refine gate_callee (f := 20) rfl ?_); refine goesL_ (some 38) rfl rfl Try.func20 (by kernel_rfl) rfl #[.agg #[.int .i64 a0_0, .slice A0_1 l0_1.length c0_1, .slice A0_2 l0_2.length c0_2]] rfl Z.ar ?_; (with_reducible refine (laws_toCharter.calls kj12 a0_0 _ _ l0_1 _ _ l0_2 t626 t627 t630 _ ?q1 ?q2 ?q3 ?q4 A19.out).mono ?_); (case q1 => exact Z.cc HR0_1 HB); (case q2 => exact HC0_1.out); (case q3 => exact Z.cc HR0_2 HB); (case q4 => exact HC0_2.out); rintro e w35 ⟨v628, v631, rfl, ho0, ho1, hb⟩; refine ⟨_, rfl, ?_⟩; replace HO622 := Aside0.mk (Kd.R_below (by (with_reducible skip); exact HO622.out) hb); replace HO625 := Aside0.mk (Kd.R_below (by (with_reducible skip); exact HO625.out) hb); have HO629 := Aside0.mk (Kd.R_lower (Kd.R_new' (Kd.R_new' ho0 (Kd.R_lt (by (with_reducible skip); exact HO613.out))) (Kd.R_lt (by (with_reducible skip); exact HO619.out))) (below_size (Z.bs HB.out GE607.out))); replace HO613 := Aside0.mk (Kd.R_elder' (by (with_reducible skip); exact HO613.out) (Kd.R_base ho0) hb); replace HO619 := Aside0.mk (Kd.R_elder' (by (with_reducible skip); exact HO619.out) (Kd.R_base ho0) hb); have HO632 := Aside0.mk (Kd.R_lower (Kd.R_new' ho1 (Kd.R_lt (by (with_reducible skip); exact HO616.out))) (below_size (Z.bs HB.out GE607.out))); replace HO616 := Aside0.mk (Kd.R_elder' (by (with_reducible skip); exact HO616.out) (Kd.R_base ho1) hb); replace BK607 := Z.bb BK607 hb; replace HB := Z.st (Z.bs HB.out GE607.out) hb; (try clear hb); (try clear ho0); (try clear ho1)) | ((with_reducible refine gate_dst (N := 9) rfl ?_); refine Z.bz #[.int .i64 0, .slice none 0 0, .slice none 0 0] 35 HB GE607 ?_; clear HB; intro gb633 w36 BK633 GE633 HB hg hb; have GW633 := GE633; replace HO613 := Aside0.mk (Kd.R_below (by (with_reducible skip); exact HO613.out) hb); replace HO616 := Aside0.mk (Kd.R_below (by (with_reducible skip); exact HO616.out) hb); replace HO619 := Aside0.mk (Kd.R_below (by (with_reducible skip); exact HO619.out) hb); replace HO622 := Aside0.mk (Kd.R_below (by (with_reducible skip); exact HO622.out) hb); replace HO625 := Aside0.mk (Kd.R_below (by (with_reducible skip); exact HO625.out) hb); replace HO629 := Aside0.mk (Kd.R_below (by (with_reducible skip); exact HO629.out) hb); replace HO632 := Aside0.mk (Kd.R_below (by (with_reducible skip); exact HO632.out) hb); have NB607_633 := Z.nl hg BK607; have NB633_607 := Z.ng hg BK607; replace BK607 := Z.bb BK607 hb; clear hb hg; have hnb37 := NB633_607.out; have hnc37 := NB607_633.out; have hcz38 := Z.c3 BK633.out; obtain ⟨Ao39, co39, eo39⟩ := Kd.R_slice HO629.out; subst eo39; obtain ⟨Ao40, co40, eo40⟩ := Kd.R_slice HO632.out; subst eo40) | ((with_reducible refine gate_callee (f := 21) rfl ?_); refine goesL_ (some 40) rfl rfl Try.func21 (by kernel_rfl) rfl #[.slice A1 l1.length c1] rfl Z.ar ?_; (with_reducible refine (laws_toIntS.calls kj12 _ _ l1 t634 _ ?q1 ?q2 A20.out).mono ?_); (case q1 => exact Kd.C_below HR1.out (by repeat ((with_reducible first | exact HB.out | refine below_set ?_ GE633.out)))); (case q2 => exact HC1.out); rintro e w41 ⟨v635, rfl, ho0, hb⟩; refine ⟨_, rfl, ?_⟩; replace HO616 := Aside0.mk (Kd.R_below (by (with_reducible skip); exact (Kd.R_mono (Kd.R_far (p := ⟨gb633, 2, none⟩) (Kd.R_far (p := ⟨gb633, 1, none⟩) (Kd.R_far (p := ⟨gb633, 0, none⟩) (Kd.R_types HO616.out BK633.out (by decide)) (fun _ hk => hk.2) (.int .i64 t626)) (fun _ hk => hk.2) (.slice Ao39 t627.length co39)) (fun _ hk => hk.2) (.slice Ao40 t630.length co40)) (fun _ h_ => h_.1))) hb); replace HO622 := Aside0.mk (Kd.R_below (by (with_reducible skip); exact (Kd.R_mono (Kd.R_far (p := ⟨gb633, 2, none⟩) (Kd.R_far (p := ⟨gb633, 1, none⟩) (Kd.R_far (p := ⟨gb633, 0, none⟩) (Kd.R_types HO622.out BK633.out (by decide)) (fun _ hk => hk.2) (.int .i64 t626)) (fun _ hk => hk.2) (.slice Ao39 t627.length co39)) (fun _ hk => hk.2) (.slice Ao40 t630.length co40)) (fun _ h_ => h_.1))) hb); replace HO625 := Aside0.mk (Kd.R_below (by (with_reducible skip); exact (Kd.R_mono (Kd.R_far (p := ⟨gb633, 2, none⟩) (Kd.R_far (p := ⟨gb633, 1, none⟩) (Kd.R_far (p := ⟨gb633, 0, none⟩) (Kd.R_types HO625.out BK633.out (by decide)) (fun _ hk => hk.2) (.int .i64 t626)) (fun _ hk => hk.2) (.slice Ao39 t627.length co39)) (fun _ hk => hk.2) (.slice Ao40 t630.length co40)) (fun _ h_ => h_.1))) hb); replace HO632 := Aside0.mk (Kd.R_below (by (with_reducible skip); exact (Kd.R_mono (Kd.R_far (p := ⟨gb633, 2, none⟩) (Kd.R_far (p := ⟨gb633, 1, none⟩) (Kd.R_far (p := ⟨gb633, 0, none⟩) (Kd.R_types HO632.out BK633.out (by decide)) (fun _ hk => hk.2) (.int .i64 t626)) (fun _ hk => hk.2) (.slice Ao39 t627.length co39)) (fun _ hk => hk.2) (.slice Ao40 t630.length co40)) (fun _ h_ => h_.1))) hb); have HO636 := Aside0.mk (Kd.R_lower (Kd.R_new' (Kd.R_new' (Kd.R_new' ho0 (Kd.R_lt (by (with_reducible skip); exact (Kd.R_mono (Kd.R_far (p := ⟨gb633, 2, none⟩) (Kd.R_far (p := ⟨gb633, 1, none⟩) (Kd.R_far (p := ⟨gb633, 0, none⟩) (Kd.R_types HO613.out BK633.out (by decide)) (fun _ hk => hk.2) (.int .i64 t626)) (fun _ hk => hk.2) (.slice Ao39 t627.length co39)) (fun _ hk => hk.2) (.slice Ao40 t630.length co40)) (fun _ h_ => h_.1))))) (Kd.R_lt (by (with_reducible skip); exact (Kd.R_mono (Kd.R_far (p := ⟨gb633, 2, none⟩) (Kd.R_far (p := ⟨gb633, 1, none⟩) (Kd.R_far (p := ⟨gb633, 0, none⟩) (Kd.R_types HO619.out BK633.out (by decide)) (fun _ hk => hk.2) (.int .i64 t626)) (fun _ hk => hk.2) (.slice Ao39 t627.length co39)) (fun _ hk => hk.2) (.slice Ao40 t630.length co40)) (fun _ h_ => h_.1))))) (Kd.R_lt (by (with_reducible skip); exact (Kd.R_mono (Kd.R_far (p := ⟨gb633, 2, none⟩) (Kd.R_far (p := ⟨gb633, 1, none⟩) (Kd.R_far (p := ⟨gb633, 0, none⟩) (Kd.R_types HO629.out BK633.out (by decide)) (fun _ hk => hk.2) (.int .i64 t626)) (fun _ hk => hk.2) (.slice Ao39 t627.length co39)) (fun _ hk => hk.2) (.slice Ao40 t630.length co40)) (fun _ h_ => h_.1))))) (below_size (by repeat ((with_reducible first | exact HB.out | refine below_set ?_ GE633.out))))); replace HO613 := Aside0.mk (Kd.R_elder' (by (with_reducible skip); exact (Kd.R_mono (Kd.R_far (p := ⟨gb633, 2, none⟩) (Kd.R_far (p := ⟨gb633, 1, none⟩) (Kd.R_far (p := ⟨gb633, 0, none⟩) (Kd.R_types HO613.out BK633.out (by decide)) (fun _ hk => hk.2) (.int .i64 t626)) (fun _ hk => hk.2) (.slice Ao39 t627.length co39)) (fun _ hk => hk.2) (.slice Ao40 t630.length co40)) (fun _ h_ => h_.1))) (Kd.R_base ho0) hb); replace HO619 := Aside0.mk (Kd.R_elder' (by (with_reducible skip); exact (Kd.R_mono (Kd.R_far (p := ⟨gb633, 2, none⟩) (Kd.R_far (p := ⟨gb633, 1, none⟩) (Kd.R_far (p := ⟨gb633, 0, none⟩) (Kd.R_types HO619.out BK633.out (by decide)) (fun _ hk => hk.2) (.int .i64 t626)) (fun _ hk => hk.2) (.slice Ao39 t627.length co39)) (fun _ hk => hk.2) (.slice Ao40 t630.length co40)) (fun _ h_ => h_.1))) (Kd.R_base ho0) hb); replace HO629 := Aside0.mk (Kd.R_elder' (by (with_reducible skip); exact (Kd.R_mono (Kd.R_far (p := ⟨gb633, 2, none⟩) (Kd.R_far (p := ⟨gb633, 1, none⟩) (Kd.R_far (p := ⟨gb633, 0, none⟩) (Kd.R_types HO629.out BK633.out (by decide)) (fun _ hk => hk.2) (.int .i64 t626)) (fun _ hk => hk.2) (.slice Ao39 t627.length co39)) (fun _ hk => hk.2) (.slice Ao40 t630.length co40)) (fun _ h_ => h_.1))) (Kd.R_base ho0) hb); replace BK607 := Aside0.mk (blk_below (g := gb607) (o := .cells #[.int .i64 a0_0, .slice A0_1 l0_1.length c0_1, .slice A0_2 l0_2.length c0_2] 27 (0, 0)) (by (with_reducible skip); refine blk_far ?_ NB607_633.out _; (with_reducible skip); refine blk_far ?_ NB607_633.out _; (with_reducible skip); refine blk_far ?_ NB607_633.out _; (with_reducible skip); exact BK607.out) hb); replace BK633 := Aside0.mk (blk_below (g := gb633) (o := .cells #[.int .i64 t626, .slice Ao39 t627.length co39, .slice Ao40 t630.length co40] 35 (0, 0)) (by (with_reducible skip); refine blk_put (cs := #[.int .i64 t626, .slice Ao39 t627.length co39, .slice none 0 0]) ?_ 2 _ rfl; (with_reducible skip); refine blk_put (cs := #[.int .i64 t626, .slice none 0 0, .slice none 0 0]) ?_ 1 _ rfl; (with_reducible skip); refine blk_put (cs := #[.int .i64 0, .slice none 0 0, .slice none 0 0]) ?_ 0 _ rfl; (with_reducible skip); exact BK633.out) hb); replace HB := Aside0.mk (below_step (by repeat ((with_reducible first | exact HB.out | refine below_set ?_ GE633.out))) hb); (try clear hb); (try clear ho0)) | ((with_reducible refine gate_callee (f := 22) rfl ?_); refine goesL_ (some 42) rfl rfl Try.func22 (by kernel_rfl) rfl #[.slice A2 l2.length c2] rfl Z.ar ?_; (with_reducible refine (laws_toActS.calls kj12 _ _ l2 t637 _ ?q1 ?q2 A21.out).mono ?_); (case q1 => exact Z.cc HR2 HB); (case q2 => exact HC2.out); rintro e w42 ⟨v638, rfl, ho0, hb⟩; refine ⟨_, rfl, ?_⟩; replace HO613 := Aside0.mk (Kd.R_below (by (with_reducible skip); exact HO613.out) hb); replace HO616 := Aside0.mk (Kd.R_below (by (with_reducible skip); exact HO616.out) hb); replace HO619 := Aside0.mk (Kd.R_below (by (with_reducible skip); exact HO619.out) hb); replace HO629 := Aside0.mk (Kd.R_below (by (with_reducible skip); exact HO629.out) hb); replace HO632 := Aside0.mk (Kd.R_below (by (with_reducible skip); exact HO632.out) hb); replace HO636 := Aside0.mk (Kd.R_below (by (with_reducible skip); exact HO636.out) hb); have HO639 := Aside0.mk (Kd.R_lower (Kd.R_new' (Kd.R_new' ho0 (Kd.R_lt (by (with_reducible skip); exact HO622.out))) (Kd.R_lt (by (with_reducible skip); exact HO625.out))) (below_size (by repeat ((with_reducible exact HB.out))))); replace HO622 := Aside0.mk (Kd.R_elder' (by (with_reducible skip); exact HO622.out) (Kd.R_base ho0) hb); replace HO625 := Aside0.mk (Kd.R_elder' (by (with_reducible skip); exact HO625.out) (Kd.R_base ho0) hb); replace BK607 := Z.bb BK607 hb; replace BK633 := Z.bb BK633 hb; replace HB := Aside0.mk (below_step (by repeat ((with_reducible exact HB.out))) hb); (try clear hb); (try clear ho0); have hcz43 := Z.c3 BK633.out; obtain ⟨Ao44, co44, eo44⟩ := Kd.R_slice HO636.out; subst eo44; obtain ⟨Ao45, co45, eo45⟩ := Kd.R_slice HO639.out; subst eo45) | ((with_reducible refine gate_callee (f := 34) rfl ?_); refine goesL_ (some 46) rfl rfl Try.func34 (by kernel_rfl) rfl #[.agg #[.int .i64 t626, .slice Ao39 t627.length co39, .slice Ao40 t630.length co40], .slice Ao44 t634.length co44, .slice Ao45 t637.length co45] rfl Z.ar ?_; (with_reducible refine (impl_ValidActs.calls kj12 t626 _ _ t627 _ _ t630 _ _ t634 _ _ t637 t640 _ ?q1 ?q2 ?q3 ?q4 ?q5 ?q6 ?q7 ?q8 A22.out).mono ?_); (case q1 => repeat (exact (Kd.R_reads' HO629.out).2.2)); (case q2 => exact (Kd.R_reads' HO629.out).2.1); (case q3 => repeat (exact (Kd.R_reads' HO632.out).2.2)); (case q4 => exact (Kd.R_reads' HO632.out).2.1); (case q5 => repeat (exact (Kd.R_reads' HO636.out).2.2)); (case q6 => exact (Kd.R_reads' HO636.out).2.1); (case q7 => repeat (exact (Kd.R_reads' HO639.out).2.2)); (case q8 => exact (Kd.R_reads' HO639.out).2.1); rintro e w46 ⟨v641, rfl, ho0, hb⟩; refine ⟨_, rfl, ?_⟩; replace HO613 := Aside0.mk (Kd.R_below (by (with_reducible skip); exact HO613.out) hb); replace HO616 := Aside0.mk (Kd.R_below (by (with_reducible skip); exact HO616.out) hb); replace HO619 := Aside0.mk (Kd.R_below (by (with_reducible skip); exact HO619.out) hb); replace HO629 := Aside0.mk (Kd.R_below (by (with_reducible skip); exact HO629.out) hb); replace HO632 := Aside0.mk (Kd.R_below (by (with_reducible skip); exact HO632.out) hb); replace HO636 := Aside0.mk (Kd.R_below (by (with_reducible skip); exact HO636.out) hb); have HO642 := Aside0.mk (Kd.R_lower (Kd.R_new' (Kd.R_new' (Kd.R_new' ho0 (Kd.R_lt (by (with_reducible skip); exact HO622.out))) (Kd.R_lt (by (with_reducible skip); exact HO625.out))) (Kd.R_lt (by (with_reducible skip); exact HO639.out))) (below_size (by repeat ((with_reducible exact HB.out))))); replace HO622 := Aside0.mk (Kd.R_elder' (by (with_reducible skip); exact HO622.out) (Kd.R_base ho0) hb); replace HO625 := Aside0.mk (Kd.R_elder' (by (with_reducible skip); exact HO625.out) (Kd.R_base ho0) hb); replace HO639 := Aside0.mk (Kd.R_elder' (by (with_reducible skip); exact HO639.out) (Kd.R_base ho0) hb); replace BK607 := Z.bb BK607 hb; replace BK633 := Z.bb BK633 hb; replace HB := Aside0.mk (below_step (by repeat ((with_reducible exact HB.out))) hb); (try clear hb); (try clear ho0); obtain ⟨Ao47, co47, eo47⟩ := Kd.R_slice HO642.out; subst eo47; obtain ⟨Ao48, co48, eo48⟩ := Kd.R_slice HO625.out; subst eo48) | ((with_reducible refine gate_callee (f := 26) rfl ?_); refine goesL_ (some 49) rfl rfl Try.func26 (by kernel_rfl) rfl #[.slice Ao47 t640.length co47, .slice Ao48 t623.length co48] rfl Z.ar ?_; (with_reducible refine (laws_eqActS.calls kj12 _ _ t640 _ _ t623 t643 _ ?q1 ?q2 ?q3 ?q4 A23.out).mono ?_); (case q1 => repeat (exact (Kd.R_reads' HO642.out).2.2)); (case q2 => exact (Kd.R_reads' HO642.out).2.1); (case q3 => repeat (exact (Kd.R_reads' HO625.out).2.2)); (case q4 => exact (Kd.R_reads' HO625.out).2.1); rintro e w49 ⟨rfl, hb⟩; refine ⟨_, rfl, ?_⟩; replace HO613 := Aside0.mk (Kd.R_below (by (with_reducible skip); exact HO613.out) hb); replace HO616 := Aside0.mk (Kd.R_below (by (with_reducible skip); exact HO616.out) hb); replace HO619 := Aside0.mk (Kd.R_below (by (with_reducible skip); exact HO619.out) hb); replace HO622 := Aside0.mk (Kd.R_below (by (with_reducible skip); exact HO622.out) hb); replace HO625 := Aside0.mk (Kd.R_below (by (with_reducible skip); exact HO625.out) hb); replace HO629 := Aside0.mk (Kd.R_below (by (with_reducible skip); exact HO629.out) hb); replace HO632 := Aside0.mk (Kd.R_below (by (with_reducible skip); exact HO632.out) hb); replace HO636 := Aside0.mk (Kd.R_below (by (with_reducible skip); exact HO636.out) hb); replace HO639 := Aside0.mk (Kd.R_below (by (with_reducible skip); exact HO639.out) hb); replace HO642 := Aside0.mk (Kd.R_below (by (with_reducible skip); exact HO642.out) hb); replace BK607 := Z.bb BK607 hb; replace BK633 := Z.bb BK633 hb; replace HB := Aside0.mk (below_step (by repeat ((with_reducible exact HB.out))) hb); (try clear hb)))
       go_cut [] (fun wc => ∃ (kq : Nat), Aside0 (laws_FnExactValidActs.j3 kq l1 l2 t623 t634 t637 t640 a0_0 l0_1 l0_2 t626 t627 t630 = some r) ∧ Aside0 (kq ≤ kj12) ∧ Aside0 (Kd.R k53 53 wc w.heap.size (fun k_ => some k_ ≠ ((.slice Ao45 t637.length co45) : Value).ownBlock ∧ some k_ ≠ ((.slice Ao47 t640.length co47) : Value).ownBlock) (.slice Ao48 t623.length co48) t623) ∧ Aside0 (Kd.R (Kd.int .i64) 3 wc w.heap.size (fun k_ => some k_ ≠ ((.slice Ao39 t627.length co39) : Value).ownBlock) (.slice Ao44 t634.length co44) t634) ∧ Aside0 (Kd.R k53 53 wc w.heap.size (fun k_ => some k_ ≠ ((.slice Ao48 t623.length co48) : Value).ownBlock ∧ some k_ ≠ ((.slice Ao47 t640.length co47) : Value).ownBlock) (.slice Ao45 t637.length co45) t637) ∧ Aside0 (Kd.R k53 53 wc w.heap.size (fun k_ => some k_ ≠ ((.slice Ao48 t623.length co48) : Value).ownBlock ∧ some k_ ≠ ((.slice Ao45 t637.length co45) : Value).ownBlock) (.slice Ao47 t640.length co47) t640) ∧ Aside0 (Kd.R (Kd.int .i64) 3 wc w.heap.size (fun k_ => some k_ ≠ ((.slice Ao44 t634.length co44) : Value).ownBlock) (.slice Ao39 t627.length co39) t627) ∧ Aside0 (Kd.R (Kd.slice 86 k86) 83 wc w.heap.size (fun _ => True) (.slice Ao40 t630.length co40) t630) ∧ Aside0 (wc.heap[gb607]? = some (.cells #[.int .i64 a0_0, (.slice A0_1 l0_1.length c0_1), (.slice A0_2 l0_2.length c0_2)] 27 (0, 0))) ∧ Aside0 (wc.heap[gb633]? = some (.cells #[.int .i64 t626, (.slice Ao39 t627.length co39), (.slice Ao40 t630.length co40)] 35 (0, 0))) ∧ Aside0 (Below w.heap.size w wc))
       case first =>
        have H := HC24.out
        clear HC24
        by_cases c50 : t643 = true
        ·subst c50
         rw [if_pos rfl] at H
         have H' := Aside0.mk H
         clear H
         go_wp2
         go_meet
         case rel => exact ⟨_, H', ⟨by have := HJ3.out; have := HJ7.out; have := HJ12.out; omega⟩, ⟨by (with_reducible skip); exact Kd.R_mono HO625.out (fun _ hk => ⟨hk.1.2, hk.2⟩)⟩, ⟨by (with_reducible skip); exact Kd.R_mono HO636.out (fun _ hk => hk.2)⟩, ⟨by (with_reducible skip); exact Kd.R_mono HO639.out (fun _ hk => ⟨hk.1.2, hk.2⟩)⟩, ⟨by (with_reducible skip); exact Kd.R_mono HO642.out (fun _ hk => ⟨hk.1.2, hk.2⟩)⟩, ⟨by (with_reducible skip); exact Kd.R_mono HO629.out (fun _ hk => hk.2)⟩, ⟨by (with_reducible skip); exact Kd.R_mono HO632.out (fun _ hk => trivial)⟩, ⟨by (with_reducible skip); exact BK607.out⟩, ⟨by (with_reducible skip); exact BK633.out⟩, ⟨by repeat ((with_reducible exact HB.out))⟩⟩
        ·replace c50 := Bool.eq_false_iff.mpr c50
         subst c50
         rw [if_neg (show ¬ (false = true) by decide)] at H
         obtain rfl := Option.some.inj H
         go_wp2
         go_ret
         exact ⟨by rfl, by repeat ((with_reducible exact HB.out))⟩
       case rest =>
        clear HC24
        obtain ⟨kq, HA, HJ23, HO_8, HO_10, HO_11, HO_12, HO_634001, HO_634002, BK607, BK633, HB⟩ := hcut
        cases kq with
        | zero => exact absurd HA.out (by simp [laws_FnExactValidActs.j3])
        | succ kj23 =>
         have H := HA.out
         clear HA
         simp only [laws_FnExactValidActs.j3] at H
         replace H := Option.bind_eq_some_iff.mp H
         obtain ⟨⟨t644, t645, t648⟩, A510, H⟩ := H
         try dsimp only at H
         have A51 := Aside0.mk A510
         clear A510
         replace H := Option.bind_eq_some_iff.mp H
         obtain ⟨t651, A520, H⟩ := H
         have A52 := Aside0.mk A520
         clear A520
         have HC53 := Aside0.mk H
         clear H
         try go_wp2
         replace HO_8 := Aside0.mk (Kd.R_drew HO_8.out)
         replace HO_10 := Aside0.mk (Kd.R_drew HO_10.out)
         replace HO_11 := Aside0.mk (Kd.R_drew HO_11.out)
         replace HO_12 := Aside0.mk (Kd.R_drew HO_12.out)
         replace HO_634001 := Aside0.mk (Kd.R_drew HO_634001.out)
         replace HO_634002 := Aside0.mk (Kd.R_drew HO_634002.out)
         replace BK607 := Aside0.mk (blk_drew BK607.out)
         replace BK633 := Aside0.mk (blk_drew BK633.out)
         replace HB := Aside0.mk (below_drew1 HB.out)
         refine start_ (n := 5) (S := fun w' => w'.cell? ⟨gb633, 0, none⟩ = some (.int .i64 t626) ∧ w'.cell? ⟨gb633, 1, none⟩ = some (.slice Ao39 t627.length co39) ∧ w'.cell? ⟨gb633, 2, none⟩ = some (.slice Ao40 t630.length co40) ∧ w'.cell? ⟨gb607, 0, none⟩ = some (.int .i64 a0_0) ∧ w'.cell? ⟨gb607, 1, none⟩ = some (.slice A0_1 l0_1.length c0_1) ∧ w'.cell? ⟨gb607, 2, none⟩ = some (.slice A0_2 l0_2.length c0_2)) (ds := []) #[false, false, false, false, false] (by kernel_rfl) rfl rfl ⟨(blk_cell BK633.out 0).trans rfl, (blk_cell BK633.out 1).trans rfl, (blk_cell BK633.out 2).trans rfl, (blk_cell BK607.out 0).trans rfl, (blk_cell BK607.out 1).trans rfl, (blk_cell BK607.out 2).trans rfl⟩ (fun hHeld => ?_)
         generalize wc.drew = w54 at HO_8 HO_10 HO_11 HO_12 HO_634001 HO_634002 BK607 BK633 HB hHeld ⊢
         refine take_ (i := 0) (N := some 51) (v := ?_) (a' := ?_) #[true, false, false, false, false] rfl rfl (by kernel_rfl) (fun _ _ _ h => h) (Or.inl ⟨by rfl, ?_⟩) hHeld ?_ ?_
         rotate_left
         ·rintro w' ⟨s0, s1, s2, s3, s4, s5⟩
          go_simp
          with_reducible rfl
         rotate_left
         ·simp only [Act.put, List.setIfInBounds_toArray, List.set_cons_zero, List.set_cons_succ, i64_w, i32_w]
          rfl
         refine take_ (i := 1) (N := some 52) (v := ?_) (a' := ?_) #[true, true, false, false, false] rfl rfl (by kernel_rfl) (fun _ _ _ h => h) (Or.inl ⟨by rfl, ?_⟩) hHeld ?_ ?_
         rotate_left
         ·rintro w' ⟨s0, s1, s2, s3, s4, s5⟩
          go_simp
          with_reducible rfl
         rotate_left
         ·simp only [Act.put, List.setIfInBounds_toArray, List.set_cons_zero, List.set_cons_succ, i64_w, i32_w]
          rfl
         refine one_ (i := 2) (N := some 53) (Z.mb 5 7) rfl rfl (by kernel_rfl) (by decide) (fun K hK => ?_)
         refine goes_ Try.func20 (by kernel_rfl) rfl #[.agg #[.int .i64 a0_0, .slice A0_1 l0_1.length c0_1, .slice A0_2 l0_2.length c0_2]] (by rfl) rfl rfl Z.ar ?_
         with_reducible refine (laws_toCharter.calls kj23 a0_0 _ _ l0_1 _ _ l0_2 t644 t645 t648 _ ?q1 ?q2 ?q3 ?q4 A51.out).mono ?_
         (case q1 => exact Z.cc HR0_1 HB)
         (case q2 => exact HC0_1.out)
         (case q3 => exact Z.cc HR0_2 HB)
         (case q4 => exact HC0_2.out)
         rintro e w55 ⟨v646, v649, rfl, ho0, ho1, hb⟩
         refine ⟨_, rfl, ?_⟩
         replace HO_8 := Aside0.mk (Kd.R_below (by (with_reducible skip); exact HO_8.out) hb)
         replace HO_11 := Aside0.mk (Kd.R_below (by (with_reducible skip); exact HO_11.out) hb)
         replace HO_12 := Aside0.mk (Kd.R_below (by (with_reducible skip); exact HO_12.out) hb)
         have HO647 := Aside0.mk (Kd.R_lower (Kd.R_new' (Kd.R_new' ho0 (Kd.R_lt (by (with_reducible skip); exact HO_10.out))) (Kd.R_lt (by (with_reducible skip); exact HO_634001.out))) (below_size (by repeat ((with_reducible exact HB.out)))))
         replace HO_10 := Aside0.mk (Kd.R_elder' (by (with_reducible skip); exact HO_10.out) (Kd.R_base ho0) hb)
         replace HO_634001 := Aside0.mk (Kd.R_elder' (by (with_reducible skip); exact HO_634001.out) (Kd.R_base ho0) hb)
         have HO650 := Aside0.mk (Kd.R_lower (Kd.R_new' ho1 (Kd.R_lt (by (with_reducible skip); exact HO_634002.out))) (below_size (by repeat ((with_reducible exact HB.out)))))
         replace HO_634002 := Aside0.mk (Kd.R_elder' (by (with_reducible skip); exact HO_634002.out) (Kd.R_base ho1) hb)
         replace BK607 := Z.bb BK607 hb
         replace BK633 := Z.bb BK633 hb
         replace HB := Aside0.mk (below_step (by repeat ((with_reducible exact HB.out))) hb)
         (try clear hb)
         (try clear ho0)
         (try clear ho1)
         obtain ⟨Ao56, co56, eo56⟩ := Kd.R_slice HO647.out
         (subst eo56)
         obtain ⟨Ao57, co57, eo57⟩ := Kd.R_slice HO650.out
         (subst eo57)
         refine hK.out _ _ ⟨(blk_cell BK633.out 0).trans rfl, (blk_cell BK633.out 1).trans rfl, (blk_cell BK633.out 2).trans rfl, (blk_cell BK607.out 0).trans rfl, (blk_cell BK607.out 1).trans rfl, (blk_cell BK607.out 2).trans rfl⟩ (fun hHeld => ?_)
         clear hK K
         refine Z.nm ?_
         refine one_ (i := 3) (N := some 54) (Z.mb 5 15) rfl rfl (by kernel_rfl) (by decide) (fun K hK => ?_)
         refine goes_ Try.func24 (by kernel_rfl) rfl #[.agg #[.int .i64 t626, .slice Ao39 t627.length co39, .slice Ao40 t630.length co40], .agg #[.int .i64 t644, .slice Ao56 t645.length co56, .slice Ao57 t648.length co57]] (by rfl) rfl rfl Z.ar ?_
         with_reducible refine (laws_eqCharter.calls kj23 t626 _ _ t627 _ _ t630 t644 _ _ t645 _ _ t648 t651 _ ?q1 ?q2 ?q3 ?q4 ?q5 ?q6 ?q7 ?q8 A52.out).mono ?_
         (case q1 => repeat (exact (Kd.R_reads' HO_634001.out).2.2))
         (case q2 => exact (Kd.R_reads' HO_634001.out).2.1)
         (case q3 => repeat (exact (Kd.R_reads' HO_634002.out).2.2))
         (case q4 => exact (Kd.R_reads' HO_634002.out).2.1)
         (case q5 => repeat (exact (Kd.R_reads' HO647.out).2.2))
         (case q6 => exact (Kd.R_reads' HO647.out).2.1)
         (case q7 => repeat (exact (Kd.R_reads' HO650.out).2.2))
         (case q8 => exact (Kd.R_reads' HO650.out).2.1)
         rintro e w58 ⟨rfl, hb⟩
         refine ⟨_, rfl, ?_⟩
         replace HO_8 := Aside0.mk (Kd.R_below (by (with_reducible skip); exact HO_8.out) hb)
         replace HO_10 := Aside0.mk (Kd.R_below (by (with_reducible skip); exact HO_10.out) hb)
         replace HO_11 := Aside0.mk (Kd.R_below (by (with_reducible skip); exact HO_11.out) hb)
         replace HO_12 := Aside0.mk (Kd.R_below (by (with_reducible skip); exact HO_12.out) hb)
         replace HO_634001 := Aside0.mk (Kd.R_below (by (with_reducible skip); exact HO_634001.out) hb)
         replace HO_634002 := Aside0.mk (Kd.R_below (by (with_reducible skip); exact HO_634002.out) hb)
         replace HO647 := Aside0.mk (Kd.R_below (by (with_reducible skip); exact HO647.out) hb)
         replace HO650 := Aside0.mk (Kd.R_below (by (with_reducible skip); exact HO650.out) hb)
         replace BK607 := Z.bb BK607 hb
         replace BK633 := Z.bb BK633 hb
         replace HB := Aside0.mk (below_step (by repeat ((with_reducible exact HB.out))) hb)
         (try clear hb)
         refine hK.out _ _ ⟨(blk_cell BK633.out 0).trans rfl, (blk_cell BK633.out 1).trans rfl, (blk_cell BK633.out 2).trans rfl, (blk_cell BK607.out 0).trans rfl, (blk_cell BK607.out 1).trans rfl, (blk_cell BK607.out 2).trans rfl⟩ (fun hHeld => ?_)
         clear hK K
         refine Z.nm ?_
         refine pure_ (i := 4) (N := some 55) (v := ?_) (a' := ?_) #[true, true, true, true, true] rfl rfl (by kernel_rfl) (fun _ _ _ h => h) (Or.inl ⟨by rfl, ?_⟩) ?_ ?_
         rotate_left
         ·intro w'
          go_simp
          with_reducible rfl
         rotate_left
         ·simp only [Act.put, List.setIfInBounds_toArray, List.set_cons_zero, List.set_cons_succ, i64_w, i32_w]
          rfl
         refine done_ (by kernel_rfl) ?_
         go_upto_if 55 with (fail)
         go_cut [] (fun wc => ∃ (kq : Nat), Aside0 (laws_FnExactValidActs.j4 kq l1 l2 t623 t634 t637 t640 a0_0 l0_1 l0_2 t626 t627 t630 = some r) ∧ Aside0 (kq ≤ kj23) ∧ Aside0 (Kd.R k53 53 wc w.heap.size (fun k_ => some k_ ≠ ((.slice Ao45 t637.length co45) : Value).ownBlock ∧ some k_ ≠ ((.slice Ao47 t640.length co47) : Value).ownBlock) (.slice Ao48 t623.length co48) t623) ∧ Aside0 (Kd.R (Kd.int .i64) 3 wc w.heap.size (fun k_ => some k_ ≠ ((.slice Ao39 t627.length co39) : Value).ownBlock) (.slice Ao44 t634.length co44) t634) ∧ Aside0 (Kd.R k53 53 wc w.heap.size (fun k_ => some k_ ≠ ((.slice Ao48 t623.length co48) : Value).ownBlock ∧ some k_ ≠ ((.slice Ao47 t640.length co47) : Value).ownBlock) (.slice Ao45 t637.length co45) t637) ∧ Aside0 (Kd.R k53 53 wc w.heap.size (fun k_ => some k_ ≠ ((.slice Ao48 t623.length co48) : Value).ownBlock ∧ some k_ ≠ ((.slice Ao45 t637.length co45) : Value).ownBlock) (.slice Ao47 t640.length co47) t640) ∧ Aside0 (Kd.R (Kd.int .i64) 3 wc w.heap.size (fun k_ => some k_ ≠ ((.slice Ao44 t634.length co44) : Value).ownBlock) (.slice Ao39 t627.length co39) t627) ∧ Aside0 (Kd.R (Kd.slice 86 k86) 83 wc w.heap.size (fun _ => True) (.slice Ao40 t630.length co40) t630) ∧ Aside0 (wc.heap[gb607]? = some (.cells #[.int .i64 a0_0, (.slice A0_1 l0_1.length c0_1), (.slice A0_2 l0_2.length c0_2)] 27 (0, 0))) ∧ Aside0 (wc.heap[gb633]? = some (.cells #[.int .i64 t626, (.slice Ao39 t627.length co39), (.slice Ao40 t630.length co40)] 35 (0, 0))) ∧ Aside0 (Below w.heap.size w wc))
         case first =>
          have H := HC53.out
          clear HC53
          by_cases c59 : t651 = true
          ·subst c59
           rw [if_pos rfl] at H
           have H' := Aside0.mk H
           clear H
           go_wp2
           go_meet
           case rel => exact ⟨_, H', ⟨by have := HJ3.out; have := HJ7.out; have := HJ12.out; have := HJ23.out; omega⟩, ⟨by (with_reducible skip); exact HO_8.out⟩, ⟨by (with_reducible skip); exact Kd.R_mono HO_10.out (fun _ hk => hk.1)⟩, ⟨by (with_reducible skip); exact HO_11.out⟩, ⟨by (with_reducible skip); exact HO_12.out⟩, ⟨by (with_reducible skip); exact Kd.R_mono HO_634001.out (fun _ hk => hk.1)⟩, ⟨by (with_reducible skip); exact Kd.R_mono HO_634002.out (fun _ hk => trivial)⟩, ⟨by (with_reducible skip); exact BK607.out⟩, ⟨by (with_reducible skip); exact BK633.out⟩, ⟨by repeat ((with_reducible exact HB.out))⟩⟩
          ·replace c59 := Bool.eq_false_iff.mpr c59
           subst c59
           rw [if_neg (show ¬ (false = true) by decide)] at H
           obtain rfl := Option.some.inj H
           go_wp2
           go_ret
           exact ⟨by rfl, by repeat ((with_reducible exact HB.out))⟩
         case rest =>
          clear HC53
          obtain ⟨kq, HA, HJ52, HO_8, HO_10, HO_11, HO_12, HO_634001, HO_634002, BK607, BK633, HB⟩ := hcut
          cases kq with
          | zero => exact absurd HA.out (by simp [laws_FnExactValidActs.j4])
          | succ kj52 =>
           have H := HA.out
           clear HA
           simp only [laws_FnExactValidActs.j4] at H
           replace H := Option.bind_eq_some_iff.mp H
           obtain ⟨t652, A600, H⟩ := H
           have A60 := Aside0.mk A600
           clear A600
           replace H := Option.bind_eq_some_iff.mp H
           obtain ⟨t655, A610, H⟩ := H
           have A61 := Aside0.mk A610
           clear A610
           have HC62 := Aside0.mk H
           clear H
           go_upto_if 60 with (first | ((with_reducible refine gate_callee (f := 21) rfl ?_); refine goesL_ (some 58) rfl rfl Try.func21 (by kernel_rfl) rfl #[.slice A1 l1.length c1] rfl Z.ar ?_; (with_reducible refine (laws_toIntS.calls kj52 _ _ l1 t652 _ ?q1 ?q2 A60.out).mono ?_); (case q1 => exact Z.cc HR1 HB); (case q2 => exact HC1.out); rintro e w63 ⟨v653, rfl, ho0, hb⟩; refine ⟨_, rfl, ?_⟩; replace HO_8 := Aside0.mk (Kd.R_below (by (with_reducible skip); exact HO_8.out) hb); replace HO_11 := Aside0.mk (Kd.R_below (by (with_reducible skip); exact HO_11.out) hb); replace HO_12 := Aside0.mk (Kd.R_below (by (with_reducible skip); exact HO_12.out) hb); replace HO_634002 := Aside0.mk (Kd.R_below (by (with_reducible skip); exact HO_634002.out) hb); have HO654 := Aside0.mk (Kd.R_lower (Kd.R_new' (Kd.R_new' ho0 (Kd.R_lt (by (with_reducible skip); exact HO_10.out))) (Kd.R_lt (by (with_reducible skip); exact HO_634001.out))) (below_size (by repeat ((with_reducible exact HB.out))))); replace HO_10 := Aside0.mk (Kd.R_elder' (by (with_reducible skip); exact HO_10.out) (Kd.R_base ho0) hb); replace HO_634001 := Aside0.mk (Kd.R_elder' (by (with_reducible skip); exact HO_634001.out) (Kd.R_base ho0) hb); replace BK607 := Z.bb BK607 hb; replace BK633 := Z.bb BK633 hb; replace HB := Aside0.mk (below_step (by repeat ((with_reducible exact HB.out))) hb); (try clear hb); (try clear ho0); obtain ⟨Ao64, co64, eo64⟩ := Kd.R_slice HO654.out; subst eo64) | ((with_reducible refine gate_callee (f := 25) rfl ?_); refine goesL_ (some 59) rfl rfl Try.func25 (by kernel_rfl) rfl #[.slice Ao44 t634.length co44, .slice Ao64 t652.length co64] rfl Z.ar ?_; (with_reducible refine (laws_eqIntS.calls kj52 _ _ t634 _ _ t652 t655 _ ?q1 ?q2 ?q3 ?q4 A61.out).mono ?_); (case q1 => repeat (exact (Kd.R_reads' HO_10.out).2.2)); (case q2 => exact (Kd.R_reads' HO_10.out).2.1); (case q3 => repeat (exact (Kd.R_reads' HO654.out).2.2)); (case q4 => exact (Kd.R_reads' HO654.out).2.1); rintro e w' ⟨rfl, ⟨nd, rfl⟩⟩; refine ⟨_, rfl, ?_⟩))
           go_cut [] (fun wc => ∃ (kq : Nat), Aside0 (laws_FnExactValidActs.j5 kq l1 l2 t623 t634 t637 t640 a0_0 l0_1 l0_2 t626 t627 t630 = some r) ∧ Aside0 (kq ≤ kj52) ∧ Aside0 (Kd.R k53 53 wc w.heap.size (fun k_ => some k_ ≠ ((.slice Ao45 t637.length co45) : Value).ownBlock ∧ some k_ ≠ ((.slice Ao47 t640.length co47) : Value).ownBlock) (.slice Ao48 t623.length co48) t623) ∧ Aside0 (Kd.R (Kd.int .i64) 3 wc w.heap.size (fun k_ => some k_ ≠ ((.slice Ao39 t627.length co39) : Value).ownBlock) (.slice Ao44 t634.length co44) t634) ∧ Aside0 (Kd.R k53 53 wc w.heap.size (fun k_ => some k_ ≠ ((.slice Ao48 t623.length co48) : Value).ownBlock ∧ some k_ ≠ ((.slice Ao47 t640.length co47) : Value).ownBlock) (.slice Ao45 t637.length co45) t637) ∧ Aside0 (Kd.R k53 53 wc w.heap.size (fun k_ => some k_ ≠ ((.slice Ao48 t623.length co48) : Value).ownBlock ∧ some k_ ≠ ((.slice Ao45 t637.length co45) : Value).ownBlock) (.slice Ao47 t640.length co47) t640) ∧ Aside0 (Kd.R (Kd.int .i64) 3 wc w.heap.size (fun k_ => some k_ ≠ ((.slice Ao44 t634.length co44) : Value).ownBlock) (.slice Ao39 t627.length co39) t627) ∧ Aside0 (Kd.R (Kd.slice 86 k86) 83 wc w.heap.size (fun _ => True) (.slice Ao40 t630.length co40) t630) ∧ Aside0 (wc.heap[gb607]? = some (.cells #[.int .i64 a0_0, (.slice A0_1 l0_1.length c0_1), (.slice A0_2 l0_2.length c0_2)] 27 (0, 0))) ∧ Aside0 (wc.heap[gb633]? = some (.cells #[.int .i64 t626, (.slice Ao39 t627.length co39), (.slice Ao40 t630.length co40)] 35 (0, 0))) ∧ Aside0 (Below w.heap.size w wc))
           case first =>
            have H := HC62.out
            clear HC62
            by_cases c65 : t655 = true
            ·subst c65
             rw [if_pos rfl] at H
             have H' := Aside0.mk H
             clear H
             go_wp2
             go_meet
             case rel => exact ⟨_, H', ⟨by have := HJ3.out; have := HJ7.out; have := HJ12.out; have := HJ23.out; have := HJ52.out; omega⟩, ⟨by (with_reducible repeat (apply Kd.R_drewN)); exact HO_8.out⟩, ⟨by (with_reducible repeat (apply Kd.R_drewN)); exact Kd.R_mono HO_10.out (fun _ hk => hk.1)⟩, ⟨by (with_reducible repeat (apply Kd.R_drewN)); exact HO_11.out⟩, ⟨by (with_reducible repeat (apply Kd.R_drewN)); exact HO_12.out⟩, ⟨by (with_reducible repeat (apply Kd.R_drewN)); exact Kd.R_mono HO_634001.out (fun _ hk => hk.1)⟩, ⟨by (with_reducible repeat (apply Kd.R_drewN)); exact HO_634002.out⟩, ⟨by (with_reducible repeat (refine blk_drewN ?_ _)); exact BK607.out⟩, ⟨by (with_reducible repeat (refine blk_drewN ?_ _)); exact BK633.out⟩, ⟨by repeat ((with_reducible first | exact HB.out | apply pw_below_drewN))⟩⟩
            ·replace c65 := Bool.eq_false_iff.mpr c65
             subst c65
             rw [if_neg (show ¬ (false = true) by decide)] at H
             obtain rfl := Option.some.inj H
             go_wp2
             go_ret
             exact ⟨by rfl, by repeat ((with_reducible first | exact HB.out | apply pw_below_drewN))⟩
           case rest =>
            clear HC62
            obtain ⟨kq, HA, HJ61, HO_8, HO_10, HO_11, HO_12, HO_634001, HO_634002, BK607, BK633, HB⟩ := hcut
            cases kq with
            | zero => exact absurd HA.out (by simp [laws_FnExactValidActs.j5])
            | succ kj61 =>
             have H := HA.out
             clear HA
             simp only [laws_FnExactValidActs.j5] at H
             replace H := Option.bind_eq_some_iff.mp H
             obtain ⟨t656, A660, H⟩ := H
             have A66 := Aside0.mk A660
             clear A660
             replace H := Option.bind_eq_some_iff.mp H
             obtain ⟨t659, A670, H⟩ := H
             have A67 := Aside0.mk A670
             clear A670
             have HC68 := Aside0.mk H
             clear H
             go_upto_if 65 with (first | ((with_reducible refine gate_callee (f := 22) rfl ?_); refine goesL_ (some 63) rfl rfl Try.func22 (by kernel_rfl) rfl #[.slice A2 l2.length c2] rfl Z.ar ?_; (with_reducible refine (laws_toActS.calls kj61 _ _ l2 t656 _ ?q1 ?q2 A66.out).mono ?_); (case q1 => exact Z.cc HR2 HB); (case q2 => exact HC2.out); rintro e w69 ⟨v657, rfl, ho0, hb⟩; refine ⟨_, rfl, ?_⟩; replace HO_10 := Aside0.mk (Kd.R_below (by (with_reducible skip); exact HO_10.out) hb); replace HO_634001 := Aside0.mk (Kd.R_below (by (with_reducible skip); exact HO_634001.out) hb); replace HO_634002 := Aside0.mk (Kd.R_below (by (with_reducible skip); exact HO_634002.out) hb); have HO658 := Aside0.mk (Kd.R_lower (Kd.R_new' (Kd.R_new' (Kd.R_new' ho0 (Kd.R_lt (by (with_reducible skip); exact HO_8.out))) (Kd.R_lt (by (with_reducible skip); exact HO_11.out))) (Kd.R_lt (by (with_reducible skip); exact HO_12.out))) (below_size (by repeat ((with_reducible exact HB.out))))); replace HO_8 := Aside0.mk (Kd.R_elder' (by (with_reducible skip); exact HO_8.out) (Kd.R_base ho0) hb); replace HO_11 := Aside0.mk (Kd.R_elder' (by (with_reducible skip); exact HO_11.out) (Kd.R_base ho0) hb); replace HO_12 := Aside0.mk (Kd.R_elder' (by (with_reducible skip); exact HO_12.out) (Kd.R_base ho0) hb); replace BK607 := Z.bb BK607 hb; replace BK633 := Z.bb BK633 hb; replace HB := Aside0.mk (below_step (by repeat ((with_reducible exact HB.out))) hb); (try clear hb); (try clear ho0); obtain ⟨Ao70, co70, eo70⟩ := Kd.R_slice HO658.out; subst eo70) | ((with_reducible refine gate_callee (f := 26) rfl ?_); refine goesL_ (some 64) rfl rfl Try.func26 (by kernel_rfl) rfl #[.slice Ao45 t637.length co45, .slice Ao70 t656.length co70] rfl Z.ar ?_; (with_reducible refine (laws_eqActS.calls kj61 _ _ t637 _ _ t656 t659 _ ?q1 ?q2 ?q3 ?q4 A67.out).mono ?_); (case q1 => repeat (exact (Kd.R_reads' HO_11.out).2.2)); (case q2 => exact (Kd.R_reads' HO_11.out).2.1); (case q3 => repeat (exact (Kd.R_reads' HO658.out).2.2)); (case q4 => exact (Kd.R_reads' HO658.out).2.1); rintro e w71 ⟨rfl, hb⟩; refine ⟨_, rfl, ?_⟩; replace HO_8 := Aside0.mk (Kd.R_below (by (with_reducible skip); exact HO_8.out) hb); replace HO_10 := Aside0.mk (Kd.R_below (by (with_reducible skip); exact HO_10.out) hb); replace HO_11 := Aside0.mk (Kd.R_below (by (with_reducible skip); exact HO_11.out) hb); replace HO_12 := Aside0.mk (Kd.R_below (by (with_reducible skip); exact HO_12.out) hb); replace HO_634001 := Aside0.mk (Kd.R_below (by (with_reducible skip); exact HO_634001.out) hb); replace HO_634002 := Aside0.mk (Kd.R_below (by (with_reducible skip); exact HO_634002.out) hb); replace HO658 := Aside0.mk (Kd.R_below (by (with_reducible skip); exact HO658.out) hb); replace BK607 := Z.bb BK607 hb; replace BK633 := Z.bb BK633 hb; replace HB := Aside0.mk (below_step (by repeat ((with_reducible exact HB.out))) hb); (try clear hb)))
             go_cut [] (fun wc => ∃ (kq : Nat), Aside0 (laws_FnExactValidActs.j6 kq l1 l2 t623 t634 t637 t640 a0_0 l0_1 l0_2 t626 t627 t630 = some r) ∧ Aside0 (kq ≤ kj61) ∧ Aside0 (Kd.R k53 53 wc w.heap.size (fun k_ => some k_ ≠ ((.slice Ao45 t637.length co45) : Value).ownBlock ∧ some k_ ≠ ((.slice Ao47 t640.length co47) : Value).ownBlock) (.slice Ao48 t623.length co48) t623) ∧ Aside0 (Kd.R (Kd.int .i64) 3 wc w.heap.size (fun k_ => some k_ ≠ ((.slice Ao39 t627.length co39) : Value).ownBlock) (.slice Ao44 t634.length co44) t634) ∧ Aside0 (Kd.R k53 53 wc w.heap.size (fun k_ => some k_ ≠ ((.slice Ao48 t623.length co48) : Value).ownBlock ∧ some k_ ≠ ((.slice Ao47 t640.length co47) : Value).ownBlock) (.slice Ao45 t637.length co45) t637) ∧ Aside0 (Kd.R k53 53 wc w.heap.size (fun k_ => some k_ ≠ ((.slice Ao48 t623.length co48) : Value).ownBlock ∧ some k_ ≠ ((.slice Ao45 t637.length co45) : Value).ownBlock) (.slice Ao47 t640.length co47) t640) ∧ Aside0 (Kd.R (Kd.int .i64) 3 wc w.heap.size (fun k_ => some k_ ≠ ((.slice Ao44 t634.length co44) : Value).ownBlock) (.slice Ao39 t627.length co39) t627) ∧ Aside0 (Kd.R (Kd.slice 86 k86) 83 wc w.heap.size (fun _ => True) (.slice Ao40 t630.length co40) t630) ∧ Aside0 (wc.heap[gb607]? = some (.cells #[.int .i64 a0_0, (.slice A0_1 l0_1.length c0_1), (.slice A0_2 l0_2.length c0_2)] 27 (0, 0))) ∧ Aside0 (wc.heap[gb633]? = some (.cells #[.int .i64 t626, (.slice Ao39 t627.length co39), (.slice Ao40 t630.length co40)] 35 (0, 0))) ∧ Aside0 (Below w.heap.size w wc))
             case first =>
              have H := HC68.out
              clear HC68
              by_cases c72 : t659 = true
              ·subst c72
               rw [if_pos rfl] at H
               have H' := Aside0.mk H
               clear H
               go_wp2
               go_meet
               case rel => exact ⟨_, H', ⟨by have := HJ3.out; have := HJ7.out; have := HJ12.out; have := HJ23.out; have := HJ52.out; have := HJ61.out; omega⟩, ⟨by (with_reducible skip); exact Kd.R_mono HO_8.out (fun _ hk => ⟨hk.1.1, hk.1.2⟩)⟩, ⟨by (with_reducible skip); exact HO_10.out⟩, ⟨by (with_reducible skip); exact Kd.R_mono HO_11.out (fun _ hk => ⟨hk.1.1, hk.1.2⟩)⟩, ⟨by (with_reducible skip); exact Kd.R_mono HO_12.out (fun _ hk => ⟨hk.1.1, hk.1.2⟩)⟩, ⟨by (with_reducible skip); exact HO_634001.out⟩, ⟨by (with_reducible skip); exact HO_634002.out⟩, ⟨by (with_reducible skip); exact BK607.out⟩, ⟨by (with_reducible skip); exact BK633.out⟩, ⟨by repeat ((with_reducible exact HB.out))⟩⟩
              ·replace c72 := Bool.eq_false_iff.mpr c72
               subst c72
               rw [if_neg (show ¬ (false = true) by decide)] at H
               obtain rfl := Option.some.inj H
               go_wp2
               go_ret
               exact ⟨by rfl, by repeat ((with_reducible exact HB.out))⟩
             case rest =>
              clear HC68
              obtain ⟨kq, HA, HJ67, HO_8, HO_10, HO_11, HO_12, HO_634001, HO_634002, BK607, BK633, HB⟩ := hcut
              cases kq with
              | zero => exact absurd HA.out (by simp [laws_FnExactValidActs.j6])
              | succ kj67 =>
               have H := HA.out
               clear HA
               simp only [laws_FnExactValidActs.j6] at H
               replace H := Option.bind_eq_some_iff.mp H
               obtain ⟨t660, A730, H⟩ := H
               have A73 := Aside0.mk A730
               clear A730
               replace H := Option.bind_eq_some_iff.mp H
               obtain ⟨⟨t661, t662⟩, A740, H⟩ := H
               try dsimp only at H
               have A74 := Aside0.mk A740
               clear A740
               replace H := Option.bind_eq_some_iff.mp H
               obtain ⟨⟨t663, t664⟩, A750, H⟩ := H
               try dsimp only at H
               have A75 := Aside0.mk A750
               clear A750
               have HC76 := Aside0.mk H
               clear H
               have hnb77 := NB633_607.out
               have hnc77 := NB607_633.out
               have hcz78 := Z.c3 BK633.out
               go_upto_region 27 with (first | ((with_reducible refine gate_callee (f := 29) rfl ?_); refine goesL_ (some 68) rfl rfl Try.func29 (by kernel_rfl) rfl #[.agg #[.int .i64 t626, .slice Ao39 t627.length co39, .slice Ao40 t630.length co40], .int .i64 1] rfl Z.ar ?_; (with_reducible refine (laws_markCharter.calls (b0 := w.heap.size) (ok1 := ?o1) (ok2 := ?o2) t626 _ _ t627 _ _ t630 1 t660 _ ?q1 ?q2 A73.out).mono ?_); (case q1 => exact HO_634001.out); (case q2 => exact HO_634002.out); rintro e w79 ⟨rfl, hk⟩; refine ⟨_, rfl, ?_⟩; replace HO_8 := Aside0.mk (Kd.R_mono (ok' := fun k_ => some k_ ≠ (.slice Ao45 t637.length co45 : Value).ownBlock ∧ some k_ ≠ (.slice Ao47 t640.length co47 : Value).ownBlock) (hk.row (HO_8.out) rfl (by decide)) (fun k_ hk_ => ⟨hk_.1, hk_.2⟩)); replace HO_10 := Aside0.mk (Kd.R_mono (ok' := fun k_ => True) (hk.ints (HO_10.out) (fun i_ hi_ => ((HO_10.out).1 i_ hi_))) (fun k_ hk_ => trivial)); replace HO_11 := Aside0.mk (Kd.R_mono (ok' := fun k_ => some k_ ≠ (.slice Ao48 t623.length co48 : Value).ownBlock ∧ some k_ ≠ (.slice Ao47 t640.length co47 : Value).ownBlock) (hk.row (HO_11.out) rfl (by decide)) (fun k_ hk_ => ⟨hk_.1, hk_.2⟩)); replace HO_12 := Aside0.mk (Kd.R_mono (ok' := fun k_ => some k_ ≠ (.slice Ao48 t623.length co48 : Value).ownBlock ∧ some k_ ≠ (.slice Ao45 t637.length co45 : Value).ownBlock) (hk.row (HO_12.out) rfl (by decide)) (fun k_ hk_ => ⟨hk_.1, hk_.2⟩)); replace BK607 := Aside0.mk (hk.far (Z.bk BK607.out) (by decide)); replace BK633 := Aside0.mk (hk.far (Z.bk BK633.out) (by decide)); replace HB := Aside0.mk (hk.below (by repeat ((with_reducible exact HB.out)))); clear HO_634001 HO_634002; (try clear hk)) | ((with_reducible refine gate_callee (f := 30) rfl ?_); refine goesL_ (some 71) rfl rfl Try.func30 (by kernel_rfl) rfl #[.slice Ao44 t634.length co44, .int .i64 t660] rfl Z.ar ?_; (with_reducible refine (laws_markIntS.calls kj67 (fun k_ => some k_ = (.slice Ao44 t634.length co44 : Value).ownBlock) (.slice Ao44 t634.length co44) t634 t660 t661 t662 w _ ?q1 ?q2 A74.out).mono ?_); (case q1 => repeat ((with_reducible exact HB.out))); (case q2 => exact Kd.R_tight rfl HO_10.out); rintro e w80 ⟨rfl, hy0, hb, hkp⟩; refine ⟨_, rfl, ?_⟩; replace HO_8 := Aside0.mk (Kd.R_mono (ok' := fun k_ => some k_ ≠ (.slice Ao45 t637.length co45 : Value).ownBlock ∧ some k_ ≠ (.slice Ao47 t640.length co47 : Value).ownBlock) (Kd.R_keptB ((Kd.R_apart' HO_8.out (Kd.R_typed HO_10.out) (by decide))) hkp (fun k_ hk_ hs_ => (hk_.2) hs_)) (fun k_ hk_ => ⟨hk_.1.1.1, hk_.1.1.2⟩)); replace HO_11 := Aside0.mk (Kd.R_mono (ok' := fun k_ => some k_ ≠ (.slice Ao48 t623.length co48 : Value).ownBlock ∧ some k_ ≠ (.slice Ao47 t640.length co47 : Value).ownBlock) (Kd.R_keptB ((Kd.R_apart' HO_11.out (Kd.R_typed HO_10.out) (by decide))) hkp (fun k_ hk_ hs_ => (hk_.2) hs_)) (fun k_ hk_ => ⟨hk_.1.1.1, hk_.1.1.2⟩)); replace HO_12 := Aside0.mk (Kd.R_mono (ok' := fun k_ => some k_ ≠ (.slice Ao48 t623.length co48 : Value).ownBlock ∧ some k_ ≠ (.slice Ao45 t637.length co45 : Value).ownBlock) (Kd.R_keptB ((Kd.R_apart' HO_12.out (Kd.R_typed HO_10.out) (by decide))) hkp (fun k_ hk_ hs_ => (hk_.2) hs_)) (fun k_ hk_ => ⟨hk_.1.1.1, hk_.1.1.2⟩)); replace BK607 := Aside0.mk (blk_kept (Z.bk BK607.out) hkp (fun hs_ => (fun e_ => (Kd.R_ne HO_10.out BK607.out (by decide)) e_) hs_)); replace BK633 := Aside0.mk (blk_kept (Z.bk BK633.out) hkp (fun hs_ => (fun e_ => (Kd.R_ne HO_10.out BK633.out (by decide)) e_) hs_)); replace HO_10 := Aside0.mk (Kd.R_reok rfl hy0 (fun k_ e_ => HO_10.out.1 k_ e_)); replace HB := Aside0.mk (hb); (try clear hb); (try clear hkp); (try clear hy0)) | ((with_reducible refine gate_callee (f := 31) rfl ?_); refine goesL_ (some 74) rfl rfl Try.func31 (by kernel_rfl) rfl #[.slice Ao45 t637.length co45, .int .i64 t661] rfl Z.ar ?_; (with_reducible refine (laws_markActS.calls kj67 (fun k_ => some k_ = (.slice Ao45 t637.length co45 : Value).ownBlock) (.slice Ao45 t637.length co45) t637 t661 t663 t664 w _ ?q1 ?q2 A75.out).mono ?_); (case q1 => repeat ((with_reducible exact HB.out))); (case q2 => exact Kd.R_tight rfl HO_11.out); rintro e w81 ⟨rfl, hy0, hb, hkp⟩; refine ⟨_, rfl, ?_⟩; replace HO_8 := Aside0.mk (Kd.R_mono (ok' := fun k_ => some k_ ≠ (.slice Ao45 t637.length co45 : Value).ownBlock ∧ some k_ ≠ (.slice Ao47 t640.length co47 : Value).ownBlock) (Kd.R_keptB (HO_8.out) hkp (fun k_ hk_ hs_ => (hk_.1) hs_)) (fun k_ hk_ => ⟨hk_.1.1, hk_.1.2⟩)); replace HO_10 := Aside0.mk (Kd.R_mono (ok' := fun k_ => True) (Kd.R_keptB ((Kd.R_apart' HO_10.out (Kd.R_typed HO_11.out) (by decide))) hkp (fun k_ hk_ hs_ => (hk_.2) hs_)) (fun k_ hk_ => trivial)); replace HO_12 := Aside0.mk (Kd.R_mono (ok' := fun k_ => some k_ ≠ (.slice Ao48 t623.length co48 : Value).ownBlock ∧ some k_ ≠ (.slice Ao45 t637.length co45 : Value).ownBlock) (Kd.R_keptB (HO_12.out) hkp (fun k_ hk_ hs_ => (hk_.2) hs_)) (fun k_ hk_ => ⟨hk_.1.1, hk_.1.2⟩)); replace BK607 := Aside0.mk (blk_kept (Z.bk BK607.out) hkp (fun hs_ => (fun e_ => (Kd.R_ne HO_11.out BK607.out (by decide)) e_) hs_)); replace BK633 := Aside0.mk (blk_kept (Z.bk BK633.out) hkp (fun hs_ => (fun e_ => (Kd.R_ne HO_11.out BK633.out (by decide)) e_) hs_)); replace HO_11 := Aside0.mk (Kd.R_reok rfl hy0 (fun k_ e_ => HO_11.out.1 k_ e_)); replace HB := Aside0.mk (hb); (try clear hb); (try clear hkp); (try clear hy0)))
               go_cut [82] (fun v82 wc => ∃ (kq : Nat) (x82_75 : Bool), v82 = .bool x82_75 ∧ Aside0 (laws_FnExactValidActs.j7 kq l1 l2 t623 t640 x82_75 a0_0 l0_1 l0_2 = some r) ∧ Aside0 (kq ≤ kj67) ∧ Aside0 (Kd.R k53 53 wc w.heap.size (fun k_ => some k_ ≠ ((.slice Ao47 t640.length co47) : Value).ownBlock) (.slice Ao48 t623.length co48) t623) ∧ Aside0 (Kd.R k53 53 wc w.heap.size (fun k_ => some k_ ≠ ((.slice Ao48 t623.length co48) : Value).ownBlock) (.slice Ao47 t640.length co47) t640) ∧ Aside0 (wc.heap[gb607]? = some (.cells #[.int .i64 a0_0, (.slice A0_1 l0_1.length c0_1), (.slice A0_2 l0_2.length c0_2)] 27 (0, 0))) ∧ Aside0 (Below w.heap.size w wc))
               case first =>
                have H := HC76.out
                clear HC76
                by_cases c82 : t663 < 0
                ·rw [if_pos c82] at H
                 have c82b0 := decide_eq_true c82
                 clear c82
                 have H' := Aside0.mk H
                 clear H
                 go_wp2
                 go_meet
                 case rel => exact ⟨_, (true), (by rfl), H', ⟨by have := HJ3.out; have := HJ7.out; have := HJ12.out; have := HJ23.out; have := HJ52.out; have := HJ61.out; have := HJ67.out; omega⟩, ⟨by (with_reducible skip); exact Kd.R_mono HO_8.out (fun _ hk => hk.2)⟩, ⟨by (with_reducible skip); exact Kd.R_mono HO_12.out (fun _ hk => hk.1)⟩, ⟨by (with_reducible skip); exact BK607.out⟩, ⟨by repeat ((with_reducible exact HB.out))⟩⟩
                ·rw [if_neg c82] at H
                 have c82b0 := decide_eq_false c82
                 clear c82
                 replace H := Option.bind_eq_some_iff.mp H
                 obtain ⟨t665, A830, H⟩ := H
                 have A83 := Aside0.mk A830
                 clear A830
                 have H' := Aside0.mk H
                 clear H
                 go_wp2_with ((go_at_call 26; (with_reducible refine (laws_eqActS.calls kj67 _ _ t640 _ _ t623 t665 _ ?q1 ?q2 ?q3 ?q4 A83.out).mono ?_); (case q1 => repeat (exact (Kd.R_reads' HO_12.out).2.2)); (case q2 => exact (Kd.R_reads' HO_12.out).2.1); (case q3 => repeat (exact (Kd.R_reads' HO_8.out).2.2)); (case q4 => exact (Kd.R_reads' HO_8.out).2.1); rintro e w84 ⟨rfl, hb⟩; replace HO_8 := Aside0.mk (Kd.R_below (by (with_reducible skip); exact HO_8.out) hb); replace HO_10 := Aside0.mk (Kd.R_below (by (with_reducible skip); exact HO_10.out) hb); replace HO_11 := Aside0.mk (Kd.R_below (by (with_reducible skip); exact HO_11.out) hb); replace HO_12 := Aside0.mk (Kd.R_below (by (with_reducible skip); exact HO_12.out) hb); replace BK607 := Z.bb BK607 hb; replace BK633 := Z.bb BK633 hb; replace HB := Aside0.mk (below_step (by repeat ((with_reducible exact HB.out))) hb); (try clear hb)))
                 go_meet
                 case rel => exact ⟨_, (!t665), (by rfl), H', ⟨by have := HJ3.out; have := HJ7.out; have := HJ12.out; have := HJ23.out; have := HJ52.out; have := HJ61.out; have := HJ67.out; omega⟩, ⟨by (with_reducible skip); exact Kd.R_mono HO_8.out (fun _ hk => hk.2)⟩, ⟨by (with_reducible skip); exact Kd.R_mono HO_12.out (fun _ hk => hk.1)⟩, ⟨by (with_reducible skip); exact BK607.out⟩, ⟨by repeat ((with_reducible exact HB.out))⟩⟩
               case rest =>
                clear HC76
                obtain ⟨kq, x82_75, rfl, HA, HJ75, HO_8, HO_12, BK607, HB⟩ := hcut
                cases kq with
                | zero => exact absurd HA.out (by simp [laws_FnExactValidActs.j7])
                | succ kj75 =>
                 have H := HA.out
                 clear HA
                 simp only [laws_FnExactValidActs.j7] at H
                 have HC85 := Aside0.mk H
                 clear H
                 go_upto_if 82 with (fail)
                 go_cut [] (fun wc => ∃ (kq : Nat), Aside0 (laws_FnExactValidActs.j8 kq l1 l2 t623 t640 a0_0 l0_1 l0_2 = some r) ∧ Aside0 (kq ≤ kj75) ∧ Aside0 (Kd.R k53 53 wc w.heap.size (fun k_ => some k_ ≠ ((.slice Ao47 t640.length co47) : Value).ownBlock) (.slice Ao48 t623.length co48) t623) ∧ Aside0 (Kd.R k53 53 wc w.heap.size (fun k_ => some k_ ≠ ((.slice Ao48 t623.length co48) : Value).ownBlock) (.slice Ao47 t640.length co47) t640) ∧ Aside0 (wc.heap[gb607]? = some (.cells #[.int .i64 a0_0, (.slice A0_1 l0_1.length c0_1), (.slice A0_2 l0_2.length c0_2)] 27 (0, 0))) ∧ Aside0 (Below w.heap.size w wc))
                 case first =>
                  have H := HC85.out
                  clear HC85
                  by_cases c86 : x82_75 = true
                  ·subst c86
                   rw [if_pos rfl] at H
                   obtain rfl := Option.some.inj H
                   go_wp2
                   go_ret
                   exact ⟨by rfl, Z.bs HB.out GE607.out⟩
                  ·replace c86 := Bool.eq_false_iff.mpr c86
                   subst c86
                   rw [if_neg (show ¬ (false = true) by decide)] at H
                   have H' := Aside0.mk H
                   clear H
                   go_wp2
                   go_meet
                   case rel => exact ⟨_, H', ⟨by have := HJ3.out; have := HJ7.out; have := HJ12.out; have := HJ23.out; have := HJ52.out; have := HJ61.out; have := HJ67.out; have := HJ75.out; omega⟩, ⟨by (with_reducible skip); exact HO_8.out⟩, ⟨by (with_reducible skip); exact HO_12.out⟩, ⟨by (with_reducible skip); exact BK607.out⟩, ⟨Z.bs HB.out GE607.out⟩⟩
                 case rest =>
                  clear HC85
                  obtain ⟨kq, HA, HJ84, HO_8, HO_12, BK607, HB⟩ := hcut
                  cases kq with
                  | zero => exact absurd HA.out (by simp [laws_FnExactValidActs.j8])
                  | succ kj84 =>
                   have H := HA.out
                   clear HA
                   simp only [laws_FnExactValidActs.j8] at H
                   replace H := Option.bind_eq_some_iff.mp H
                   obtain ⟨⟨t666, t667⟩, A870, H⟩ := H
                   try dsimp only at H
                   have A87 := Aside0.mk A870
                   clear A870
                   replace H := Option.bind_eq_some_iff.mp H
                   obtain ⟨t668, A880, H⟩ := H
                   have A88 := Aside0.mk A880
                   clear A880
                   have HC89 := Aside0.mk H
                   clear H
                   go_upto_if 90 with (first | ((with_reducible refine gate_callee (f := 31) rfl ?_); refine goesL_ (some 85) rfl rfl Try.func31 (by kernel_rfl) rfl #[.slice Ao47 t640.length co47, .int .i64 1] rfl Z.ar ?_; (with_reducible refine (laws_markActS.calls kj84 (fun k_ => some k_ = (.slice Ao47 t640.length co47 : Value).ownBlock) (.slice Ao47 t640.length co47) t640 1 t666 t667 w _ ?q1 ?q2 A87.out).mono ?_); (case q1 => repeat ((with_reducible exact HB.out))); (case q2 => exact Kd.R_tight rfl HO_12.out); rintro e w90 ⟨rfl, hy0, hb, hkp⟩; refine ⟨_, rfl, ?_⟩; replace HO_8 := Aside0.mk (Kd.R_mono (ok' := fun k_ => some k_ ≠ (.slice Ao47 t640.length co47 : Value).ownBlock) (Kd.R_keptB (HO_8.out) hkp (fun k_ hk_ hs_ => (hk_) hs_)) (fun k_ hk_ => hk_.1)); replace BK607 := Aside0.mk (blk_kept (Z.bk BK607.out) hkp (fun hs_ => (fun e_ => (Kd.R_ne HO_12.out BK607.out (by decide)) e_) hs_)); replace HO_12 := Aside0.mk (Kd.R_reok rfl hy0 (fun k_ e_ => HO_12.out.1 k_ e_)); replace HB := Aside0.mk (hb); (try clear hb); (try clear hkp); (try clear hy0)) | ((with_reducible refine gate_callee (f := 35) rfl ?_); refine goesL_ (some 88) rfl rfl Try.func35 (by kernel_rfl) rfl #[.slice Ao47 t667.length co47, .int .i64 1] rfl (by (try simp only [List.map_toArray, List.map_cons, List.map_nil]); (rw [show t667.length = t640.length from (Kd.R_reads' HO_12.out).1.symm] <;> rfl)) ?_; (with_reducible refine (laws_heldActS.calls kj84 _ _ t667 1 t668 _ ?q1 ?q2 A88.out).mono ?_); (case q1 => repeat (exact (Kd.R_reads' HO_12.out).2.2)); (case q2 => rw [show t667.length = t640.length from (Kd.R_reads' HO_12.out).1.symm]; exact (Kd.R_reads' HO_12.out).2.1); rintro e w' ⟨rfl, ⟨nd, rfl⟩⟩; refine ⟨_, rfl, ?_⟩))
                   go_cut [] (fun wc => ∃ (kq : Nat), Aside0 (laws_FnExactValidActs.j9 kq l1 l2 t623 t667 t666 t668 a0_0 l0_1 l0_2 = some r) ∧ Aside0 (kq ≤ kj84) ∧ Aside0 (Kd.R k53 53 wc w.heap.size (fun k_ => some k_ ≠ ((.slice Ao47 t640.length co47) : Value).ownBlock) (.slice Ao48 t623.length co48) t623) ∧ Aside0 (Kd.R k53 53 wc w.heap.size (fun k_ => some k_ ≠ ((.slice Ao48 t623.length co48) : Value).ownBlock) (.slice Ao47 t640.length co47) t667) ∧ Aside0 (wc.heap[gb607]? = some (.cells #[.int .i64 a0_0, (.slice A0_1 l0_1.length c0_1), (.slice A0_2 l0_2.length c0_2)] 27 (0, 0))) ∧ Aside0 (Below w.heap.size w wc))
                   case first =>
                    have H := HC89.out
                    clear HC89
                    by_cases c91 : t668 < 0
                    ·rw [if_pos c91] at H
                     have c91b0 := decide_eq_true c91
                     clear c91
                     (rw [c91b0])
                     obtain rfl := Option.some.inj H
                     go_wp2
                     go_ret
                     exact ⟨by rfl, Z.bs HB.out GE607.out⟩
                    ·rw [if_neg c91] at H
                     have c91b0 := decide_eq_false c91
                     clear c91
                     (rw [c91b0])
                     have H' := Aside0.mk H
                     clear H
                     go_wp2
                     go_meet
                     case rel => exact ⟨_, H', ⟨by have := HJ3.out; have := HJ7.out; have := HJ12.out; have := HJ23.out; have := HJ52.out; have := HJ61.out; have := HJ67.out; have := HJ75.out; have := HJ84.out; omega⟩, ⟨by (with_reducible repeat (apply Kd.R_drewN)); exact HO_8.out⟩, ⟨by (with_reducible repeat (apply Kd.R_drewN)); exact HO_12.out⟩, ⟨by (with_reducible repeat (refine blk_drewN ?_ _)); exact BK607.out⟩, ⟨Z.bs HB.out GE607.out⟩⟩
                   case rest =>
                    clear HC89
                    obtain ⟨kq, HA, HJ88, HO_8, HO_12, BK607, HB⟩ := hcut
                    have hl12_88 := (Kd.R_reads' HO_12.out).1
                    rw [hl12_88] at HO_12
                    (try simp only [hl12_88])
                    (try simp only [hl12_88] at HO_8)
                    cases kq with
                    | zero => exact absurd HA.out (by simp [laws_FnExactValidActs.j9])
                    | succ kj88 =>
                     have H := HA.out
                     clear HA
                     simp only [laws_FnExactValidActs.j9] at H
                     have HC92 := Aside0.mk H
                     clear H
                     go_upto_if 93 with (fail)
                     go_cut [] (fun wc => ∃ (kq : Nat), Aside0 (laws_FnExactValidActs.j10 kq l1 l2 t623 t667 t666 a0_0 l0_1 l0_2 = some r) ∧ Aside0 (kq ≤ kj88) ∧ Aside0 (Kd.R k53 53 wc w.heap.size (fun k_ => some k_ ≠ ((.slice Ao47 t667.length co47) : Value).ownBlock) (.slice Ao48 t623.length co48) t623) ∧ Aside0 (Kd.R k53 53 wc w.heap.size (fun k_ => some k_ ≠ ((.slice Ao48 t623.length co48) : Value).ownBlock) (.slice Ao47 t667.length co47) t667) ∧ Aside0 (wc.heap[gb607]? = some (.cells #[.int .i64 a0_0, (.slice A0_1 l0_1.length c0_1), (.slice A0_2 l0_2.length c0_2)] 27 (0, 0))) ∧ Aside0 (Below w.heap.size w wc))
                     case first =>
                      have H := HC92.out
                      clear HC92
                      by_cases c93 : t668 = t666
                      ·rw [if_pos c93] at H
                       have c93b0 : (t668 == t666) = true := beq_iff_eq.mpr c93
                       have c93b1 : (t668 != t666) = false := bne_eq_false_iff_eq.mpr c93
                       clear c93
                       have H' := Aside0.mk H
                       clear H
                       go_wp2
                       go_meet
                       case rel => exact ⟨_, H', ⟨by have := HJ3.out; have := HJ7.out; have := HJ12.out; have := HJ23.out; have := HJ52.out; have := HJ61.out; have := HJ67.out; have := HJ75.out; have := HJ84.out; have := HJ88.out; omega⟩, ⟨by (with_reducible skip); exact HO_8.out⟩, ⟨by (with_reducible skip); exact HO_12.out⟩, ⟨by (with_reducible skip); exact BK607.out⟩, ⟨Z.bs HB.out GE607.out⟩⟩
                      ·rw [if_neg c93] at H
                       have c93b0 : (t668 == t666) = false := beq_eq_false_iff_ne.mpr c93
                       have c93b1 : (t668 != t666) = true := bne_iff_ne.mpr c93
                       obtain rfl := Option.some.inj H
                       go_wp2
                       go_ret
                       exact ⟨by rfl, Z.bs HB.out GE607.out⟩
                     case rest =>
                      clear HC92
                      obtain ⟨kq, HA, HJ91, HO_8, HO_12, BK607, HB⟩ := hcut
                      cases kq with
                      | zero => exact absurd HA.out (by simp [laws_FnExactValidActs.j10])
                      | succ kj91 =>
                       have H := HA.out
                       clear HA
                       simp only [laws_FnExactValidActs.j10] at H
                       replace H := Option.bind_eq_some_iff.mp H
                       obtain ⟨⟨t669, t670, t673⟩, A940, H⟩ := H
                       try dsimp only at H
                       have A94 := Aside0.mk A940
                       clear A940
                       replace H := Option.bind_eq_some_iff.mp H
                       obtain ⟨t676, A950, H⟩ := H
                       have A95 := Aside0.mk A950
                       clear A950
                       replace H := Option.bind_eq_some_iff.mp H
                       obtain ⟨t679, A960, H⟩ := H
                       have A96 := Aside0.mk A960
                       clear A960
                       replace H := Option.bind_eq_some_iff.mp H
                       obtain ⟨t682, A970, H⟩ := H
                       have A97 := Aside0.mk A970
                       clear A970
                       replace H := Option.bind_eq_some_iff.mp H
                       obtain ⟨t685, A980, H⟩ := H
                       have A98 := Aside0.mk A980
                       clear A980
                       have HC99 := Aside0.mk H
                       clear H
                       have hcz100 := Z.c3 BK607.out
                       go_upto_if 104 with (first | ((with_reducible refine gate_callee (f := 20) rfl ?_); refine goesL_ (some 95) rfl rfl Try.func20 (by kernel_rfl) rfl #[.agg #[.int .i64 a0_0, .slice A0_1 l0_1.length c0_1, .slice A0_2 l0_2.length c0_2]] rfl Z.ar ?_; (with_reducible refine (laws_toCharter.calls kj91 a0_0 _ _ l0_1 _ _ l0_2 t669 t670 t673 _ ?q1 ?q2 ?q3 ?q4 A94.out).mono ?_); (case q1 => exact Z.cc HR0_1 HB); (case q2 => exact HC0_1.out); (case q3 => exact Z.cc HR0_2 HB); (case q4 => exact HC0_2.out); rintro e w101 ⟨v671, v674, rfl, ho0, ho1, hb⟩; refine ⟨_, rfl, ?_⟩; replace HO_8 := Aside0.mk (Kd.R_below (by (with_reducible skip); exact HO_8.out) hb); replace HO_12 := Aside0.mk (Kd.R_below (by (with_reducible skip); exact HO_12.out) hb); have HO672 := Aside0.mk (Kd.R_lower ho0 (below_size (Z.bs HB.out GE607.out))); have HO675 := Aside0.mk (Kd.R_lower ho1 (below_size (Z.bs HB.out GE607.out))); replace BK607 := Z.bb BK607 hb; replace HB := Z.st (Z.bs HB.out GE607.out) hb; (try clear hb); (try clear ho0); (try clear ho1)) | ((with_reducible refine gate_callee (f := 21) rfl ?_); refine goesL_ (some 97) rfl rfl Try.func21 (by kernel_rfl) rfl #[.slice A1 l1.length c1] rfl Z.ar ?_; (with_reducible refine (laws_toIntS.calls kj91 _ _ l1 t676 _ ?q1 ?q2 A95.out).mono ?_); (case q1 => exact Z.cc HR1 HB); (case q2 => exact HC1.out); rintro e w102 ⟨v677, rfl, ho0, hb⟩; refine ⟨_, rfl, ?_⟩; replace HO_8 := Aside0.mk (Kd.R_below (by (with_reducible skip); exact HO_8.out) hb); replace HO_12 := Aside0.mk (Kd.R_below (by (with_reducible skip); exact HO_12.out) hb); replace HO675 := Aside0.mk (Kd.R_below (by (with_reducible skip); exact HO675.out) hb); have HO678 := Aside0.mk (Kd.R_lower (Kd.R_new' ho0 (Kd.R_lt (by (with_reducible skip); exact HO672.out))) (below_size (Z.bs HB.out GE607.out))); replace HO672 := Aside0.mk (Kd.R_elder' (by (with_reducible skip); exact HO672.out) (Kd.R_base ho0) hb); replace BK607 := Z.bb BK607 hb; replace HB := Z.st (Z.bs HB.out GE607.out) hb; (try clear hb); (try clear ho0)) | ((with_reducible refine gate_callee (f := 22) rfl ?_); refine goesL_ (some 99) rfl rfl Try.func22 (by kernel_rfl) rfl #[.slice A2 l2.length c2] rfl Z.ar ?_; (with_reducible refine (laws_toActS.calls kj91 _ _ l2 t679 _ ?q1 ?q2 A96.out).mono ?_); (case q1 => exact Z.cc HR2 HB); (case q2 => exact HC2.out); rintro e w103 ⟨v680, rfl, ho0, hb⟩; refine ⟨_, rfl, ?_⟩; replace HO672 := Aside0.mk (Kd.R_below (by (with_reducible skip); exact HO672.out) hb); replace HO675 := Aside0.mk (Kd.R_below (by (with_reducible skip); exact HO675.out) hb); replace HO678 := Aside0.mk (Kd.R_below (by (with_reducible skip); exact HO678.out) hb); have HO681 := Aside0.mk (Kd.R_lower (Kd.R_new' (Kd.R_new' ho0 (Kd.R_lt (by (with_reducible skip); exact HO_8.out))) (Kd.R_lt (by (with_reducible skip); exact HO_12.out))) (below_size (Z.bs HB.out GE607.out))); replace HO_8 := Aside0.mk (Kd.R_elder' (by (with_reducible skip); exact HO_8.out) (Kd.R_base ho0) hb); replace HO_12 := Aside0.mk (Kd.R_elder' (by (with_reducible skip); exact HO_12.out) (Kd.R_base ho0) hb); replace BK607 := Z.bb BK607 hb; replace HB := Z.st (Z.bs HB.out GE607.out) hb; (try clear hb); (try clear ho0); obtain ⟨Ao104, co104, eo104⟩ := Kd.R_slice HO672.out; subst eo104; obtain ⟨Ao105, co105, eo105⟩ := Kd.R_slice HO675.out; subst eo105; obtain ⟨Ao106, co106, eo106⟩ := Kd.R_slice HO678.out; subst eo106; obtain ⟨Ao107, co107, eo107⟩ := Kd.R_slice HO681.out; subst eo107) | ((with_reducible refine gate_callee (f := 34) rfl ?_); refine goesL_ (some 100) rfl rfl Try.func34 (by kernel_rfl) rfl #[.agg #[.int .i64 t669, .slice Ao104 t670.length co104, .slice Ao105 t673.length co105], .slice Ao106 t676.length co106, .slice Ao107 t679.length co107] rfl Z.ar ?_; (with_reducible refine (impl_ValidActs.calls kj91 t669 _ _ t670 _ _ t673 _ _ t676 _ _ t679 t682 _ ?q1 ?q2 ?q3 ?q4 ?q5 ?q6 ?q7 ?q8 A97.out).mono ?_); (case q1 => repeat (exact (Kd.R_reads' HO672.out).2.2)); (case q2 => exact (Kd.R_reads' HO672.out).2.1); (case q3 => repeat (exact (Kd.R_reads' HO675.out).2.2)); (case q4 => exact (Kd.R_reads' HO675.out).2.1); (case q5 => repeat (exact (Kd.R_reads' HO678.out).2.2)); (case q6 => exact (Kd.R_reads' HO678.out).2.1); (case q7 => repeat (exact (Kd.R_reads' HO681.out).2.2)); (case q8 => exact (Kd.R_reads' HO681.out).2.1); rintro e w108 ⟨v683, rfl, ho0, hb⟩; refine ⟨_, rfl, ?_⟩; replace HO672 := Aside0.mk (Kd.R_below (by (with_reducible skip); exact HO672.out) hb); replace HO675 := Aside0.mk (Kd.R_below (by (with_reducible skip); exact HO675.out) hb); replace HO678 := Aside0.mk (Kd.R_below (by (with_reducible skip); exact HO678.out) hb); have HO684 := Aside0.mk (Kd.R_lower (Kd.R_new' (Kd.R_new' (Kd.R_new' ho0 (Kd.R_lt (by (with_reducible skip); exact HO_8.out))) (Kd.R_lt (by (with_reducible skip); exact HO_12.out))) (Kd.R_lt (by (with_reducible skip); exact HO681.out))) (below_size (Z.bs HB.out GE607.out))); replace HO_8 := Aside0.mk (Kd.R_elder' (by (with_reducible skip); exact HO_8.out) (Kd.R_base ho0) hb); replace HO_12 := Aside0.mk (Kd.R_elder' (by (with_reducible skip); exact HO_12.out) (Kd.R_base ho0) hb); replace HO681 := Aside0.mk (Kd.R_elder' (by (with_reducible skip); exact HO681.out) (Kd.R_base ho0) hb); replace BK607 := Z.bb BK607 hb; replace HB := Z.st (Z.bs HB.out GE607.out) hb; (try clear hb); (try clear ho0); obtain ⟨Ao109, co109, eo109⟩ := Kd.R_slice HO684.out; subst eo109) | ((with_reducible refine gate_callee (f := 26) rfl ?_); refine goesL_ (some 103) rfl rfl Try.func26 (by kernel_rfl) rfl #[.slice Ao109 t682.length co109, .slice Ao48 t623.length co48] rfl Z.ar ?_; (with_reducible refine (laws_eqActS.calls kj91 _ _ t682 _ _ t623 t685 _ ?q1 ?q2 ?q3 ?q4 A98.out).mono ?_); (case q1 => repeat (exact (Kd.R_reads' HO684.out).2.2)); (case q2 => exact (Kd.R_reads' HO684.out).2.1); (case q3 => repeat (exact (Kd.R_reads' HO_8.out).2.2)); (case q4 => exact (Kd.R_reads' HO_8.out).2.1); rintro e w110 ⟨rfl, hb⟩; refine ⟨_, rfl, ?_⟩; replace HO_8 := Aside0.mk (Kd.R_below (by (with_reducible skip); exact HO_8.out) hb); replace HO_12 := Aside0.mk (Kd.R_below (by (with_reducible skip); exact HO_12.out) hb); replace HO672 := Aside0.mk (Kd.R_below (by (with_reducible skip); exact HO672.out) hb); replace HO675 := Aside0.mk (Kd.R_below (by (with_reducible skip); exact HO675.out) hb); replace HO678 := Aside0.mk (Kd.R_below (by (with_reducible skip); exact HO678.out) hb); replace HO681 := Aside0.mk (Kd.R_below (by (with_reducible skip); exact HO681.out) hb); replace HO684 := Aside0.mk (Kd.R_below (by (with_reducible skip); exact HO684.out) hb); replace BK607 := Z.bb BK607 hb; replace HB := Z.st (Z.bs HB.out GE607.out) hb; (try clear hb)))
                       go_cut [] (fun wc => ∃ (kq : Nat), Aside0 (laws_FnExactValidActs.j11 kq t667 t666 = some r) ∧ Aside0 (kq ≤ kj91) ∧ Aside0 (Kd.R k53 53 wc w.heap.size (fun _ => True) (.slice Ao47 t667.length co47) t667) ∧ Aside0 (wc.heap[gb607]? = some (.cells #[.int .i64 a0_0, (.slice A0_1 l0_1.length c0_1), (.slice A0_2 l0_2.length c0_2)] 27 (0, 0))) ∧ Aside0 (Below w.heap.size w wc))
                       case first =>
                        have H := HC99.out
                        clear HC99
                        by_cases c111 : t685 = true
                        ·subst c111
                         rw [if_pos rfl] at H
                         have H' := Aside0.mk H
                         clear H
                         go_wp2
                         go_meet
                         case rel => exact ⟨_, H', ⟨by have := HJ3.out; have := HJ7.out; have := HJ12.out; have := HJ23.out; have := HJ52.out; have := HJ61.out; have := HJ67.out; have := HJ75.out; have := HJ84.out; have := HJ88.out; have := HJ91.out; omega⟩, ⟨by (with_reducible skip); exact Kd.R_mono HO_12.out (fun _ hk => trivial)⟩, ⟨by (with_reducible skip); exact BK607.out⟩, ⟨Z.bs HB.out GE607.out⟩⟩
                        ·replace c111 := Bool.eq_false_iff.mpr c111
                         subst c111
                         rw [if_neg (show ¬ (false = true) by decide)] at H
                         obtain rfl := Option.some.inj H
                         go_wp2
                         go_ret
                         exact ⟨by rfl, Z.bs HB.out GE607.out⟩
                       case rest =>
                        clear HC99
                        obtain ⟨kq, HA, HJ98, HO_12, BK607, HB⟩ := hcut
                        cases kq with
                        | zero => exact absurd HA.out (by simp [laws_FnExactValidActs.j11])
                        | succ kj98 =>
                         have H := HA.out
                         clear HA
                         simp only [laws_FnExactValidActs.j11] at H
                         replace H := Option.bind_eq_some_iff.mp H
                         obtain ⟨t686, A1120, H⟩ := H
                         have A112 := Aside0.mk A1120
                         clear A1120
                         by_cases c113 : t686 < 0
                         ·rw [if_pos c113] at H
                          have c113b0 := decide_eq_true c113
                          clear c113
                          obtain rfl := Option.some.inj H
                          go_wp2_with (((with_reducible refine gate_callee (f := 35) rfl ?_); refine goesL_ (some 107) rfl rfl Try.func35 (by kernel_rfl) rfl #[.slice Ao47 t667.length co47, .int .i64 1] rfl Z.ar ?_; (with_reducible refine (laws_heldActS.calls kj98 _ _ t667 1 t686 _ ?q1 ?q2 A112.out).mono ?_); (case q1 => repeat (exact (Kd.R_reads' HO_12.out).2.2)); (case q2 => exact (Kd.R_reads' HO_12.out).2.1); rintro e w' ⟨rfl, ⟨nd, rfl⟩⟩; refine ⟨_, rfl, ?_⟩))
                          go_ret
                          exact ⟨by rfl, Z.bs HB.out GE607.out⟩
                         ·rw [if_neg c113] at H
                          have c113b0 := decide_eq_false c113
                          clear c113
                          by_cases c114 : t686 = t666
                          ·rw [if_pos c114] at H
                           have c114b0 : (t686 == t666) = true := beq_iff_eq.mpr c114
                           have c114b1 : (t686 != t666) = false := bne_eq_false_iff_eq.mpr c114
                           clear c114
                           obtain rfl := Option.some.inj H
                           go_wp2_with (((with_reducible refine gate_callee (f := 35) rfl ?_); refine goesL_ (some 107) rfl rfl Try.func35 (by kernel_rfl) rfl #[.slice Ao47 t667.length co47, .int .i64 1] rfl Z.ar ?_; (with_reducible refine (laws_heldActS.calls kj98 _ _ t667 1 t686 _ ?q1 ?q2 A112.out).mono ?_); (case q1 => repeat (exact (Kd.R_reads' HO_12.out).2.2)); (case q2 => exact (Kd.R_reads' HO_12.out).2.1); rintro e w' ⟨rfl, ⟨nd, rfl⟩⟩; refine ⟨_, rfl, ?_⟩))
                           go_ret
                           exact ⟨by rfl, Z.bs HB.out GE607.out⟩
                          ·rw [if_neg c114] at H
                           have c114b0 : (t686 == t666) = false := beq_eq_false_iff_ne.mpr c114
                           have c114b1 : (t686 != t666) = true := bne_iff_ne.mpr c114
                           obtain rfl := Option.some.inj H
                           go_wp2_with (((with_reducible refine gate_callee (f := 35) rfl ?_); refine goesL_ (some 107) rfl rfl Try.func35 (by kernel_rfl) rfl #[.slice Ao47 t667.length co47, .int .i64 1] rfl Z.ar ?_; (with_reducible refine (laws_heldActS.calls kj98 _ _ t667 1 t686 _ ?q1 ?q2 A112.out).mono ?_); (case q1 => repeat (exact (Kd.R_reads' HO_12.out).2.2)); (case q2 => exact (Kd.R_reads' HO_12.out).2.1); rintro e w' ⟨rfl, ⟨nd, rfl⟩⟩; refine ⟨_, rfl, ?_⟩))
                           go_ret
                           exact ⟨by rfl, Z.bs HB.out GE607.out⟩

end Go.Proofs.Ytcafckapdgaogaa.PAll

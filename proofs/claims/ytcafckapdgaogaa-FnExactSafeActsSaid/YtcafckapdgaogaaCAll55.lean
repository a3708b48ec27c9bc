/- Walks of functions that some laws of this seat reach, in the form of the print. -/
import Derived.Test.YtcafckapdgaogaaCAll0
import Derived.Test.YtcafckapdgaogaaCAll1
import Derived.Test.YtcafckapdgaogaaCAll2
import Derived.Test.YtcafckapdgaogaaCAll10
import Derived.Test.YtcafckapdgaogaaCAll17
import Derived.Test.YtcafckapdgaogaaCAll19
import Derived.Test.YtcafckapdgaogaaCAll20
import Derived.Test.YtcafckapdgaogaaCAll23
import Derived.Test.YtcafckapdgaogaaCAll25
import Derived.Test.YtcafckapdgaogaaCAll30
import Derived.Test.YtcafckapdgaogaaCAll48
import Derived.Test.YtcafckapdgaogaaCAll54
import Derived.Test.YtcafckapdgaogaaZ
import Derived.Test.YtcafckapdgaogaaV2
-- PRINTED
namespace Go.Proofs.Ytcafckapdgaogaa.PAll
open Go.RowKit Go.Proofs.YtcafckapdgaogaaW.PrintWords Go.Proofs.YtcafckapdgaogaaW.PrintLast Go.Proofs.YtcafckapdgaogaaW.PrintMore
attribute [local go_sem] max2_int min2_int max_two min_two max_three min_three max_four min_four
set_option linter.unusedVariables false
set_option linter.unusedSimpArgs false


/-! ### laws_FnExactSafeActs: function 8 -/
mutual
def laws_FnExactSafeActs.j0 : Nat → List Int → List Int → List (S51) → Int → List Int → List (List (S128)) → Option (Bool)
 | 0, _, _, _, _, _, _ => none
 | k + 1, x1, x2, x3, x914000, x914001, x914002 => if (x2.length : Int) > 1048576 then (some true) else (laws_FnExactSafeActs.j1 k x1 x2 x3 x914000 x914001 x914002)
def laws_FnExactSafeActs.j1 : Nat → List Int → List Int → List (S51) → Int → List Int → List (List (S128)) → Option (Bool)
 | 0, _, _, _, _, _, _ => none
 | k + 1, x1, x2, x3, x914000, x914001, x914002 => (laws_szCharter.f k x914000 x914001 x914002 1048576).bind fun t914 => (if t914 < 0 then (some true) else (laws_FnExactSafeActs.j2 k x1 x2 x3 t914 x914000 x914001 x914002))
def laws_FnExactSafeActs.j2 : Nat → List Int → List Int → List (S51) → Int → Int → List Int → List (List (S128)) → Option (Bool)
 | 0, _, _, _, _, _, _, _ => none
 | k + 1, x1, x2, x3, x9, x914000, x914001, x914002 => (laws_szActS.f x3 x9).bind fun t915 => (if t915 < 0 then (some true) else (laws_FnExactSafeActs.j3 k x1 x2 x3 x914000 x914001 x914002))
def laws_FnExactSafeActs.j3 : Nat → List Int → List Int → List (S51) → Int → List Int → List (List (S128)) → Option (Bool)
 | 0, _, _, _, _, _, _ => none
 | k + 1, x1, x2, x3, x914000, x914001, x914002 => (laws_toCharter.f k x914000 x914001 x914002).bind fun bt916 => ((laws_toIntS.f k x1).bind fun t923 => ((laws_toIntS.f k x2).bind fun t926 => ((laws_toActS.f k x3).bind fun t929 => ((spec_SafeActs.f k bt916.1 bt916.2.1 bt916.2.2 t923 t926 t929).bind fun t932 => ((laws_toCharter.f k x914000 x914001 x914002).bind fun bt935 => ((laws_toIntS.f k x1).bind fun t943 => ((laws_toIntS.f k x2).bind fun t946 => ((laws_toActS.f k x3).bind fun t949 => ((impl_SafeActs.f k bt935.1 bt935.2.1 bt935.2.2 t943 t946 t949).bind fun t952 => ((laws_eqActS.f k t952 t932).bind fun t955 => (if t955 = true then (laws_FnExactSafeActs.j4 k x1 x2 x3 t932 t943 t946 t949 t952 x914000 x914001 x914002 bt935.1 bt935.2.1 bt935.2.2) else (some false))))))))))))
def laws_FnExactSafeActs.j4 : Nat → List Int → List Int → List (S51) → List (S53) → List Int → List Int → List (S53) → List (S53) → Int → List Int → List (List (S128)) → Int → List Int → List (List (S86)) → Option (Bool)
 | 0, _, _, _, _, _, _, _, _, _, _, _, _, _, _ => none
 | k + 1, x1, x2, x3, x10, x12, x13, x14, x15, x914000, x914001, x914002, x943000, x943001, x943002 => (laws_toCharter.f k x914000 x914001 x914002).bind fun bt956 => ((laws_eqCharter.f k x943000 x943001 x943002 bt956.1 bt956.2.1 bt956.2.2).bind fun t963 => (if t963 = true then (laws_FnExactSafeActs.j5 k x1 x2 x3 x10 x12 x13 x14 x15 x914000 x914001 x914002 x943000 x943001 x943002) else (some false)))
def laws_FnExactSafeActs.j5 : Nat → List Int → List Int → List (S51) → List (S53) → List Int → List Int → List (S53) → List (S53) → Int → List Int → List (List (S128)) → Int → List Int → List (List (S86)) → Option (Bool)
 | 0, _, _, _, _, _, _, _, _, _, _, _, _, _, _ => none
 | k + 1, x1, x2, x3, x10, x12, x13, x14, x15, x914000, x914001, x914002, x943000, x943001, x943002 => (laws_toIntS.f k x1).bind fun t964 => ((laws_eqIntS.f k x12 t964).bind fun t967 => (if t967 = true then (laws_FnExactSafeActs.j6 k x1 x2 x3 x10 x12 x13 x14 x15 x914000 x914001 x914002 x943000 x943001 x943002) else (some false)))
def laws_FnExactSafeActs.j6 : Nat → List Int → List Int → List (S51) → List (S53) → List Int → List Int → List (S53) → List (S53) → Int → List Int → List (List (S128)) → Int → List Int → List (List (S86)) → Option (Bool)
 | 0, _, _, _, _, _, _, _, _, _, _, _, _, _, _ => none
 | k + 1, x1, x2, x3, x10, x12, x13, x14, x15, x914000, x914001, x914002, x943000, x943001, x943002 => (laws_toIntS.f k x2).bind fun t968 => ((laws_eqIntS.f k x13 t968).bind fun t971 => (if t971 = true then (laws_FnExactSafeActs.j7 k x1 x2 x3 x10 x12 x13 x14 x15 x914000 x914001 x914002 x943000 x943001 x943002) else (some false)))
def laws_FnExactSafeActs.j7 : Nat → List Int → List Int → List (S51) → List (S53) → List Int → List Int → List (S53) → List (S53) → Int → List Int → List (List (S128)) → Int → List Int → List (List (S86)) → Option (Bool)
 | 0, _, _, _, _, _, _, _, _, _, _, _, _, _, _ => none
 | k + 1, x1, x2, x3, x10, x12, x13, x14, x15, x914000, x914001, x914002, x943000, x943001, x943002 => (laws_toActS.f k x3).bind fun t972 => ((laws_eqActS.f k x14 t972).bind fun t975 => (if t975 = true then (laws_FnExactSafeActs.j8 k x1 x2 x3 x10 x12 x13 x14 x15 x914000 x914001 x914002 x943000 x943001 x943002) else (some false)))
def laws_FnExactSafeActs.j8 : Nat → List Int → List Int → List (S51) → List (S53) → List Int → List Int → List (S53) → List (S53) → Int → List Int → List (List (S128)) → Int → List Int → List (List (S86)) → Option (Bool)
 | 0, _, _, _, _, _, _, _, _, _, _, _, _, _, _ => none
 | k + 1, x1, x2, x3, x10, x12, x13, x14, x15, x914000, x914001, x914002, x943000, x943001, x943002 => (laws_markCharter.f x943000 x943001 x943002 1).bind fun t976 => ((laws_markIntS.f k x12 t976).bind fun bt977 => ((laws_markIntS.f k x13 bt977.1).bind fun bt979 => ((laws_markActS.f k x14 bt979.1).bind fun bt981 => (if bt981.1 < 0 then (laws_FnExactSafeActs.j9 k x1 x2 x3 x10 x15 true x914000 x914001 x914002) else ((laws_eqActS.f k x15 x10).bind fun t983 => (laws_FnExactSafeActs.j9 k x1 x2 x3 x10 x15 (!t983) x914000 x914001 x914002))))))
def laws_FnExactSafeActs.j9 : Nat → List Int → List Int → List (S51) → List (S53) → List (S53) → Bool → Int → List Int → List (List (S128)) → Option (Bool)
 | 0, _, _, _, _, _, _, _, _, _ => none
 | k + 1, x1, x2, x3, x10, x15, x101, x914000, x914001, x914002 => if x101 = true then (some false) else (laws_FnExactSafeActs.j10 k x1 x2 x3 x10 x15 x914000 x914001 x914002)
def laws_FnExactSafeActs.j10 : Nat → List Int → List Int → List (S51) → List (S53) → List (S53) → Int → List Int → List (List (S128)) → Option (Bool)
 | 0, _, _, _, _, _, _, _, _ => none
 | k + 1, x1, x2, x3, x10, x15, x914000, x914001, x914002 => (laws_markActS.f k x15 1).bind fun bt984 => ((laws_heldActS.f k bt984.2 1).bind fun t986 => (if t986 < 0 then (some false) else (laws_FnExactSafeActs.j11 k x1 x2 x3 x10 bt984.2 bt984.1 t986 x914000 x914001 x914002)))
def laws_FnExactSafeActs.j11 : Nat → List Int → List Int → List (S51) → List (S53) → List (S53) → Int → Int → Int → List Int → List (List (S128)) → Option (Bool)
 | 0, _, _, _, _, _, _, _, _, _, _ => none
 | k + 1, x1, x2, x3, x10, x15, x17, x18, x914000, x914001, x914002 => if x18 = x17 then (laws_FnExactSafeActs.j12 k x1 x2 x3 x10 x15 x17 x914000 x914001 x914002) else (some false)
def laws_FnExactSafeActs.j12 : Nat → List Int → List Int → List (S51) → List (S53) → List (S53) → Int → Int → List Int → List (List (S128)) → Option (Bool)
 | 0, _, _, _, _, _, _, _, _, _ => none
 | k + 1, x1, x2, x3, x10, x15, x17, x914000, x914001, x914002 => (laws_toCharter.f k x914000 x914001 x914002).bind fun bt987 => ((laws_toIntS.f k x1).bind fun t994 => ((laws_toIntS.f k x2).bind fun t997 => ((laws_toActS.f k x3).bind fun t1000 => ((impl_SafeActs.f k bt987.1 bt987.2.1 bt987.2.2 t994 t997 t1000).bind fun t1003 => ((laws_eqActS.f k t1003 x10).bind fun t1006 => (if t1006 = true then (laws_FnExactSafeActs.j13 k x15 x17) else (some false)))))))
def laws_FnExactSafeActs.j13 : Nat → List (S53) → Int → Option (Bool)
 | 0, _, _ => none
 | k + 1, x15, x17 => (laws_heldActS.f k x15 1).bind fun t1007 => (if t1007 < 0 then (some false) else (if t1007 = x17 then (some true) else (some false)))
end
def laws_FnExactSafeActs.f (k : Nat) (a0_0 : Int) (l0_1 : List Int) (l0_2 : List (List (S128))) (l1 : List Int) (l2 : List Int) (l3 : List (S51)) : Option (Bool) := if (l1.length : Int) > 1048576 then (some true) else (laws_FnExactSafeActs.j0 k l1 l2 l3 a0_0 l0_1 l0_2)
set_option maxHeartbeats 8000000 in
set_option maxRecDepth 100000 in
theorem laws_FnExactSafeActs.calls (k : Nat) (a0_0 : Int) (A0_1 : Option Addr) (c0_1 : Nat) (l0_1 : List Int) (A0_2 : Option Addr) (c0_2 : Nat) (l0_2 : List (List (S128))) (A1 : Option Addr) (c1 : Nat) (l1 : List Int) (A2 : Option Addr) (c2 : Nat) (l2 : List Int) (A3 : Option Addr) (c3 : Nat) (l3 : List (S51)) (r : Bool) (w : World) (hr0_1 : Kd.C (Kd.int .i64) w A0_1 l0_1.length l0_1) (hc0_1 : l0_1.length ≤ c0_1) (hr0_2 : Kd.C (Kd.slice 128 k128) w A0_2 l0_2.length l0_2) (hc0_2 : l0_2.length ≤ c0_2) (hr1 : Kd.C (Kd.int .i64) w A1 l1.length l1) (hc1 : l1.length ≤ c1) (hr2 : Kd.C (Kd.int .i64) w A2 l2.length l2) (hc2 : l2.length ≤ c2) (hr3 : Kd.C k51 w A3 l3.length l3) (hc3 : l3.length ≤ c3) (h : laws_FnExactSafeActs.f k a0_0 l0_1 l0_2 l1 l2 l3 = some r) :
  Calls Try.prog 8 #[.agg #[.int .i64 a0_0, .slice A0_1 l0_1.length c0_1, .slice A0_2 l0_2.length c0_2], .slice A1 l1.length c1, .slice A2 l2.length c2, .slice A3 l3.length c3] w fun e w' => e = .returned (.bool r) ∧ Below w.heap.size w w' := by
 have hu27 := Try.underlying27
 have hu35 := Try.underlying35
 have HR0_1 := Aside0.mk hr0_1
 have HC0_1 := Aside0.mk hc0_1
 clear hr0_1 hc0_1
 have HR0_2 := Aside0.mk hr0_2
 have HC0_2 := Aside0.mk hc0_2
 clear hr0_2 hc0_2
 have HR1 := Aside0.mk hr1
 have HC1 := Aside0.mk hc1
 clear hr1 hc1
 have HR2 := Aside0.mk hr2
 have HC2 := Aside0.mk hc2
 clear hr2 hc2
 have HR3 := Aside0.mk hr3
 have HC3 := Aside0.mk hc3
 clear hr3 hc3
 have HB := Aside0.mk (Below.refl w.heap.size w)
 have H := h
 clear h
 unfold laws_FnExactSafeActs.f at H
 have HC5 := Aside0.mk H
 clear H
 go_enter Try.func8, Try.ntmps8
 go_upto_if 22 with (((with_reducible refine gate_dst (N := 4) rfl ?_); refine Z.bx #[.int .i64 a0_0, .slice A0_1 l0_1.length c0_1, .slice A0_2 l0_2.length c0_2] 27 HB ?_; clear HB; intro gb913 w6 BK913 GE913 HB hg hb; have GW913 := GE913; clear hb hg))
 go_cut [] (fun wc => ∃ (kq : Nat), Aside0 (laws_FnExactSafeActs.j0 kq l1 l2 l3 a0_0 l0_1 l0_2 = some r) ∧ Aside0 (kq ≤ k) ∧ Aside0 (wc.heap[gb913]? = some (.cells #[.int .i64 a0_0, (.slice A0_1 l0_1.length c0_1), (.slice A0_2 l0_2.length c0_2)] 27 (0, 0))) ∧ Aside0 (Below w.heap.size w wc))
 case first =>
  have H := HC5.out
  clear HC5
  by_cases c7 : (l1.length : Int) > 1048576
  ·rw [if_pos c7] at H
   have c7b0 : decide (1048576 < (l1.length : Int)) = true := decide_eq_true c7
   have c7b1 : decide (1048576 < l1.length) = true := decide_eq_true (by omega)
   clear c7
   (rw [c7b0])
   obtain rfl := Option.some.inj H
   go_wp2
   go_ret
   exact ⟨by rfl, Z.bs HB.out GE913.out⟩
  ·rw [if_neg c7] at H
   have c7b0 : decide (1048576 < (l1.length : Int)) = false := decide_eq_false c7
   have c7b1 : decide (1048576 < l1.length) = false := decide_eq_false (by omega)
   clear c7
   (rw [c7b0])
   have H' := Aside0.mk H
   clear H
   go_wp2
   go_meet
   case rel => exact ⟨_, H', ⟨by omega⟩, ⟨by (with_reducible skip); exact BK913.out⟩, ⟨Z.bs HB.out GE913.out⟩⟩
 case rest =>
  clear HC5
  obtain ⟨kq, HA, HJ4, BK913, HB⟩ := hcut
  cases kq with
  | zero => exact absurd HA.out (by simp [laws_FnExactSafeActs.j0])
  | succ kj4 =>
   have H := HA.out
   clear HA
   simp only [laws_FnExactSafeActs.j0] at H
   have HC8 := Aside0.mk H
   clear H
   go_upto_if 25 with (fail)
   go_cut [] (fun wc => ∃ (kq : Nat), Aside0 (laws_FnExactSafeActs.j1 kq l1 l2 l3 a0_0 l0_1 l0_2 = some r) ∧ Aside0 (kq ≤ kj4) ∧ Aside0 (wc.heap[gb913]? = some (.cells #[.int .i64 a0_0, (.slice A0_1 l0_1.length c0_1), (.slice A0_2 l0_2.length c0_2)] 27 (0, 0))) ∧ Aside0 (Below w.heap.size w wc))
   case first =>
    have H := HC8.out
    clear HC8
    by_cases c9 : (l2.length : Int) > 1048576
    ·rw [if_pos c9] at H
     have c9b0 : decide (1048576 < (l2.length : Int)) = true := decide_eq_true c9
     have c9b1 : decide (1048576 < l2.length) = true := decide_eq_true (by omega)
     clear c9
     (rw [c9b0])
     obtain rfl := Option.some.inj H
     go_wp2
     go_ret
     exact ⟨by rfl, Z.bs HB.out GE913.out⟩
    ·rw [if_neg c9] at H
     have c9b0 : decide (1048576 < (l2.length : Int)) = false := decide_eq_false c9
     have c9b1 : decide (1048576 < l2.length) = false := decide_eq_false (by omega)
     clear c9
     (rw [c9b0])
     have H' := Aside0.mk H
     clear H
     go_wp2
     go_meet
     case rel => exact ⟨_, H', ⟨by have := HJ4.out; omega⟩, ⟨by (with_reducible skip); exact BK913.out⟩, ⟨Z.bs HB.out GE913.out⟩⟩
   case rest =>
    clear HC8
    obtain ⟨kq, HA, HJ7, BK913, HB⟩ := hcut
    cases kq with
    | zero => exact absurd HA.out (by simp [laws_FnExactSafeActs.j1])
    | succ kj7 =>
     have H := HA.out
     clear HA
     simp only [laws_FnExactSafeActs.j1] at H
     replace H := Option.bind_eq_some_iff.mp H
     obtain ⟨t914, A100, H⟩ := H
     have A10 := Aside0.mk A100
     clear A100
     have HC11 := Aside0.mk H
     clear H
     have hcz12 := Z.c3 BK913.out
     go_upto_if 30 with (((with_reducible refine gate_callee (f := 17) rfl ?_); refine goesL_ (some 28) rfl rfl Try.func17 (by kernel_rfl) rfl #[.agg #[.int .i64 a0_0, .slice A0_1 l0_1.length c0_1, .slice A0_2 l0_2.length c0_2], .int .i64 1048576] rfl Z.ar ?_; (with_reducible refine (laws_szCharter.calls kj7 a0_0 _ _ l0_1 _ _ l0_2 1048576 t914 _ ?q1 ?q2 ?q3 ?q4 A10.out).mono ?_); (case q1 => exact Z.cc HR0_1 HB); (case q2 => exact HC0_1.out); (case q3 => exact Z.cc HR0_2 HB); (case q4 => exact HC0_2.out); rintro e w13 ⟨rfl, hb⟩; refine ⟨_, rfl, ?_⟩; replace BK913 := Z.bb BK913 hb; replace HB := Z.st (Z.bs HB.out GE913.out) hb; (try clear hb)))
     go_cut [] (fun wc => ∃ (kq : Nat), Aside0 (laws_FnExactSafeActs.j2 kq l1 l2 l3 t914 a0_0 l0_1 l0_2 = some r) ∧ Aside0 (kq ≤ kj7) ∧ Aside0 (wc.heap[gb913]? = some (.cells #[.int .i64 a0_0, (.slice A0_1 l0_1.length c0_1), (.slice A0_2 l0_2.length c0_2)] 27 (0, 0))) ∧ Aside0 (Below w.heap.size w wc))
     case first =>
      have H := HC11.out
      clear HC11
      by_cases c14 : t914 < 0
      ·rw [if_pos c14] at H
       have c14b0 := decide_eq_true c14
       clear c14
       (rw [c14b0])
       obtain rfl := Option.some.inj H
       go_wp2
       go_ret
       exact ⟨by rfl, Z.bs HB.out GE913.out⟩
      ·rw [if_neg c14] at H
       have c14b0 := decide_eq_false c14
       clear c14
       (rw [c14b0])
       have H' := Aside0.mk H
       clear H
       go_wp2
       go_meet
       case rel => exact ⟨_, H', ⟨by have := HJ4.out; have := HJ7.out; omega⟩, ⟨by (with_reducible skip); exact BK913.out⟩, ⟨Z.bs HB.out GE913.out⟩⟩
     case rest =>
      clear HC11
      obtain ⟨kq, HA, HJ10, BK913, HB⟩ := hcut
      cases kq with
      | zero => exact absurd HA.out (by simp [laws_FnExactSafeActs.j2])
      | succ kj10 =>
       have H := HA.out
       clear HA
       simp only [laws_FnExactSafeActs.j2] at H
       replace H := Option.bind_eq_some_iff.mp H
       obtain ⟨t915, A150, H⟩ := H
       have A15 := Aside0.mk A150
       clear A150
       have HC16 := Aside0.mk H
       clear H
       go_upto_if 35 with (((with_reducible refine gate_callee (f := 18) rfl ?_); refine goesL_ (some 33) rfl rfl Try.func18 (by kernel_rfl) rfl #[.slice A3 l3.length c3, .int .i64 t914] rfl Z.ar ?_; (with_reducible refine (laws_szActS.calls _ _ l3 t914 t915 _ ?q1 ?q2 A15.out).mono ?_); (case q1 => exact Z.cc HR3 HB); (case q2 => exact HC3.out); rintro e w' ⟨rfl, ⟨nd, rfl⟩⟩; refine ⟨_, rfl, ?_⟩))
       go_cut [] (fun wc => ∃ (kq : Nat), Aside0 (laws_FnExactSafeActs.j3 kq l1 l2 l3 a0_0 l0_1 l0_2 = some r) ∧ Aside0 (kq ≤ kj10) ∧ Aside0 (wc.heap[gb913]? = some (.cells #[.int .i64 a0_0, (.slice A0_1 l0_1.length c0_1), (.slice A0_2 l0_2.length c0_2)] 27 (0, 0))) ∧ Aside0 (Below w.heap.size w wc))
       case first =>
        have H := HC16.out
        clear HC16
        by_cases c17 : t915 < 0
        ·rw [if_pos c17] at H
         have c17b0 := decide_eq_true c17
         clear c17
         (rw [c17b0])
         obtain rfl := Option.some.inj H
         go_wp2
         go_ret
         exact ⟨by rfl, Z.bs HB.out GE913.out⟩
        ·rw [if_neg c17] at H
         have c17b0 := decide_eq_false c17
         clear c17
         (rw [c17b0])
         have H' := Aside0.mk H
         clear H
         go_wp2
         go_meet
         case rel => exact ⟨_, H', ⟨by have := HJ4.out; have := HJ7.out; have := HJ10.out; omega⟩, ⟨by (with_reducible repeat (refine blk_drewN ?_ _)); exact BK913.out⟩, ⟨Z.bs HB.out GE913.out⟩⟩
       case rest =>
        clear HC16
        obtain ⟨kq, HA, HJ15, BK913, HB⟩ := hcut
        cases kq with
        | zero => exact absurd HA.out (by simp [laws_FnExactSafeActs.j3])
        | succ kj15 =>
         have H := HA.out
         clear HA
         simp only [laws_FnExactSafeActs.j3] at H
         replace H := Option.bind_eq_some_iff.mp H
         obtain ⟨⟨t916, t917, t920⟩, A180, H⟩ := H
         try dsimp only at H
         have A18 := Aside0.mk A180
         clear A180
         replace H := Option.bind_eq_some_iff.mp H
         obtain ⟨t923, A190, H⟩ := H
         have A19 := Aside0.mk A190
         clear A190
         replace H := Option.bind_eq_some_iff.mp H
         obtain ⟨t926, A200, H⟩ := H
         have A20 := Aside0.mk A200
         clear A200
         replace H := Option.bind_eq_some_iff.mp H
         obtain ⟨t929, A210, H⟩ := H
         have A21 := Aside0.mk A210
         clear A210
         replace H := Option.bind_eq_some_iff.mp H
         obtain ⟨t932, A220, H⟩ := H
         have A22 := Aside0.mk A220
         clear A220
         replace H := Option.bind_eq_some_iff.mp H
         obtain ⟨⟨t935, t936, t939⟩, A230, H⟩ := H
         try dsimp only at H
         have A23 := Aside0.mk A230
         clear A230
         replace H := Option.bind_eq_some_iff.mp H
         obtain ⟨t943, A240, H⟩ := H
         have A24 := Aside0.mk A240
         clear A240
         replace H := Option.bind_eq_some_iff.mp H
         obtain ⟨t946, A250, H⟩ := H
         have A25 := Aside0.mk A250
         clear A250
         replace H := Option.bind_eq_some_iff.mp H
         obtain ⟨t949, A260, H⟩ := H
         have A26 := Aside0.mk A260
         clear A260
         replace H := Option.bind_eq_some_iff.mp H
         obtain ⟨t952, A270, H⟩ := H
         have A27 := Aside0.mk A270
         clear A270
         replace H := Option.bind_eq_some_iff.mp H
         obtain ⟨t955, A280, H⟩ := H
         have A28 := Aside0.mk A280
         clear A280
         have HC29 := Aside0.mk H
         clear H
         have hcz30 := Z.c3 BK913.out
         go_upto_if 61 with (first | ((with_reducible refine gate_callee (f := 20) rfl ?_); refine goesL_ (some 37) rfl rfl Try.func20 (by kernel_rfl) rfl #[.agg #[.int .i64 a0_0, .slice A0_1 l0_1.length c0_1, .slice A0_2 l0_2.length c0_2]] rfl Z.ar ?_; (with_reducible refine (laws_toCharter.calls kj15 a0_0 _ _ l0_1 _ _ l0_2 t916 t917 t920 _ ?q1 ?q2 ?q3 ?q4 A18.out).mono ?_); (case q1 => exact Z.cc HR0_1 HB); (case q2 => exact HC0_1.out); (case q3 => exact Z.cc HR0_2 HB); (case q4 => exact HC0_2.out); rintro e w31 ⟨v918, v921, rfl, ho0, ho1, hb⟩; refine ⟨_, rfl, ?_⟩; have HO919 := Aside0.mk (Kd.R_lower ho0 (below_size (Z.bs HB.out GE913.out))); have HO922 := Aside0.mk (Kd.R_lower ho1 (below_size (Z.bs HB.out GE913.out))); replace BK913 := Z.bb BK913 hb; replace HB := Z.st (Z.bs HB.out GE913.out) hb; (try clear hb); (try clear ho0); (try clear ho1)) | ((with_reducible refine gate_callee (f := 21) rfl ?_); refine goesL_ (some 39) rfl rfl Try.func21 (by kernel_rfl) rfl #[.slice A1 l1.length c1] rfl Z.ar ?_; (with_reducible refine (laws_toIntS.calls kj15 _ _ l1 t923 _ ?q1 ?q2 A19.out).mono ?_); (case q1 => exact Z.cc HR1 HB); (case q2 => exact HC1.out); rintro e w32 ⟨v924, rfl, ho0, hb⟩; refine ⟨_, rfl, ?_⟩; replace HO922 := Aside0.mk (Kd.R_below (by (with_reducible skip); exact HO922.out) hb); have HO925 := Aside0.mk (Kd.R_lower (Kd.R_new' ho0 (Kd.R_lt (by (with_reducible skip); exact HO919.out))) (below_size (Z.bs HB.out GE913.out))); replace HO919 := Aside0.mk (Kd.R_elder' (by (with_reducible skip); exact HO919.out) (Kd.R_base ho0) hb); replace BK913 := Z.bb BK913 hb; replace HB := Z.st (Z.bs HB.out GE913.out) hb; (try clear hb); (try clear ho0)) | ((with_reducible refine gate_callee (f := 21) rfl ?_); refine goesL_ (some 41) rfl rfl Try.func21 (by kernel_rfl) rfl #[.slice A2 l2.length c2] rfl Z.ar ?_; (with_reducible refine (laws_toIntS.calls kj15 _ _ l2 t926 _ ?q1 ?q2 A20.out).mono ?_); (case q1 => exact Z.cc HR2 HB); (case q2 => exact HC2.out); rintro e w33 ⟨v927, rfl, ho0, hb⟩; refine ⟨_, rfl, ?_⟩; replace HO922 := Aside0.mk (Kd.R_below (by (with_reducible skip); exact HO922.out) hb); have HO928 := Aside0.mk (Kd.R_lower (Kd.R_new' (Kd.R_new' ho0 (Kd.R_lt (by (with_reducible skip); exact HO919.out))) (Kd.R_lt (by (with_reducible skip); exact HO925.out))) (below_size (Z.bs HB.out GE913.out))); replace HO919 := Aside0.mk (Kd.R_elder' (by (with_reducible skip); exact HO919.out) (Kd.R_base ho0) hb); replace HO925 := Aside0.mk (Kd.R_elder' (by (with_reducible skip); exact HO925.out) (Kd.R_base ho0) hb); replace BK913 := Z.bb BK913 hb; replace HB := Z.st (Z.bs HB.out GE913.out) hb; (try clear hb); (try clear ho0)) | ((with_reducible refine gate_callee (f := 22) rfl ?_); refine goesL_ (some 43) rfl rfl Try.func22 (by kernel_rfl) rfl #[.slice A3 l3.length c3] rfl Z.ar ?_; (with_reducible refine (laws_toActS.calls kj15 _ _ l3 t929 _ ?q1 ?q2 A21.out).mono ?_); (case q1 => exact Z.cc HR3 HB); (case q2 => exact HC3.out); rintro e w34 ⟨v930, rfl, ho0, hb⟩; refine ⟨_, rfl, ?_⟩; replace HO919 := Aside0.mk (Kd.R_below (by (with_reducible skip); exact HO919.out) hb); replace HO922 := Aside0.mk (Kd.R_below (by (with_reducible skip); exact HO922.out) hb); replace HO925 := Aside0.mk (Kd.R_below (by (with_reducible skip); exact HO925.out) hb); replace HO928 := Aside0.mk (Kd.R_below (by (with_reducible skip); exact HO928.out) hb); have HO931 := Aside0.mk (Kd.R_lower ho0 (below_size (Z.bs HB.out GE913.out))); replace BK913 := Z.bb BK913 hb; replace HB := Z.st (Z.bs HB.out GE913.out) hb; (try clear hb); (try clear ho0); obtain ⟨Ao35, co35, eo35⟩ := Kd.R_slice HO919.out; subst eo35; obtain ⟨Ao36, co36, eo36⟩ := Kd.R_slice HO922.out; subst eo36; obtain ⟨Ao37, co37, eo37⟩ := Kd.R_slice HO925.out; subst eo37; obtain ⟨Ao38, co38, eo38⟩ := Kd.R_slice HO928.out; subst eo38; obtain ⟨Ao39, co39, eo39⟩ := Kd.R_slice HO931.out; subst eo39) | ((with_reducible refine gate_callee (f := 41) rfl ?_); refine goesL_ (some 44) rfl rfl Try.func41 (by kernel_rfl) rfl #[.agg #[.int .i64 t916, .slice Ao35 t917.length co35, .slice Ao36 t920.length co36], .slice Ao37 t923.length co37, .slice Ao38 t926.length co38, .slice Ao39 t929.length co39] rfl Z.ar ?_; (with_reducible refine (spec_SafeActs.calls kj15 t916 _ _ t917 _ _ t920 _ _ t923 _ _ t926 _ _ t929 t932 _ ?q1 ?q2 ?q3 ?q4 ?q5 ?q6 ?q7 ?q8 ?q9 ?q10 A22.out).mono ?_); (case q1 => repeat (exact (Kd.R_reads' HO919.out).2.2)); (case q2 => exact (Kd.R_reads' HO919.out).2.1); (case q3 => repeat (exact (Kd.R_reads' HO922.out).2.2)); (case q4 => exact (Kd.R_reads' HO922.out).2.1); (case q5 => repeat (exact (Kd.R_reads' HO925.out).2.2)); (case q6 => exact (Kd.R_reads' HO925.out).2.1); (case q7 => repeat (exact (Kd.R_reads' HO928.out).2.2)); (case q8 => exact (Kd.R_reads' HO928.out).2.1); (case q9 => repeat (exact (Kd.R_reads' HO931.out).2.2)); (case q10 => exact (Kd.R_reads' HO931.out).2.1); rintro e w40 ⟨v933, rfl, ho0, hb⟩; refine ⟨_, rfl, ?_⟩; replace HO919 := Aside0.mk (Kd.R_below (by (with_reducible skip); exact HO919.out) hb); replace HO922 := Aside0.mk (Kd.R_below (by (with_reducible skip); exact HO922.out) hb); replace HO925 := Aside0.mk (Kd.R_below (by (with_reducible skip); exact HO925.out) hb); replace HO928 := Aside0.mk (Kd.R_below (by (with_reducible skip); exact HO928.out) hb); have HO934 := Aside0.mk (Kd.R_lower (Kd.R_new' ho0 (Kd.R_lt (by (with_reducible skip); exact HO931.out))) (below_size (Z.bs HB.out GE913.out))); replace HO931 := Aside0.mk (Kd.R_elder' (by (with_reducible skip); exact HO931.out) (Kd.R_base ho0) hb); replace BK913 := Z.bb BK913 hb; replace HB := Z.st (Z.bs HB.out GE913.out) hb; (try clear hb); (try clear ho0); have hcz41 := Z.c3 BK913.out) | ((with_reducible refine gate_callee (f := 20) rfl ?_); refine goesL_ (some 46) rfl rfl Try.func20 (by kernel_rfl) rfl #[.agg #[.int .i64 a0_0, .slice A0_1 l0_1.length c0_1, .slice A0_2 l0_2.length c0_2]] rfl Z.ar ?_; (with_reducible refine (laws_toCharter.calls kj15 a0_0 _ _ l0_1 _ _ l0_2 t935 t936 t939 _ ?q1 ?q2 ?q3 ?q4 A23.out).mono ?_); (case q1 => exact Z.cc HR0_1 HB); (case q2 => exact HC0_1.out); (case q3 => exact Z.cc HR0_2 HB); (case q4 => exact HC0_2.out); rintro e w42 ⟨v937, v940, rfl, ho0, ho1, hb⟩; refine ⟨_, rfl, ?_⟩; replace HO931 := Aside0.mk (Kd.R_below (by (with_reducible skip); exact HO931.out) hb); replace HO934 := Aside0.mk (Kd.R_below (by (with_reducible skip); exact HO934.out) hb); have HO938 := Aside0.mk (Kd.R_lower (Kd.R_new' (Kd.R_new' (Kd.R_new' ho0 (Kd.R_lt (by (with_reducible skip); exact HO919.out))) (Kd.R_lt (by (with_reducible skip); exact HO925.out))) (Kd.R_lt (by (with_reducible skip); exact HO928.out))) (below_size (Z.bs HB.out GE913.out))); replace HO919 := Aside0.mk (Kd.R_elder' (by (with_reducible skip); exact HO919.out) (Kd.R_base ho0) hb); replace HO925 := Aside0.mk (Kd.R_elder' (by (with_reducible skip); exact HO925.out) (Kd.R_base ho0) hb); replace HO928 := Aside0.mk (Kd.R_elder' (by (with_reducible skip); exact HO928.out) (Kd.R_base ho0) hb); have HO941 := Aside0.mk (Kd.R_lower (Kd.R_new' ho1 (Kd.R_lt (by (with_reducible skip); exact HO922.out))) (below_size (Z.bs HB.out GE913.out))); replace HO922 := Aside0.mk (Kd.R_elder' (by (with_reducible skip); exact HO922.out) (Kd.R_base ho1) hb); replace BK913 := Z.bb BK913 hb; replace HB := Z.st (Z.bs HB.out GE913.out) hb; (try clear hb); (try clear ho0); (try clear ho1)) | ((with_reducible refine gate_dst (N := 11) rfl ?_); refine Z.bz #[.int .i64 0, .slice none 0 0, .slice none 0 0] 35 HB GE913 ?_; clear HB; intro gb942 w43 BK942 GE942 HB hg hb; have GW942 := GE942; replace HO919 := Aside0.mk (Kd.R_below (by (with_reducible skip); exact HO919.out) hb); replace HO922 := Aside0.mk (Kd.R_below (by (with_reducible skip); exact HO922.out) hb); replace HO925 := Aside0.mk (Kd.R_below (by (with_reducible skip); exact HO925.out) hb); replace HO928 := Aside0.mk (Kd.R_below (by (with_reducible skip); exact HO928.out) hb); replace HO931 := Aside0.mk (Kd.R_below (by (with_reducible skip); exact HO931.out) hb); replace HO934 := Aside0.mk (Kd.R_below (by (with_reducible skip); exact HO934.out) hb); replace HO938 := Aside0.mk (Kd.R_below (by (with_reducible skip); exact HO938.out) hb); replace HO941 := Aside0.mk (Kd.R_below (by (with_reducible skip); exact HO941.out) hb); have NB913_942 := Z.nl hg BK913; have NB942_913 := Z.ng hg BK913; replace BK913 := Z.bb BK913 hb; clear hb hg; have hnb44 := NB942_913.out; have hnc44 := NB913_942.out; have hcz45 := Z.c3 BK942.out; obtain ⟨Ao46, co46, eo46⟩ := Kd.R_slice HO938.out; subst eo46; obtain ⟨Ao47, co47, eo47⟩ := Kd.R_slice HO941.out; subst eo47) | ((with_reducible refine gate_callee (f := 21) rfl ?_); refine goesL_ (some 48) rfl rfl Try.func21 (by kernel_rfl) rfl #[.slice A1 l1.length c1] rfl Z.ar ?_; (with_reducible refine (laws_toIntS.calls kj15 _ _ l1 t943 _ ?q1 ?q2 A24.out).mono ?_); (case q1 => exact Kd.C_below HR1.out (by repeat ((with_reducible first | exact HB.out | refine below_set ?_ GE942.out)))); (case q2 => exact HC1.out); rintro e w48 ⟨v944, rfl, ho0, hb⟩; refine ⟨_, rfl, ?_⟩; replace HO922 := Aside0.mk (Kd.R_below (by (with_reducible skip); exact (Kd.R_mono (Kd.R_far (p := ⟨gb942, 2, none⟩) (Kd.R_far (p := ⟨gb942, 1, none⟩) (Kd.R_far (p := ⟨gb942, 0, none⟩) (Kd.R_types HO922.out BK942.out (by decide)) (fun _ hk => hk.2) (.int .i64 t935)) (fun _ hk => hk.2) (.slice Ao46 t936.length co46)) (fun _ hk => hk.2) (.slice Ao47 t939.length co47)) (fun _ h_ => h_.1))) hb); replace HO931 := Aside0.mk (Kd.R_below (by (with_reducible skip); exact (Kd.R_mono (Kd.R_far (p := ⟨gb942, 2, none⟩) (Kd.R_far (p := ⟨gb942, 1, none⟩) (Kd.R_far (p := ⟨gb942, 0, none⟩) (Kd.R_types HO931.out BK942.out (by decide)) (fun _ hk => hk.2) (.int .i64 t935)) (fun _ hk => hk.2) (.slice Ao46 t936.length co46)) (fun _ hk => hk.2) (.slice Ao47 t939.length co47)) (fun _ h_ => h_.1))) hb); replace HO934 := Aside0.mk (Kd.R_below (by (with_reducible skip); exact (Kd.R_mono (Kd.R_far (p := ⟨gb942, 2, none⟩) (Kd.R_far (p := ⟨gb942, 1, none⟩) (Kd.R_far (p := ⟨gb942, 0, none⟩) (Kd.R_types HO934.out BK942.out (by decide)) (fun _ hk => hk.2) (.int .i64 t935)) (fun _ hk => hk.2) (.slice Ao46 t936.length co46)) (fun _ hk => hk.2) (.slice Ao47 t939.length co47)) (fun _ h_ => h_.1))) hb); replace HO941 := Aside0.mk (Kd.R_below (by (with_reducible skip); exact (Kd.R_mono (Kd.R_far (p := ⟨gb942, 2, none⟩) (Kd.R_far (p := ⟨gb942, 1, none⟩) (Kd.R_far (p := ⟨gb942, 0, none⟩) (Kd.R_types HO941.out BK942.out (by decide)) (fun _ hk => hk.2) (.int .i64 t935)) (fun _ hk => hk.2) (.slice Ao46 t936.length co46)) (fun _ hk => hk.2) (.slice Ao47 t939.length co47)) (fun _ h_ => h_.1))) hb); have HO945 := Aside0.mk (Kd.R_lower (Kd.R_new' (Kd.R_new' (Kd.R_new' (Kd.R_new' ho0 (Kd.R_lt (by (with_reducible skip); exact (Kd.R_mono (Kd.R_far (p := ⟨gb942, 2, none⟩) (Kd.R_far (p := ⟨gb942, 1, none⟩) (Kd.R_far (p := ⟨gb942, 0, none⟩) (Kd.R_types HO919.out BK942.out (by decide)) (fun _ hk => hk.2) (.int .i64 t935)) (fun _ hk => hk.2) (.slice Ao46 t936.length co46)) (fun _ hk => hk.2) (.slice Ao47 t939.length co47)) (fun _ h_ => h_.1))))) (Kd.R_lt (by (with_reducible skip); exact (Kd.R_mono (Kd.R_far (p := ⟨gb942, 2, none⟩) (Kd.R_far (p := ⟨gb942, 1, none⟩) (Kd.R_far (p := ⟨gb942, 0, none⟩) (Kd.R_types HO925.out BK942.out (by decide)) (fun _ hk => hk.2) (.int .i64 t935)) (fun _ hk => hk.2) (.slice Ao46 t936.length co46)) (fun _ hk => hk.2) (.slice Ao47 t939.length co47)) (fun _ h_ => h_.1))))) (Kd.R_lt (by (with_reducible skip); exact (Kd.R_mono (Kd.R_far (p := ⟨gb942, 2, none⟩) (Kd.R_far (p := ⟨gb942, 1, none⟩) (Kd.R_far (p := ⟨gb942, 0, none⟩) (Kd.R_types HO928.out BK942.out (by decide)) (fun _ hk => hk.2) (.int .i64 t935)) (fun _ hk => hk.2) (.slice Ao46 t936.length co46)) (fun _ hk => hk.2) (.slice Ao47 t939.length co47)) (fun _ h_ => h_.1))))) (Kd.R_lt (by (with_reducible skip); exact (Kd.R_mono (Kd.R_far (p := ⟨gb942, 2, none⟩) (Kd.R_far (p := ⟨gb942, 1, none⟩) (Kd.R_far (p := ⟨gb942, 0, none⟩) (Kd.R_types HO938.out BK942.out (by decide)) (fun _ hk => hk.2) (.int .i64 t935)) (fun _ hk => hk.2) (.slice Ao46 t936.length co46)) (fun _ hk => hk.2) (.slice Ao47 t939.length co47)) (fun _ h_ => h_.1))))) (below_size (by repeat ((with_reducible first | exact HB.out | refine below_set ?_ GE942.out))))); replace HO919 := Aside0.mk (Kd.R_elder' (by (with_reducible skip); exact (Kd.R_mono (Kd.R_far (p := ⟨gb942, 2, none⟩) (Kd.R_far (p := ⟨gb942, 1, none⟩) (Kd.R_far (p := ⟨gb942, 0, none⟩) (Kd.R_types HO919.out BK942.out (by decide)) (fun _ hk => hk.2) (.int .i64 t935)) (fun _ hk => hk.2) (.slice Ao46 t936.length co46)) (fun _ hk => hk.2) (.slice Ao47 t939.length co47)) (fun _ h_ => h_.1))) (Kd.R_base ho0) hb); replace HO925 := Aside0.mk (Kd.R_elder' (by (with_reducible skip); exact (Kd.R_mono (Kd.R_far (p := ⟨gb942, 2, none⟩) (Kd.R_far (p := ⟨gb942, 1, none⟩) (Kd.R_far (p := ⟨gb942, 0, none⟩) (Kd.R_types HO925.out BK942.out (by decide)) (fun _ hk => hk.2) (.int .i64 t935)) (fun _ hk => hk.2) (.slice Ao46 t936.length co46)) (fun _ hk => hk.2) (.slice Ao47 t939.length co47)) (fun _ h_ => h_.1))) (Kd.R_base ho0) hb); replace HO928 := Aside0.mk (Kd.R_elder' (by (with_reducible skip); exact (Kd.R_mono (Kd.R_far (p := ⟨gb942, 2, none⟩) (Kd.R_far (p := ⟨gb942, 1, none⟩) (Kd.R_far (p := ⟨gb942, 0, none⟩) (Kd.R_types HO928.out BK942.out (by decide)) (fun _ hk => hk.2) (.int .i64 t935)) (fun _ hk => hk.2) (.slice Ao46 t936.length co46)) (fun _ hk => hk.2) (.slice Ao47 t939.length co47)) (fun _ h_ => h_.1))) (Kd.R_base ho0) hb); replace HO938 := Aside0.mk (Kd.R_elder' (by (with_reducible skip); exact (Kd.R_mono (Kd.R_far (p := ⟨gb942, 2, none⟩) (Kd.R_far (p := ⟨gb942, 1, none⟩) (Kd.R_far (p := ⟨gb942, 0, none⟩) (Kd.R_types HO938.out BK942.out (by decide)) (fun _ hk => hk.2) (.int .i64 t935)) (fun _ hk => hk.2) (.slice Ao46 t936.length co46)) (fun _ hk => hk.2) (.slice Ao47 t939.length co47)) (fun _ h_ => h_.1))) (Kd.R_base ho0) hb); replace BK913 := Aside0.mk (blk_below (g := gb913) (o := .cells #[.int .i64 a0_0, .slice A0_1 l0_1.length c0_1, .slice A0_2 l0_2.length c0_2] 27 (0, 0)) (by (with_reducible skip); refine blk_far ?_ NB913_942.out _; (with_reducible skip); refine blk_far ?_ NB913_942.out _; (with_reducible skip); refine blk_far ?_ NB913_942.out _; (with_reducible skip); exact BK913.out) hb); replace BK942 := Aside0.mk (blk_below (g := gb942) (o := .cells #[.int .i64 t935, .slice Ao46 t936.length co46, .slice Ao47 t939.length co47] 35 (0, 0)) (by (with_reducible skip); refine blk_put (cs := #[.int .i64 t935, .slice Ao46 t936.length co46, .slice none 0 0]) ?_ 2 _ rfl; (with_reducible skip); refine blk_put (cs := #[.int .i64 t935, .slice none 0 0, .slice none 0 0]) ?_ 1 _ rfl; (with_reducible skip); refine blk_put (cs := #[.int .i64 0, .slice none 0 0, .slice none 0 0]) ?_ 0 _ rfl; (with_reducible skip); exact BK942.out) hb); replace HB := Aside0.mk (below_step (by repeat ((with_reducible first | exact HB.out | refine below_set ?_ GE942.out))) hb); (try clear hb); (try clear ho0)) | ((with_reducible refine gate_callee (f := 21) rfl ?_); refine goesL_ (some 50) rfl rfl Try.func21 (by kernel_rfl) rfl #[.slice A2 l2.length c2] rfl Z.ar ?_; (with_reducible refine (laws_toIntS.calls kj15 _ _ l2 t946 _ ?q1 ?q2 A25.out).mono ?_); (case q1 => exact Z.cc HR2 HB); (case q2 => exact HC2.out); rintro e w49 ⟨v947, rfl, ho0, hb⟩; refine ⟨_, rfl, ?_⟩; replace HO922 := Aside0.mk (Kd.R_below (by (with_reducible skip); exact HO922.out) hb); replace HO931 := Aside0.mk (Kd.R_below (by (with_reducible skip); exact HO931.out) hb); replace HO934 := Aside0.mk (Kd.R_below (by (with_reducible skip); exact HO934.out) hb); replace HO941 := Aside0.mk (Kd.R_below (by (with_reducible skip); exact HO941.out) hb); have HO948 := Aside0.mk (Kd.R_lower (Kd.R_new' (Kd.R_new' (Kd.R_new' (Kd.R_new' (Kd.R_new' ho0 (Kd.R_lt (by (with_reducible skip); exact HO919.out))) (Kd.R_lt (by (with_reducible skip); exact HO925.out))) (Kd.R_lt (by (with_reducible skip); exact HO928.out))) (Kd.R_lt (by (with_reducible skip); exact HO938.out))) (Kd.R_lt (by (with_reducible skip); exact HO945.out))) (below_size (by repeat ((with_reducible exact HB.out))))); replace HO919 := Aside0.mk (Kd.R_elder' (by (with_reducible skip); exact HO919.out) (Kd.R_base ho0) hb); replace HO925 := Aside0.mk (Kd.R_elder' (by (with_reducible skip); exact HO925.out) (Kd.R_base ho0) hb); replace HO928 := Aside0.mk (Kd.R_elder' (by (with_reducible skip); exact HO928.out) (Kd.R_base ho0) hb); replace HO938 := Aside0.mk (Kd.R_elder' (by (with_reducible skip); exact HO938.out) (Kd.R_base ho0) hb); replace HO945 := Aside0.mk (Kd.R_elder' (by (with_reducible skip); exact HO945.out) (Kd.R_base ho0) hb); replace BK913 := Z.bb BK913 hb; replace BK942 := Z.bb BK942 hb; replace HB := Aside0.mk (below_step (by repeat ((with_reducible exact HB.out))) hb); (try clear hb); (try clear ho0)) | ((with_reducible refine gate_callee (f := 22) rfl ?_); refine goesL_ (some 52) rfl rfl Try.func22 (by kernel_rfl) rfl #[.slice A3 l3.length c3] rfl Z.ar ?_; (with_reducible refine (laws_toActS.calls kj15 _ _ l3 t949 _ ?q1 ?q2 A26.out).mono ?_); (case q1 => exact Z.cc HR3 HB); (case q2 => exact HC3.out); rintro e w50 ⟨v950, rfl, ho0, hb⟩; refine ⟨_, rfl, ?_⟩; replace HO919 := Aside0.mk (Kd.R_below (by (with_reducible skip); exact HO919.out) hb); replace HO922 := Aside0.mk (Kd.R_below (by (with_reducible skip); exact HO922.out) hb); replace HO925 := Aside0.mk (Kd.R_below (by (with_reducible skip); exact HO925.out) hb); replace HO928 := Aside0.mk (Kd.R_below (by (with_reducible skip); exact HO928.out) hb); replace HO938 := Aside0.mk (Kd.R_below (by (with_reducible skip); exact HO938.out) hb); replace HO941 := Aside0.mk (Kd.R_below (by (with_reducible skip); exact HO941.out) hb); replace HO945 := Aside0.mk (Kd.R_below (by (with_reducible skip); exact HO945.out) hb); replace HO948 := Aside0.mk (Kd.R_below (by (with_reducible skip); exact HO948.out) hb); have HO951 := Aside0.mk (Kd.R_lower (Kd.R_new' (Kd.R_new' ho0 (Kd.R_lt (by (with_reducible skip); exact HO931.out))) (Kd.R_lt (by (with_reducible skip); exact HO934.out))) (below_size (by repeat ((with_reducible exact HB.out))))); replace HO931 := Aside0.mk (Kd.R_elder' (by (with_reducible skip); exact HO931.out) (Kd.R_base ho0) hb); replace HO934 := Aside0.mk (Kd.R_elder' (by (with_reducible skip); exact HO934.out) (Kd.R_base ho0) hb); replace BK913 := Z.bb BK913 hb; replace BK942 := Z.bb BK942 hb; replace HB := Aside0.mk (below_step (by repeat ((with_reducible exact HB.out))) hb); (try clear hb); (try clear ho0); have hcz51 := Z.c3 BK942.out; obtain ⟨Ao52, co52, eo52⟩ := Kd.R_slice HO945.out; subst eo52; obtain ⟨Ao53, co53, eo53⟩ := Kd.R_slice HO948.out; subst eo53; obtain ⟨Ao54, co54, eo54⟩ := Kd.R_slice HO951.out; subst eo54) | ((with_reducible refine gate_callee (f := 42) rfl ?_); refine goesL_ (some 57) rfl rfl Try.func42 (by kernel_rfl) rfl #[.agg #[.int .i64 t935, .slice Ao46 t936.length co46, .slice Ao47 t939.length co47], .slice Ao52 t943.length co52, .slice Ao53 t946.length co53, .slice Ao54 t949.length co54] rfl Z.ar ?_; (with_reducible refine (impl_SafeActs.calls kj15 t935 _ _ t936 _ _ t939 _ _ t943 _ _ t946 _ _ t949 t952 _ ?q1 ?q2 ?q3 ?q4 ?q5 ?q6 ?q7 ?q8 ?q9 ?q10 A27.out).mono ?_); (case q1 => repeat (exact (Kd.R_reads' HO938.out).2.2)); (case q2 => exact (Kd.R_reads' HO938.out).2.1); (case q3 => repeat (exact (Kd.R_reads' HO941.out).2.2)); (case q4 => exact (Kd.R_reads' HO941.out).2.1); (case q5 => repeat (exact (Kd.R_reads' HO945.out).2.2)); (case q6 => exact (Kd.R_reads' HO945.out).2.1); (case q7 => repeat (exact (Kd.R_reads' HO948.out).2.2)); (case q8 => exact (Kd.R_reads' HO948.out).2.1); (case q9 => repeat (exact (Kd.R_reads' HO951.out).2.2)); (case q10 => exact (Kd.R_reads' HO951.out).2.1); rintro e w55 ⟨v953, rfl, ho0, hb⟩; refine ⟨_, rfl, ?_⟩; replace HO919 := Aside0.mk (Kd.R_below (by (with_reducible skip); exact HO919.out) hb); replace HO922 := Aside0.mk (Kd.R_below (by (with_reducible skip); exact HO922.out) hb); replace HO925 := Aside0.mk (Kd.R_below (by (with_reducible skip); exact HO925.out) hb); replace HO928 := Aside0.mk (Kd.R_below (by (with_reducible skip); exact HO928.out) hb); replace HO938 := Aside0.mk (Kd.R_below (by (with_reducible skip); exact HO938.out) hb); replace HO941 := Aside0.mk (Kd.R_below (by (with_reducible skip); exact HO941.out) hb); replace HO945 := Aside0.mk (Kd.R_below (by (with_reducible skip); exact HO945.out) hb); replace HO948 := Aside0.mk (Kd.R_below (by (with_reducible skip); exact HO948.out) hb); have HO954 := Aside0.mk (Kd.R_lower (Kd.R_new' (Kd.R_new' (Kd.R_new' ho0 (Kd.R_lt (by (with_reducible skip); exact HO931.out))) (Kd.R_lt (by (with_reducible skip); exact HO934.out))) (Kd.R_lt (by (with_reducible skip); exact HO951.out))) (below_size (by repeat ((with_reducible exact HB.out))))); replace HO931 := Aside0.mk (Kd.R_elder' (by (with_reducible skip); exact HO931.out) (Kd.R_base ho0) hb); replace HO934 := Aside0.mk (Kd.R_elder' (by (with_reducible skip); exact HO934.out) (Kd.R_base ho0) hb); replace HO951 := Aside0.mk (Kd.R_elder' (by (with_reducible skip); exact HO951.out) (Kd.R_base ho0) hb); replace BK913 := Z.bb BK913 hb; replace BK942 := Z.bb BK942 hb; replace HB := Aside0.mk (below_step (by repeat ((with_reducible exact HB.out))) hb); (try clear hb); (try clear ho0); obtain ⟨Ao56, co56, eo56⟩ := Kd.R_slice HO954.out; subst eo56; obtain ⟨Ao57, co57, eo57⟩ := Kd.R_slice HO934.out; subst eo57) | ((with_reducible refine gate_callee (f := 26) rfl ?_); refine goesL_ (some 60) rfl rfl Try.func26 (by kernel_rfl) rfl #[.slice Ao56 t952.length co56, .slice Ao57 t932.length co57] rfl Z.ar ?_; (with_reducible refine (laws_eqActS.calls kj15 _ _ t952 _ _ t932 t955 _ ?q1 ?q2 ?q3 ?q4 A28.out).mono ?_); (case q1 => repeat (exact (Kd.R_reads' HO954.out).2.2)); (case q2 => exact (Kd.R_reads' HO954.out).2.1); (case q3 => repeat (exact (Kd.R_reads' HO934.out).2.2)); (case q4 => exact (Kd.R_reads' HO934.out).2.1); rintro e w58 ⟨rfl, hb⟩; refine ⟨_, rfl, ?_⟩; replace HO919 := Aside0.mk (Kd.R_below (by (with_reducible skip); exact HO919.out) hb); replace HO922 := Aside0.mk (Kd.R_below (by (with_reducible skip); exact HO922.out) hb); replace HO925 := Aside0.mk (Kd.R_below (by (with_reducible skip); exact HO925.out) hb); replace HO928 := Aside0.mk (Kd.R_below (by (with_reducible skip); exact HO928.out) hb); replace HO931 := Aside0.mk (Kd.R_below (by (with_reducible skip); exact HO931.out) hb); replace HO934 := Aside0.mk (Kd.R_below (by (with_reducible skip); exact HO934.out) hb); replace HO938 := Aside0.mk (Kd.R_below (by (with_reducible skip); exact HO938.out) hb); replace HO941 := Aside0.mk (Kd.R_below (by (with_reducible skip); exact HO941.out) hb); replace HO945 := Aside0.mk (Kd.R_below (by (with_reducible skip); exact HO945.out) hb); replace HO948 := Aside0.mk (Kd.R_below (by (with_reducible skip); exact HO948.out) hb); replace HO951 := Aside0.mk (Kd.R_below (by (with_reducible skip); exact HO951.out) hb); replace HO954 := Aside0.mk (Kd.R_below (by (with_reducible skip); exact HO954.out) hb); replace BK913 := Z.bb BK913 hb; replace BK942 := Z.bb BK942 hb; replace HB := Aside0.mk (below_step (by repeat ((with_reducible exact HB.out))) hb); (try clear hb)))
         go_cut [] (fun wc => ∃ (kq : Nat), Aside0 (laws_FnExactSafeActs.j4 kq l1 l2 l3 t932 t943 t946 t949 t952 a0_0 l0_1 l0_2 t935 t936 t939 = some r) ∧ Aside0 (kq ≤ kj15) ∧ Aside0 (Kd.R k53 53 wc w.heap.size (fun k_ => some k_ ≠ ((.slice Ao54 t949.length co54) : Value).ownBlock ∧ some k_ ≠ ((.slice Ao56 t952.length co56) : Value).ownBlock) (.slice Ao57 t932.length co57) t932) ∧ Aside0 (Kd.R (Kd.int .i64) 3 wc w.heap.size (fun k_ => some k_ ≠ ((.slice Ao53 t946.length co53) : Value).ownBlock ∧ some k_ ≠ ((.slice Ao46 t936.length co46) : Value).ownBlock) (.slice Ao52 t943.length co52) t943) ∧ Aside0 (Kd.R (Kd.int .i64) 3 wc w.heap.size (fun k_ => some k_ ≠ ((.slice Ao52 t943.length co52) : Value).ownBlock ∧ some k_ ≠ ((.slice Ao46 t936.length co46) : Value).ownBlock) (.slice Ao53 t946.length co53) t946) ∧ Aside0 (Kd.R k53 53 wc w.heap.size (fun k_ => some k_ ≠ ((.slice Ao57 t932.length co57) : Value).ownBlock ∧ some k_ ≠ ((.slice Ao56 t952.length co56) : Value).ownBlock) (.slice Ao54 t949.length co54) t949) ∧ Aside0 (Kd.R k53 53 wc w.heap.size (fun k_ => some k_ ≠ ((.slice Ao57 t932.length co57) : Value).ownBlock ∧ some k_ ≠ ((.slice Ao54 t949.length co54) : Value).ownBlock) (.slice Ao56 t952.length co56) t952) ∧ Aside0 (Kd.R (Kd.int .i64) 3 wc w.heap.size (fun k_ => some k_ ≠ ((.slice Ao52 t943.length co52) : Value).ownBlock ∧ some k_ ≠ ((.slice Ao53 t946.length co53) : Value).ownBlock) (.slice Ao46 t936.length co46) t936) ∧ Aside0 (Kd.R (Kd.slice 86 k86) 83 wc w.heap.size (fun _ => True) (.slice Ao47 t939.length co47) t939) ∧ Aside0 (wc.heap[gb913]? = some (.cells #[.int .i64 a0_0, (.slice A0_1 l0_1.length c0_1), (.slice A0_2 l0_2.length c0_2)] 27 (0, 0))) ∧ Aside0 (wc.heap[gb942]? = some (.cells #[.int .i64 t935, (.slice Ao46 t936.length co46), (.slice Ao47 t939.length co47)] 35 (0, 0))) ∧ Aside0 (Below w.heap.size w wc))
         case first =>
          have H := HC29.out
          clear HC29
          by_cases c59 : t955 = true
          ·subst c59
           rw [if_pos rfl] at H
           have H' := Aside0.mk H
           clear H
           go_wp2
           go_meet
           case rel => exact ⟨_, H', ⟨by have := HJ4.out; have := HJ7.out; have := HJ10.out; have := HJ15.out; omega⟩, ⟨by (with_reducible skip); exact Kd.R_mono HO934.out (fun _ hk => ⟨hk.1.2, hk.2⟩)⟩, ⟨by (with_reducible skip); exact Kd.R_mono HO945.out (fun _ hk => ⟨hk.2, hk.1.2⟩)⟩, ⟨by (with_reducible skip); exact Kd.R_mono HO948.out (fun _ hk => ⟨hk.2, hk.1.2⟩)⟩, ⟨by (with_reducible skip); exact Kd.R_mono HO951.out (fun _ hk => ⟨hk.1.2, hk.2⟩)⟩, ⟨by (with_reducible skip); exact Kd.R_mono HO954.out (fun _ hk => ⟨hk.1.2, hk.2⟩)⟩, ⟨by (with_reducible skip); exact Kd.R_mono HO938.out (fun _ hk => ⟨hk.1.2, hk.2⟩)⟩, ⟨by (with_reducible skip); exact Kd.R_mono HO941.out (fun _ hk => trivial)⟩, ⟨by (with_reducible skip); exact BK913.out⟩, ⟨by (with_reducible skip); exact BK942.out⟩, ⟨by repeat ((with_reducible exact HB.out))⟩⟩
          ·replace c59 := Bool.eq_false_iff.mpr c59
           subst c59
           rw [if_neg (show ¬ (false = true) by decide)] at H
           obtain rfl := Option.some.inj H
           go_wp2
           go_ret
           exact ⟨by rfl, by repeat ((with_reducible exact HB.out))⟩
         case rest =>
          clear HC29
          obtain ⟨kq, HA, HJ28, HO_10, HO_12, HO_13, HO_14, HO_15, HO_943001, HO_943002, BK913, BK942, HB⟩ := hcut
          cases kq with
          | zero => exact absurd HA.out (by simp [laws_FnExactSafeActs.j4])
          | succ kj28 =>
           have H := HA.out
           clear HA
           simp only [laws_FnExactSafeActs.j4] at H
           replace H := Option.bind_eq_some_iff.mp H
           obtain ⟨⟨t956, t957, t960⟩, A600, H⟩ := H
           try dsimp only at H
           have A60 := Aside0.mk A600
           clear A600
           replace H := Option.bind_eq_some_iff.mp H
           obtain ⟨t963, A610, H⟩ := H
           have A61 := Aside0.mk A610
           clear A610
           have HC62 := Aside0.mk H
           clear H
           try go_wp2
           replace HO_10 := Aside0.mk (Kd.R_drew HO_10.out)
           replace HO_12 := Aside0.mk (Kd.R_drew HO_12.out)
           replace HO_13 := Aside0.mk (Kd.R_drew HO_13.out)
           replace HO_14 := Aside0.mk (Kd.R_drew HO_14.out)
           replace HO_15 := Aside0.mk (Kd.R_drew HO_15.out)
           replace HO_943001 := Aside0.mk (Kd.R_drew HO_943001.out)
           replace HO_943002 := Aside0.mk (Kd.R_drew HO_943002.out)
           replace BK913 := Aside0.mk (blk_drew BK913.out)
           replace BK942 := Aside0.mk (blk_drew BK942.out)
           replace HB := Aside0.mk (below_drew1 HB.out)
           refine start_ (n := 5) (S := fun w' => w'.cell? ⟨gb942, 0, none⟩ = some (.int .i64 t935) ∧ w'.cell? ⟨gb942, 1, none⟩ = some (.slice Ao46 t936.length co46) ∧ w'.cell? ⟨gb942, 2, none⟩ = some (.slice Ao47 t939.length co47) ∧ w'.cell? ⟨gb913, 0, none⟩ = some (.int .i64 a0_0) ∧ w'.cell? ⟨gb913, 1, none⟩ = some (.slice A0_1 l0_1.length c0_1) ∧ w'.cell? ⟨gb913, 2, none⟩ = some (.slice A0_2 l0_2.length c0_2)) (ds := []) #[false, false, false, false, false] (by kernel_rfl) rfl rfl ⟨(blk_cell BK942.out 0).trans rfl, (blk_cell BK942.out 1).trans rfl, (blk_cell BK942.out 2).trans rfl, (blk_cell BK913.out 0).trans rfl, (blk_cell BK913.out 1).trans rfl, (blk_cell BK913.out 2).trans rfl⟩ (fun hHeld => ?_)
           generalize wc.drew = w63 at HO_10 HO_12 HO_13 HO_14 HO_15 HO_943001 HO_943002 BK913 BK942 HB hHeld ⊢
           refine take_ (i := 0) (N := some 62) (v := ?_) (a' := ?_) #[true, false, false, false, false] rfl rfl (by kernel_rfl) (fun _ _ _ h => h) (Or.inl ⟨by rfl, ?_⟩) hHeld ?_ ?_
           rotate_left
           ·rintro w' ⟨s0, s1, s2, s3, s4, s5⟩
            go_simp
            with_reducible rfl
           rotate_left
           ·simp only [Act.put, List.setIfInBounds_toArray, List.set_cons_zero, List.set_cons_succ, i64_w, i32_w]
            rfl
           refine take_ (i := 1) (N := some 63) (v := ?_) (a' := ?_) #[true, true, false, false, false] rfl rfl (by kernel_rfl) (fun _ _ _ h => h) (Or.inl ⟨by rfl, ?_⟩) hHeld ?_ ?_
           rotate_left
           ·rintro w' ⟨s0, s1, s2, s3, s4, s5⟩
            go_simp
            with_reducible rfl
           rotate_left
           ·simp only [Act.put, List.setIfInBounds_toArray, List.set_cons_zero, List.set_cons_succ, i64_w, i32_w]
            rfl
           refine one_ (i := 2) (N := some 64) (Z.mb 5 7) rfl rfl (by kernel_rfl) (by decide) (fun K hK => ?_)
           refine goes_ Try.func20 (by kernel_rfl) rfl #[.agg #[.int .i64 a0_0, .slice A0_1 l0_1.length c0_1, .slice A0_2 l0_2.length c0_2]] (by rfl) rfl rfl Z.ar ?_
           with_reducible refine (laws_toCharter.calls kj28 a0_0 _ _ l0_1 _ _ l0_2 t956 t957 t960 _ ?q1 ?q2 ?q3 ?q4 A60.out).mono ?_
           (case q1 => exact Z.cc HR0_1 HB)
           (case q2 => exact HC0_1.out)
           (case q3 => exact Z.cc HR0_2 HB)
           (case q4 => exact HC0_2.out)
           rintro e w64 ⟨v958, v961, rfl, ho0, ho1, hb⟩
           refine ⟨_, rfl, ?_⟩
           replace HO_10 := Aside0.mk (Kd.R_below (by (with_reducible skip); exact HO_10.out) hb)
           replace HO_14 := Aside0.mk (Kd.R_below (by (with_reducible skip); exact HO_14.out) hb)
           replace HO_15 := Aside0.mk (Kd.R_below (by (with_reducible skip); exact HO_15.out) hb)
           have HO959 := Aside0.mk (Kd.R_lower (Kd.R_new' (Kd.R_new' (Kd.R_new' ho0 (Kd.R_lt (by (with_reducible skip); exact HO_12.out))) (Kd.R_lt (by (with_reducible skip); exact HO_13.out))) (Kd.R_lt (by (with_reducible skip); exact HO_943001.out))) (below_size (by repeat ((with_reducible exact HB.out)))))
           replace HO_12 := Aside0.mk (Kd.R_elder' (by (with_reducible skip); exact HO_12.out) (Kd.R_base ho0) hb)
           replace HO_13 := Aside0.mk (Kd.R_elder' (by (with_reducible skip); exact HO_13.out) (Kd.R_base ho0) hb)
           replace HO_943001 := Aside0.mk (Kd.R_elder' (by (with_reducible skip); exact HO_943001.out) (Kd.R_base ho0) hb)
           have HO962 := Aside0.mk (Kd.R_lower (Kd.R_new' ho1 (Kd.R_lt (by (with_reducible skip); exact HO_943002.out))) (below_size (by repeat ((with_reducible exact HB.out)))))
           replace HO_943002 := Aside0.mk (Kd.R_elder' (by (with_reducible skip); exact HO_943002.out) (Kd.R_base ho1) hb)
           replace BK913 := Z.bb BK913 hb
           replace BK942 := Z.bb BK942 hb
           replace HB := Aside0.mk (below_step (by repeat ((with_reducible exact HB.out))) hb)
           (try clear hb)
           (try clear ho0)
           (try clear ho1)
           obtain ⟨Ao65, co65, eo65⟩ := Kd.R_slice HO959.out
           (subst eo65)
           obtain ⟨Ao66, co66, eo66⟩ := Kd.R_slice HO962.out
           (subst eo66)
           refine hK.out _ _ ⟨(blk_cell BK942.out 0).trans rfl, (blk_cell BK942.out 1).trans rfl, (blk_cell BK942.out 2).trans rfl, (blk_cell BK913.out 0).trans rfl, (blk_cell BK913.out 1).trans rfl, (blk_cell BK913.out 2).trans rfl⟩ (fun hHeld => ?_)
           clear hK K
           refine Z.nm ?_
           refine one_ (i := 3) (N := some 65) (Z.mb 5 15) rfl rfl (by kernel_rfl) (by decide) (fun K hK => ?_)
           refine goes_ Try.func24 (by kernel_rfl) rfl #[.agg #[.int .i64 t935, .slice Ao46 t936.length co46, .slice Ao47 t939.length co47], .agg #[.int .i64 t956, .slice Ao65 t957.length co65, .slice Ao66 t960.length co66]] (by rfl) rfl rfl Z.ar ?_
           with_reducible refine (laws_eqCharter.calls kj28 t935 _ _ t936 _ _ t939 t956 _ _ t957 _ _ t960 t963 _ ?q1 ?q2 ?q3 ?q4 ?q5 ?q6 ?q7 ?q8 A61.out).mono ?_
           (case q1 => repeat (exact (Kd.R_reads' HO_943001.out).2.2))
           (case q2 => exact (Kd.R_reads' HO_943001.out).2.1)
           (case q3 => repeat (exact (Kd.R_reads' HO_943002.out).2.2))
           (case q4 => exact (Kd.R_reads' HO_943002.out).2.1)
           (case q5 => repeat (exact (Kd.R_reads' HO959.out).2.2))
           (case q6 => exact (Kd.R_reads' HO959.out).2.1)
           (case q7 => repeat (exact (Kd.R_reads' HO962.out).2.2))
           (case q8 => exact (Kd.R_reads' HO962.out).2.1)
           rintro e w67 ⟨rfl, hb⟩
           refine ⟨_, rfl, ?_⟩
           replace HO_10 := Aside0.mk (Kd.R_below (by (with_reducible skip); exact HO_10.out) hb)
           replace HO_12 := Aside0.mk (Kd.R_below (by (with_reducible skip); exact HO_12.out) hb)
           replace HO_13 := Aside0.mk (Kd.R_below (by (with_reducible skip); exact HO_13.out) hb)
           replace HO_14 := Aside0.mk (Kd.R_below (by (with_reducible skip); exact HO_14.out) hb)
           replace HO_15 := Aside0.mk (Kd.R_below (by (with_reducible skip); exact HO_15.out) hb)
           replace HO_943001 := Aside0.mk (Kd.R_below (by (with_reducible skip); exact HO_943001.out) hb)
           replace HO_943002 := Aside0.mk (Kd.R_below (by (with_reducible skip); exact HO_943002.out) hb)
           replace HO959 := Aside0.mk (Kd.R_below (by (with_reducible skip); exact HO959.out) hb)
           replace HO962 := Aside0.mk (Kd.R_below (by (with_reducible skip); exact HO962.out) hb)
           replace BK913 := Z.bb BK913 hb
           replace BK942 := Z.bb BK942 hb
           replace HB := Aside0.mk (below_step (by repeat ((with_reducible exact HB.out))) hb)
           (try clear hb)
           refine hK.out _ _ ⟨(blk_cell BK942.out 0).trans rfl, (blk_cell BK942.out 1).trans rfl, (blk_cell BK942.out 2).trans rfl, (blk_cell BK913.out 0).trans rfl, (blk_cell BK913.out 1).trans rfl, (blk_cell BK913.out 2).trans rfl⟩ (fun hHeld => ?_)
           clear hK K
           refine Z.nm ?_
           refine pure_ (i := 4) (N := some 66) (v := ?_) (a' := ?_) #[true, true, true, true, true] rfl rfl (by kernel_rfl) (fun _ _ _ h => h) (Or.inl ⟨by rfl, ?_⟩) ?_ ?_
           rotate_left
           ·intro w'
            go_simp
            with_reducible rfl
           rotate_left
           ·simp only [Act.put, List.setIfInBounds_toArray, List.set_cons_zero, List.set_cons_succ, i64_w, i32_w]
            rfl
           refine done_ (by kernel_rfl) ?_
           go_upto_if 66 with (fail)
           go_cut [] (fun wc => ∃ (kq : Nat), Aside0 (laws_FnExactSafeActs.j5 kq l1 l2 l3 t932 t943 t946 t949 t952 a0_0 l0_1 l0_2 t935 t936 t939 = some r) ∧ Aside0 (kq ≤ kj28) ∧ Aside0 (Kd.R k53 53 wc w.heap.size (fun k_ => some k_ ≠ ((.slice Ao54 t949.length co54) : Value).ownBlock ∧ some k_ ≠ ((.slice Ao56 t952.length co56) : Value).ownBlock) (.slice Ao57 t932.length co57) t932) ∧ Aside0 (Kd.R (Kd.int .i64) 3 wc w.heap.size (fun k_ => some k_ ≠ ((.slice Ao53 t946.length co53) : Value).ownBlock ∧ some k_ ≠ ((.slice Ao46 t936.length co46) : Value).ownBlock) (.slice Ao52 t943.length co52) t943) ∧ Aside0 (Kd.R (Kd.int .i64) 3 wc w.heap.size (fun k_ => some k_ ≠ ((.slice Ao52 t943.length co52) : Value).ownBlock ∧ some k_ ≠ ((.slice Ao46 t936.length co46) : Value).ownBlock) (.slice Ao53 t946.length co53) t946) ∧ Aside0 (Kd.R k53 53 wc w.heap.size (fun k_ => some k_ ≠ ((.slice Ao57 t932.length co57) : Value).ownBlock ∧ some k_ ≠ ((.slice Ao56 t952.length co56) : Value).ownBlock) (.slice Ao54 t949.length co54) t949) ∧ Aside0 (Kd.R k53 53 wc w.heap.size (fun k_ => some k_ ≠ ((.slice Ao57 t932.length co57) : Value).ownBlock ∧ some k_ ≠ ((.slice Ao54 t949.length co54) : Value).ownBlock) (.slice Ao56 t952.length co56) t952) ∧ Aside0 (Kd.R (Kd.int .i64) 3 wc w.heap.size (fun k_ => some k_ ≠ ((.slice Ao52 t943.length co52) : Value).ownBlock ∧ some k_ ≠ ((.slice Ao53 t946.length co53) : Value).ownBlock) (.slice Ao46 t936.length co46) t936) ∧ Aside0 (Kd.R (Kd.slice 86 k86) 83 wc w.heap.size (fun _ => True) (.slice Ao47 t939.length co47) t939) ∧ Aside0 (wc.heap[gb913]? = some (.cells #[.int .i64 a0_0, (.slice A0_1 l0_1.length c0_1), (.slice A0_2 l0_2.length c0_2)] 27 (0, 0))) ∧ Aside0 (wc.heap[gb942]? = some (.cells #[.int .i64 t935, (.slice Ao46 t936.length co46), (.slice Ao47 t939.length co47)] 35 (0, 0))) ∧ Aside0 (Below w.heap.size w wc))
           case first =>
            have H := HC62.out
            clear HC62
            by_cases c68 : t963 = true
            ·subst c68
             rw [if_pos rfl] at H
             have H' := Aside0.mk H
             clear H
             go_wp2
             go_meet
             case rel => exact ⟨_, H', ⟨by have := HJ4.out; have := HJ7.out; have := HJ10.out; have := HJ15.out; have := HJ28.out; omega⟩, ⟨by (with_reducible skip); exact HO_10.out⟩, ⟨by (with_reducible skip); exact Kd.R_mono HO_12.out (fun _ hk => ⟨hk.1.1, hk.1.2⟩)⟩, ⟨by (with_reducible skip); exact Kd.R_mono HO_13.out (fun _ hk => ⟨hk.1.1, hk.1.2⟩)⟩, ⟨by (with_reducible skip); exact HO_14.out⟩, ⟨by (with_reducible skip); exact HO_15.out⟩, ⟨by (with_reducible skip); exact Kd.R_mono HO_943001.out (fun _ hk => ⟨hk.1.1, hk.1.2⟩)⟩, ⟨by (with_reducible skip); exact Kd.R_mono HO_943002.out (fun _ hk => trivial)⟩, ⟨by (with_reducible skip); exact BK913.out⟩, ⟨by (with_reducible skip); exact BK942.out⟩, ⟨by repeat ((with_reducible exact HB.out))⟩⟩
            ·replace c68 := Bool.eq_false_iff.mpr c68
             subst c68
             rw [if_neg (show ¬ (false = true) by decide)] at H
             obtain rfl := Option.some.inj H
             go_wp2
             go_ret
             exact ⟨by rfl, by repeat ((with_reducible exact HB.out))⟩
           case rest =>
            clear HC62
            obtain ⟨kq, HA, HJ61, HO_10, HO_12, HO_13, HO_14, HO_15, HO_943001, HO_943002, BK913, BK942, HB⟩ := hcut
            cases kq with
            | zero => exact absurd HA.out (by simp [laws_FnExactSafeActs.j5])
            | succ kj61 =>
             have H := HA.out
             clear HA
             simp only [laws_FnExactSafeActs.j5] at H
             replace H := Option.bind_eq_some_iff.mp H
             obtain ⟨t964, A690, H⟩ := H
             have A69 := Aside0.mk A690
             clear A690
             replace H := Option.bind_eq_some_iff.mp H
             obtain ⟨t967, A700, H⟩ := H
             have A70 := Aside0.mk A700
             clear A700
             have HC71 := Aside0.mk H
             clear H
             go_upto_if 71 with (first | ((with_reducible refine gate_callee (f := 21) rfl ?_); refine goesL_ (some 69) rfl rfl Try.func21 (by kernel_rfl) rfl #[.slice A1 l1.length c1] rfl Z.ar ?_; (with_reducible refine (laws_toIntS.calls kj61 _ _ l1 t964 _ ?q1 ?q2 A69.out).mono ?_); (case q1 => exact Z.cc HR1 HB); (case q2 => exact HC1.out); rintro e w72 ⟨v965, rfl, ho0, hb⟩; refine ⟨_, rfl, ?_⟩; replace HO_10 := Aside0.mk (Kd.R_below (by (with_reducible skip); exact HO_10.out) hb); replace HO_14 := Aside0.mk (Kd.R_below (by (with_reducible skip); exact HO_14.out) hb); replace HO_15 := Aside0.mk (Kd.R_below (by (with_reducible skip); exact HO_15.out) hb); replace HO_943002 := Aside0.mk (Kd.R_below (by (with_reducible skip); exact HO_943002.out) hb); have HO966 := Aside0.mk (Kd.R_lower (Kd.R_new' (Kd.R_new' (Kd.R_new' ho0 (Kd.R_lt (by (with_reducible skip); exact HO_12.out))) (Kd.R_lt (by (with_reducible skip); exact HO_13.out))) (Kd.R_lt (by (with_reducible skip); exact HO_943001.out))) (below_size (by repeat ((with_reducible exact HB.out))))); replace HO_12 := Aside0.mk (Kd.R_elder' (by (with_reducible skip); exact HO_12.out) (Kd.R_base ho0) hb); replace HO_13 := Aside0.mk (Kd.R_elder' (by (with_reducible skip); exact HO_13.out) (Kd.R_base ho0) hb); replace HO_943001 := Aside0.mk (Kd.R_elder' (by (with_reducible skip); exact HO_943001.out) (Kd.R_base ho0) hb); replace BK913 := Z.bb BK913 hb; replace BK942 := Z.bb BK942 hb; replace HB := Aside0.mk (below_step (by repeat ((with_reducible exact HB.out))) hb); (try clear hb); (try clear ho0); obtain ⟨Ao73, co73, eo73⟩ := Kd.R_slice HO966.out; subst eo73) | ((with_reducible refine gate_callee (f := 25) rfl ?_); refine goesL_ (some 70) rfl rfl Try.func25 (by kernel_rfl) rfl #[.slice Ao52 t943.length co52, .slice Ao73 t964.length co73] rfl Z.ar ?_; (with_reducible refine (laws_eqIntS.calls kj61 _ _ t943 _ _ t964 t967 _ ?q1 ?q2 ?q3 ?q4 A70.out).mono ?_); (case q1 => repeat (exact (Kd.R_reads' HO_12.out).2.2)); (case q2 => exact (Kd.R_reads' HO_12.out).2.1); (case q3 => repeat (exact (Kd.R_reads' HO966.out).2.2)); (case q4 => exact (Kd.R_reads' HO966.out).2.1); rintro e w' ⟨rfl, ⟨nd, rfl⟩⟩; refine ⟨_, rfl, ?_⟩))
             go_cut [] (fun wc => ∃ (kq : Nat), Aside0 (laws_FnExactSafeActs.j6 kq l1 l2 l3 t932 t943 t946 t949 t952 a0_0 l0_1 l0_2 t935 t936 t939 = some r) ∧ Aside0 (kq ≤ kj61) ∧ Aside0 (Kd.R k53 53 wc w.heap.size (fun k_ => some k_ ≠ ((.slice Ao54 t949.length co54) : Value).ownBlock ∧ some k_ ≠ ((.slice Ao56 t952.length co56) : Value).ownBlock) (.slice Ao57 t932.length co57) t932) ∧ Aside0 (Kd.R (Kd.int .i64) 3 wc w.heap.size (fun k_ => some k_ ≠ ((.slice Ao53 t946.length co53) : Value).ownBlock ∧ some k_ ≠ ((.slice Ao46 t936.length co46) : Value).ownBlock) (.slice Ao52 t943.length co52) t943) ∧ Aside0 (Kd.R (Kd.int .i64) 3 wc w.heap.size (fun k_ => some k_ ≠ ((.slice Ao52 t943.length co52) : Value).ownBlock ∧ some k_ ≠ ((.slice Ao46 t936.length co46) : Value).ownBlock) (.slice Ao53 t946.length co53) t946) ∧ Aside0 (Kd.R k53 53 wc w.heap.size (fun k_ => some k_ ≠ ((.slice Ao57 t932.length co57) : Value).ownBlock ∧ some k_ ≠ ((.slice Ao56 t952.length co56) : Value).ownBlock) (.slice Ao54 t949.length co54) t949) ∧ Aside0 (Kd.R k53 53 wc w.heap.size (fun k_ => some k_ ≠ ((.slice Ao57 t932.length co57) : Value).ownBlock ∧ some k_ ≠ ((.slice Ao54 t949.length co54) : Value).ownBlock) (.slice Ao56 t952.length co56) t952) ∧ Aside0 (Kd.R (Kd.int .i64) 3 wc w.heap.size (fun k_ => some k_ ≠ ((.slice Ao52 t943.length co52) : Value).ownBlock ∧ some k_ ≠ ((.slice Ao53 t946.length co53) : Value).ownBlock) (.slice Ao46 t936.length co46) t936) ∧ Aside0 (Kd.R (Kd.slice 86 k86) 83 wc w.heap.size (fun _ => True) (.slice Ao47 t939.length co47) t939) ∧ Aside0 (wc.heap[gb913]? = some (.cells #[.int .i64 a0_0, (.slice A0_1 l0_1.length c0_1), (.slice A0_2 l0_2.length c0_2)] 27 (0, 0))) ∧ Aside0 (wc.heap[gb942]? = some (.cells #[.int .i64 t935, (.slice Ao46 t936.length co46), (.slice Ao47 t939.length co47)] 35 (0, 0))) ∧ Aside0 (Below w.heap.size w wc))
             case first =>
              have H := HC71.out
              clear HC71
              by_cases c74 : t967 = true
              ·subst c74
               rw [if_pos rfl] at H
               have H' := Aside0.mk H
               clear H
               go_wp2
               go_meet
               case rel => exact ⟨_, H', ⟨by have := HJ4.out; have := HJ7.out; have := HJ10.out; have := HJ15.out; have := HJ28.out; have := HJ61.out; omega⟩, ⟨by (with_reducible repeat (apply Kd.R_drewN)); exact HO_10.out⟩, ⟨by (with_reducible repeat (apply Kd.R_drewN)); exact Kd.R_mono HO_12.out (fun _ hk => ⟨hk.1.1, hk.1.2⟩)⟩, ⟨by (with_reducible repeat (apply Kd.R_drewN)); exact Kd.R_mono HO_13.out (fun _ hk => ⟨hk.1.1, hk.1.2⟩)⟩, ⟨by (with_reducible repeat (apply Kd.R_drewN)); exact HO_14.out⟩, ⟨by (with_reducible repeat (apply Kd.R_drewN)); exact HO_15.out⟩, ⟨by (with_reducible repeat (apply Kd.R_drewN)); exact Kd.R_mono HO_943001.out (fun _ hk => ⟨hk.1.1, hk.1.2⟩)⟩, ⟨by (with_reducible repeat (apply Kd.R_drewN)); exact HO_943002.out⟩, ⟨by (with_reducible repeat (refine blk_drewN ?_ _)); exact BK913.out⟩, ⟨by (with_reducible repeat (refine blk_drewN ?_ _)); exact BK942.out⟩, ⟨by repeat ((with_reducible first | exact HB.out | apply pw_below_drewN))⟩⟩
              ·replace c74 := Bool.eq_false_iff.mpr c74
               subst c74
               rw [if_neg (show ¬ (false = true) by decide)] at H
               obtain rfl := Option.some.inj H
               go_wp2
               go_ret
               exact ⟨by rfl, by repeat ((with_reducible first | exact HB.out | apply pw_below_drewN))⟩
             case rest =>
              clear HC71
              obtain ⟨kq, HA, HJ70, HO_10, HO_12, HO_13, HO_14, HO_15, HO_943001, HO_943002, BK913, BK942, HB⟩ := hcut
              cases kq with
              | zero => exact absurd HA.out (by simp [laws_FnExactSafeActs.j6])
              | succ kj70 =>
               have H := HA.out
               clear HA
               simp only [laws_FnExactSafeActs.j6] at H
               replace H := Option.bind_eq_some_iff.mp H
               obtain ⟨t968, A750, H⟩ := H
               have A75 := Aside0.mk A750
               clear A750
               replace H := Option.bind_eq_some_iff.mp H
               obtain ⟨t971, A760, H⟩ := H
               have A76 := Aside0.mk A760
               clear A760
               have HC77 := Aside0.mk H
               clear H
               go_upto_if 76 with (first | ((with_reducible refine gate_callee (f := 21) rfl ?_); refine goesL_ (some 74) rfl rfl Try.func21 (by kernel_rfl) rfl #[.slice A2 l2.length c2] rfl Z.ar ?_; (with_reducible refine (laws_toIntS.calls kj70 _ _ l2 t968 _ ?q1 ?q2 A75.out).mono ?_); (case q1 => exact Z.cc HR2 HB); (case q2 => exact HC2.out); rintro e w78 ⟨v969, rfl, ho0, hb⟩; refine ⟨_, rfl, ?_⟩; replace HO_10 := Aside0.mk (Kd.R_below (by (with_reducible skip); exact HO_10.out) hb); replace HO_14 := Aside0.mk (Kd.R_below (by (with_reducible skip); exact HO_14.out) hb); replace HO_15 := Aside0.mk (Kd.R_below (by (with_reducible skip); exact HO_15.out) hb); replace HO_943002 := Aside0.mk (Kd.R_below (by (with_reducible skip); exact HO_943002.out) hb); have HO970 := Aside0.mk (Kd.R_lower (Kd.R_new' (Kd.R_new' (Kd.R_new' ho0 (Kd.R_lt (by (with_reducible skip); exact HO_12.out))) (Kd.R_lt (by (with_reducible skip); exact HO_13.out))) (Kd.R_lt (by (with_reducible skip); exact HO_943001.out))) (below_size (by repeat ((with_reducible exact HB.out))))); replace HO_12 := Aside0.mk (Kd.R_elder' (by (with_reducible skip); exact HO_12.out) (Kd.R_base ho0) hb); replace HO_13 := Aside0.mk (Kd.R_elder' (by (with_reducible skip); exact HO_13.out) (Kd.R_base ho0) hb); replace HO_943001 := Aside0.mk (Kd.R_elder' (by (with_reducible skip); exact HO_943001.out) (Kd.R_base ho0) hb); replace BK913 := Z.bb BK913 hb; replace BK942 := Z.bb BK942 hb; replace HB := Aside0.mk (below_step (by repeat ((with_reducible exact HB.out))) hb); (try clear hb); (try clear ho0); obtain ⟨Ao79, co79, eo79⟩ := Kd.R_slice HO970.out; subst eo79) | ((with_reducible refine gate_callee (f := 25) rfl ?_); refine goesL_ (some 75) rfl rfl Try.func25 (by kernel_rfl) rfl #[.slice Ao53 t946.length co53, .slice Ao79 t968.length co79] rfl Z.ar ?_; (with_reducible refine (laws_eqIntS.calls kj70 _ _ t946 _ _ t968 t971 _ ?q1 ?q2 ?q3 ?q4 A76.out).mono ?_); (case q1 => repeat (exact (Kd.R_reads' HO_13.out).2.2)); (case q2 => exact (Kd.R_reads' HO_13.out).2.1); (case q3 => repeat (exact (Kd.R_reads' HO970.out).2.2)); (case q4 => exact (Kd.R_reads' HO970.out).2.1); rintro e w' ⟨rfl, ⟨nd, rfl⟩⟩; refine ⟨_, rfl, ?_⟩))
               go_cut [] (fun wc => ∃ (kq : Nat), Aside0 (laws_FnExactSafeActs.j7 kq l1 l2 l3 t932 t943 t946 t949 t952 a0_0 l0_1 l0_2 t935 t936 t939 = some r) ∧ Aside0 (kq ≤ kj70) ∧ Aside0 (Kd.R k53 53 wc w.heap.size (fun k_ => some k_ ≠ ((.slice Ao54 t949.length co54) : Value).ownBlock ∧ some k_ ≠ ((.slice Ao56 t952.length co56) : Value).ownBlock) (.slice Ao57 t932.length co57) t932) ∧ Aside0 (Kd.R (Kd.int .i64) 3 wc w.heap.size (fun k_ => some k_ ≠ ((.slice Ao53 t946.length co53) : Value).ownBlock ∧ some k_ ≠ ((.slice Ao46 t936.length co46) : Value).ownBlock) (.slice Ao52 t943.length co52) t943) ∧ Aside0 (Kd.R (Kd.int .i64) 3 wc w.heap.size (fun k_ => some k_ ≠ ((.slice Ao52 t943.length co52) : Value).ownBlock ∧ some k_ ≠ ((.slice Ao46 t936.length co46) : Value).ownBlock) (.slice Ao53 t946.length co53) t946) ∧ Aside0 (Kd.R k53 53 wc w.heap.size (fun k_ => some k_ ≠ ((.slice Ao57 t932.length co57) : Value).ownBlock ∧ some k_ ≠ ((.slice Ao56 t952.length co56) : Value).ownBlock) (.slice Ao54 t949.length co54) t949) ∧ Aside0 (Kd.R k53 53 wc w.heap.size (fun k_ => some k_ ≠ ((.slice Ao57 t932.length co57) : Value).ownBlock ∧ some k_ ≠ ((.slice Ao54 t949.length co54) : Value).ownBlock) (.slice Ao56 t952.length co56) t952) ∧ Aside0 (Kd.R (Kd.int .i64) 3 wc w.heap.size (fun k_ => some k_ ≠ ((.slice Ao52 t943.length co52) : Value).ownBlock ∧ some k_ ≠ ((.slice Ao53 t946.length co53) : Value).ownBlock) (.slice Ao46 t936.length co46) t936) ∧ Aside0 (Kd.R (Kd.slice 86 k86) 83 wc w.heap.size (fun _ => True) (.slice Ao47 t939.length co47) t939) ∧ Aside0 (wc.heap[gb913]? = some (.cells #[.int .i64 a0_0, (.slice A0_1 l0_1.length c0_1), (.slice A0_2 l0_2.length c0_2)] 27 (0, 0))) ∧ Aside0 (wc.heap[gb942]? = some (.cells #[.int .i64 t935, (.slice Ao46 t936.length co46), (.slice Ao47 t939.length co47)] 35 (0, 0))) ∧ Aside0 (Below w.heap.size w wc))
               case first =>
                have H := HC77.out
                clear HC77
                by_cases c80 : t971 = true
                ·subst c80
                 rw [if_pos rfl] at H
                 have H' := Aside0.mk H
                 clear H
                 go_wp2
                 go_meet
                 case rel => exact ⟨_, H', ⟨by have := HJ4.out; have := HJ7.out; have := HJ10.out; have := HJ15.out; have := HJ28.out; have := HJ61.out; have := HJ70.out; omega⟩, ⟨by (with_reducible repeat (apply Kd.R_drewN)); exact HO_10.out⟩, ⟨by (with_reducible repeat (apply Kd.R_drewN)); exact Kd.R_mono HO_12.out (fun _ hk => ⟨hk.1.1, hk.1.2⟩)⟩, ⟨by (with_reducible repeat (apply Kd.R_drewN)); exact Kd.R_mono HO_13.out (fun _ hk => ⟨hk.1.1, hk.1.2⟩)⟩, ⟨by (with_reducible repeat (apply Kd.R_drewN)); exact HO_14.out⟩, ⟨by (with_reducible repeat (apply Kd.R_drewN)); exact HO_15.out⟩, ⟨by (with_reducible repeat (apply Kd.R_drewN)); exact Kd.R_mono HO_943001.out (fun _ hk => ⟨hk.1.1, hk.1.2⟩)⟩, ⟨by (with_reducible repeat (apply Kd.R_drewN)); exact HO_943002.out⟩, ⟨by (with_reducible repeat (refine blk_drewN ?_ _)); exact BK913.out⟩, ⟨by (with_reducible repeat (refine blk_drewN ?_ _)); exact BK942.out⟩, ⟨by repeat ((with_reducible first | exact HB.out | apply pw_below_drewN))⟩⟩
                ·replace c80 := Bool.eq_false_iff.mpr c80
                 subst c80
                 rw [if_neg (show ¬ (false = true) by decide)] at H
                 obtain rfl := Option.some.inj H
                 go_wp2
                 go_ret
                 exact ⟨by rfl, by repeat ((with_reducible first | exact HB.out | apply pw_below_drewN))⟩
               case rest =>
                clear HC77
                obtain ⟨kq, HA, HJ76, HO_10, HO_12, HO_13, HO_14, HO_15, HO_943001, HO_943002, BK913, BK942, HB⟩ := hcut
                cases kq with
                | zero => exact absurd HA.out (by simp [laws_FnExactSafeActs.j7])
                | succ kj76 =>
                 have H := HA.out
                 clear HA
                 simp only [laws_FnExactSafeActs.j7] at H
                 replace H := Option.bind_eq_some_iff.mp H
                 obtain ⟨t972, A810, H⟩ := H
                 have A81 := Aside0.mk A810
                 clear A810
                 replace H := Option.bind_eq_some_iff.mp H
                 obtain ⟨t975, A820, H⟩ := H
                 have A82 := Aside0.mk A820
                 clear A820
                 have HC83 := Aside0.mk H
                 clear H
                 go_upto_if 81 with (first | ((with_reducible refine gate_callee (f := 22) rfl ?_); refine goesL_ (some 79) rfl rfl Try.func22 (by kernel_rfl) rfl #[.slice A3 l3.length c3] rfl Z.ar ?_; (with_reducible refine (laws_toActS.calls kj76 _ _ l3 t972 _ ?q1 ?q2 A81.out).mono ?_); (case q1 => exact Z.cc HR3 HB); (case q2 => exact HC3.out); rintro e w84 ⟨v973, rfl, ho0, hb⟩; refine ⟨_, rfl, ?_⟩; replace HO_12 := Aside0.mk (Kd.R_below (by (with_reducible skip); exact HO_12.out) hb); replace HO_13 := Aside0.mk (Kd.R_below (by (with_reducible skip); exact HO_13.out) hb); replace HO_943001 := Aside0.mk (Kd.R_below (by (with_reducible skip); exact HO_943001.out) hb); replace HO_943002 := Aside0.mk (Kd.R_below (by (with_reducible skip); exact HO_943002.out) hb); have HO974 := Aside0.mk (Kd.R_lower (Kd.R_new' (Kd.R_new' (Kd.R_new' ho0 (Kd.R_lt (by (with_reducible skip); exact HO_10.out))) (Kd.R_lt (by (with_reducible skip); exact HO_14.out))) (Kd.R_lt (by (with_reducible skip); exact HO_15.out))) (below_size (by repeat ((with_reducible exact HB.out))))); replace HO_10 := Aside0.mk (Kd.R_elder' (by (with_reducible skip); exact HO_10.out) (Kd.R_base ho0) hb); replace HO_14 := Aside0.mk (Kd.R_elder' (by (with_reducible skip); exact HO_14.out) (Kd.R_base ho0) hb); replace HO_15 := Aside0.mk (Kd.R_elder' (by (with_reducible skip); exact HO_15.out) (Kd.R_base ho0) hb); replace BK913 := Z.bb BK913 hb; replace BK942 := Z.bb BK942 hb; replace HB := Aside0.mk (below_step (by repeat ((with_reducible exact HB.out))) hb); (try clear hb); (try clear ho0); obtain ⟨Ao85, co85, eo85⟩ := Kd.R_slice HO974.out; subst eo85) | ((with_reducible refine gate_callee (f := 26) rfl ?_); refine goesL_ (some 80) rfl rfl Try.func26 (by kernel_rfl) rfl #[.slice Ao54 t949.length co54, .slice Ao85 t972.length co85] rfl Z.ar ?_; (with_reducible refine (laws_eqActS.calls kj76 _ _ t949 _ _ t972 t975 _ ?q1 ?q2 ?q3 ?q4 A82.out).mono ?_); (case q1 => repeat (exact (Kd.R_reads' HO_14.out).2.2)); (case q2 => exact (Kd.R_reads' HO_14.out).2.1); (case q3 => repeat (exact (Kd.R_reads' HO974.out).2.2)); (case q4 => exact (Kd.R_reads' HO974.out).2.1); rintro e w86 ⟨rfl, hb⟩; refine ⟨_, rfl, ?_⟩; replace HO_10 := Aside0.mk (Kd.R_below (by (with_reducible skip); exact HO_10.out) hb); replace HO_12 := Aside0.mk (Kd.R_below (by (with_reducible skip); exact HO_12.out) hb); replace HO_13 := Aside0.mk (Kd.R_below (by (with_reducible skip); exact HO_13.out) hb); replace HO_14 := Aside0.mk (Kd.R_below (by (with_reducible skip); exact HO_14.out) hb); replace HO_15 := Aside0.mk (Kd.R_below (by (with_reducible skip); exact HO_15.out) hb); replace HO_943001 := Aside0.mk (Kd.R_below (by (with_reducible skip); exact HO_943001.out) hb); replace HO_943002 := Aside0.mk (Kd.R_below (by (with_reducible skip); exact HO_943002.out) hb); replace HO974 := Aside0.mk (Kd.R_below (by (with_reducible skip); exact HO974.out) hb); replace BK913 := Z.bb BK913 hb; replace BK942 := Z.bb BK942 hb; replace HB := Aside0.mk (below_step (by repeat ((with_reducible exact HB.out))) hb); (try clear hb)))
                 go_cut [] (fun wc => ∃ (kq : Nat), Aside0 (laws_FnExactSafeActs.j8 kq l1 l2 l3 t932 t943 t946 t949 t952 a0_0 l0_1 l0_2 t935 t936 t939 = some r) ∧ Aside0 (kq ≤ kj76) ∧ Aside0 (Kd.R k53 53 wc w.heap.size (fun k_ => some k_ ≠ ((.slice Ao54 t949.length co54) : Value).ownBlock ∧ some k_ ≠ ((.slice Ao56 t952.length co56) : Value).ownBlock) (.slice Ao57 t932.length co57) t932) ∧ Aside0 (Kd.R (Kd.int .i64) 3 wc w.heap.size (fun k_ => some k_ ≠ ((.slice Ao53 t946.length co53) : Value).ownBlock ∧ some k_ ≠ ((.slice Ao46 t936.length co46) : Value).ownBlock) (.slice Ao52 t943.length co52) t943) ∧ Aside0 (Kd.R (Kd.int .i64) 3 wc w.heap.size (fun k_ => some k_ ≠ ((.slice Ao52 t943.length co52) : Value).ownBlock ∧ some k_ ≠ ((.slice Ao46 t936.length co46) : Value).ownBlock) (.slice Ao53 t946.length co53) t946) ∧ Aside0 (Kd.R k53 53 wc w.heap.size (fun k_ => some k_ ≠ ((.slice Ao57 t932.length co57) : Value).ownBlock ∧ some k_ ≠ ((.slice Ao56 t952.length co56) : Value).ownBlock) (.slice Ao54 t949.length co54) t949) ∧ Aside0 (Kd.R k53 53 wc w.heap.size (fun k_ => some k_ ≠ ((.slice Ao57 t932.length co57) : Value).ownBlock ∧ some k_ ≠ ((.slice Ao54 t949.length co54) : Value).ownBlock) (.slice Ao56 t952.length co56) t952) ∧ Aside0 (Kd.R (Kd.int .i64) 3 wc w.heap.size (fun k_ => some k_ ≠ ((.slice Ao52 t943.length co52) : Value).ownBlock ∧ some k_ ≠ ((.slice Ao53 t946.length co53) : Value).ownBlock) (.slice Ao46 t936.length co46) t936) ∧ Aside0 (Kd.R (Kd.slice 86 k86) 83 wc w.heap.size (fun _ => True) (.slice Ao47 t939.length co47) t939) ∧ Aside0 (wc.heap[gb913]? = some (.cells #[.int .i64 a0_0, (.slice A0_1 l0_1.length c0_1), (.slice A0_2 l0_2.length c0_2)] 27 (0, 0))) ∧ Aside0 (wc.heap[gb942]? = some (.cells #[.int .i64 t935, (.slice Ao46 t936.length co46), (.slice Ao47 t939.length co47)] 35 (0, 0))) ∧ Aside0 (Below w.heap.size w wc))
                 case first =>
                  have H := HC83.out
                  clear HC83
                  by_cases c87 : t975 = true
                  ·subst c87
                   rw [if_pos rfl] at H
                   have H' := Aside0.mk H
                   clear H
                   go_wp2
                   go_meet
                   case rel => exact ⟨_, H', ⟨by have := HJ4.out; have := HJ7.out; have := HJ10.out; have := HJ15.out; have := HJ28.out; have := HJ61.out; have := HJ70.out; have := HJ76.out; omega⟩, ⟨by (with_reducible skip); exact Kd.R_mono HO_10.out (fun _ hk => ⟨hk.1.1, hk.1.2⟩)⟩, ⟨by (with_reducible skip); exact HO_12.out⟩, ⟨by (with_reducible skip); exact HO_13.out⟩, ⟨by (with_reducible skip); exact Kd.R_mono HO_14.out (fun _ hk => ⟨hk.1.1, hk.1.2⟩)⟩, ⟨by (with_reducible skip); exact Kd.R_mono HO_15.out (fun _ hk => ⟨hk.1.1, hk.1.2⟩)⟩, ⟨by (with_reducible skip); exact HO_943001.out⟩, ⟨by (with_reducible skip); exact HO_943002.out⟩, ⟨by (with_reducible skip); exact BK913.out⟩, ⟨by (with_reducible skip); exact BK942.out⟩, ⟨by repeat ((with_reducible exact HB.out))⟩⟩
                  ·replace c87 := Bool.eq_false_iff.mpr c87
                   subst c87
                   rw [if_neg (show ¬ (false = true) by decide)] at H
                   obtain rfl := Option.some.inj H
                   go_wp2
                   go_ret
                   exact ⟨by rfl, by repeat ((with_reducible exact HB.out))⟩
                 case rest =>
                  clear HC83
                  obtain ⟨kq, HA, HJ82, HO_10, HO_12, HO_13, HO_14, HO_15, HO_943001, HO_943002, BK913, BK942, HB⟩ := hcut
                  cases kq with
                  | zero => exact absurd HA.out (by simp [laws_FnExactSafeActs.j8])
                  | succ kj82 =>
                   have H := HA.out
                   clear HA
                   simp only [laws_FnExactSafeActs.j8] at H
                   replace H := Option.bind_eq_some_iff.mp H
                   obtain ⟨t976, A880, H⟩ := H
                   have A88 := Aside0.mk A880
                   clear A880
                   replace H := Option.bind_eq_some_iff.mp H
                   obtain ⟨⟨t977, t978⟩, A890, H⟩ := H
                   try dsimp only at H
                   have A89 := Aside0.mk A890
                   clear A890
                   replace H := Option.bind_eq_some_iff.mp H
                   obtain ⟨⟨t979, t980⟩, A900, H⟩ := H
                   try dsimp only at H
                   have A90 := Aside0.mk A900
                   clear A900
                   replace H := Option.bind_eq_some_iff.mp H
                   obtain ⟨⟨t981, t982⟩, A910, H⟩ := H
                   try dsimp only at H
                   have A91 := Aside0.mk A910
                   clear A910
                   have HC92 := Aside0.mk H
                   clear H
                   have hnb93 := NB942_913.out
                   have hnc93 := NB913_942.out
                   have hcz94 := Z.c3 BK942.out
                   go_upto_region 33 with (first | ((with_reducible refine gate_callee (f := 29) rfl ?_); refine goesL_ (some 84) rfl rfl Try.func29 (by kernel_rfl) rfl #[.agg #[.int .i64 t935, .slice Ao46 t936.length co46, .slice Ao47 t939.length co47], .int .i64 1] rfl Z.ar ?_; (with_reducible refine (laws_markCharter.calls (b0 := w.heap.size) (ok1 := ?o1) (ok2 := ?o2) t935 _ _ t936 _ _ t939 1 t976 _ ?q1 ?q2 A88.out).mono ?_); (case q1 => exact HO_943001.out); (case q2 => exact HO_943002.out); rintro e w95 ⟨rfl, hk⟩; refine ⟨_, rfl, ?_⟩; replace HO_10 := Aside0.mk (Kd.R_mono (ok' := fun k_ => some k_ ≠ (.slice Ao54 t949.length co54 : Value).ownBlock ∧ some k_ ≠ (.slice Ao56 t952.length co56 : Value).ownBlock) (hk.row (HO_10.out) rfl (by decide)) (fun k_ hk_ => ⟨hk_.1, hk_.2⟩)); replace HO_12 := Aside0.mk (Kd.R_mono (ok' := fun k_ => some k_ ≠ (.slice Ao53 t946.length co53 : Value).ownBlock) (hk.ints (HO_12.out) (fun i_ hi_ => ((HO_12.out).1 i_ hi_).2)) (fun k_ hk_ => hk_.1)); replace HO_13 := Aside0.mk (Kd.R_mono (ok' := fun k_ => some k_ ≠ (.slice Ao52 t943.length co52 : Value).ownBlock) (hk.ints (HO_13.out) (fun i_ hi_ => ((HO_13.out).1 i_ hi_).2)) (fun k_ hk_ => hk_.1)); replace HO_14 := Aside0.mk (Kd.R_mono (ok' := fun k_ => some k_ ≠ (.slice Ao57 t932.length co57 : Value).ownBlock ∧ some k_ ≠ (.slice Ao56 t952.length co56 : Value).ownBlock) (hk.row (HO_14.out) rfl (by decide)) (fun k_ hk_ => ⟨hk_.1, hk_.2⟩)); replace HO_15 := Aside0.mk (Kd.R_mono (ok' := fun k_ => some k_ ≠ (.slice Ao57 t932.length co57 : Value).ownBlock ∧ some k_ ≠ (.slice Ao54 t949.length co54 : Value).ownBlock) (hk.row (HO_15.out) rfl (by decide)) (fun k_ hk_ => ⟨hk_.1, hk_.2⟩)); replace BK913 := Aside0.mk (hk.far (Z.bk BK913.out) (by decide)); replace BK942 := Aside0.mk (hk.far (Z.bk BK942.out) (by decide)); replace HB := Aside0.mk (hk.below (by repeat ((with_reducible exact HB.out)))); clear HO_943001 HO_943002; (try clear hk)) | ((with_reducible refine gate_callee (f := 30) rfl ?_); refine goesL_ (some 87) rfl rfl Try.func30 (by kernel_rfl) rfl #[.slice Ao52 t943.length co52, .int .i64 t976] rfl Z.ar ?_; (with_reducible refine (laws_markIntS.calls kj82 (fun k_ => some k_ = (.slice Ao52 t943.length co52 : Value).ownBlock) (.slice Ao52 t943.length co52) t943 t976 t977 t978 w _ ?q1 ?q2 A89.out).mono ?_); (case q1 => repeat ((with_reducible exact HB.out))); (case q2 => exact Kd.R_tight rfl HO_12.out); rintro e w96 ⟨rfl, hy0, hb, hkp⟩; refine ⟨_, rfl, ?_⟩; replace HO_10 := Aside0.mk (Kd.R_mono (ok' := fun k_ => some k_ ≠ (.slice Ao54 t949.length co54 : Value).ownBlock ∧ some k_ ≠ (.slice Ao56 t952.length co56 : Value).ownBlock) (Kd.R_keptB ((Kd.R_apart' HO_10.out (Kd.R_typed HO_12.out) (by decide))) hkp (fun k_ hk_ hs_ => (hk_.2) hs_)) (fun k_ hk_ => ⟨hk_.1.1.1, hk_.1.1.2⟩)); replace HO_13 := Aside0.mk (Kd.R_mono (ok' := fun k_ => some k_ ≠ (.slice Ao52 t943.length co52 : Value).ownBlock) (Kd.R_keptB (HO_13.out) hkp (fun k_ hk_ hs_ => (hk_) hs_)) (fun k_ hk_ => hk_.1)); replace HO_14 := Aside0.mk (Kd.R_mono (ok' := fun k_ => some k_ ≠ (.slice Ao57 t932.length co57 : Value).ownBlock ∧ some k_ ≠ (.slice Ao56 t952.length co56 : Value).ownBlock) (Kd.R_keptB ((Kd.R_apart' HO_14.out (Kd.R_typed HO_12.out) (by decide))) hkp (fun k_ hk_ hs_ => (hk_.2) hs_)) (fun k_ hk_ => ⟨hk_.1.1.1, hk_.1.1.2⟩)); replace HO_15 := Aside0.mk (Kd.R_mono (ok' := fun k_ => some k_ ≠ (.slice Ao57 t932.length co57 : Value).ownBlock ∧ some k_ ≠ (.slice Ao54 t949.length co54 : Value).ownBlock) (Kd.R_keptB ((Kd.R_apart' HO_15.out (Kd.R_typed HO_12.out) (by decide))) hkp (fun k_ hk_ hs_ => (hk_.2) hs_)) (fun k_ hk_ => ⟨hk_.1.1.1, hk_.1.1.2⟩)); replace BK913 := Aside0.mk (blk_kept (Z.bk BK913.out) hkp (fun hs_ => (fun e_ => (Kd.R_ne HO_12.out BK913.out (by decide)) e_) hs_)); replace BK942 := Aside0.mk (blk_kept (Z.bk BK942.out) hkp (fun hs_ => (fun e_ => (Kd.R_ne HO_12.out BK942.out (by decide)) e_) hs_)); replace HO_12 := Aside0.mk (Kd.R_reok rfl hy0 (fun k_ e_ => HO_12.out.1 k_ e_)); replace HB := Aside0.mk (hb); (try clear hb); (try clear hkp); (try clear hy0)) | ((with_reducible refine gate_callee (f := 30) rfl ?_); refine goesL_ (some 90) rfl rfl Try.func30 (by kernel_rfl) rfl #[.slice Ao53 t946.length co53, .int .i64 t977] rfl Z.ar ?_; (with_reducible refine (laws_markIntS.calls kj82 (fun k_ => some k_ = (.slice Ao53 t946.length co53 : Value).ownBlock) (.slice Ao53 t946.length co53) t946 t977 t979 t980 w _ ?q1 ?q2 A90.out).mono ?_); (case q1 => repeat ((with_reducible exact HB.out))); (case q2 => exact Kd.R_tight rfl HO_13.out); rintro e w97 ⟨rfl, hy0, hb, hkp⟩; refine ⟨_, rfl, ?_⟩; replace HO_10 := Aside0.mk (Kd.R_mono (ok' := fun k_ => some k_ ≠ (.slice Ao54 t949.length co54 : Value).ownBlock ∧ some k_ ≠ (.slice Ao56 t952.length co56 : Value).ownBlock) (Kd.R_keptB ((Kd.R_apart' HO_10.out (Kd.R_typed HO_13.out) (by decide))) hkp (fun k_ hk_ hs_ => (hk_.2) hs_)) (fun k_ hk_ => ⟨hk_.1.1.1, hk_.1.1.2⟩)); replace HO_12 := Aside0.mk (Kd.R_mono (ok' := fun k_ => some k_ ≠ (.slice Ao53 t946.length co53 : Value).ownBlock) (Kd.R_keptB (HO_12.out) hkp (fun k_ hk_ hs_ => (hk_) hs_)) (fun k_ hk_ => hk_.1)); replace HO_14 := Aside0.mk (Kd.R_mono (ok' := fun k_ => some k_ ≠ (.slice Ao57 t932.length co57 : Value).ownBlock ∧ some k_ ≠ (.slice Ao56 t952.length co56 : Value).ownBlock) (Kd.R_keptB ((Kd.R_apart' HO_14.out (Kd.R_typed HO_13.out) (by decide))) hkp (fun k_ hk_ hs_ => (hk_.2) hs_)) (fun k_ hk_ => ⟨hk_.1.1.1, hk_.1.1.2⟩)); replace HO_15 := Aside0.mk (Kd.R_mono (ok' := fun k_ => some k_ ≠ (.slice Ao57 t932.length co57 : Value).ownBlock ∧ some k_ ≠ (.slice Ao54 t949.length co54 : Value).ownBlock) (Kd.R_keptB ((Kd.R_apart' HO_15.out (Kd.R_typed HO_13.out) (by decide))) hkp (fun k_ hk_ hs_ => (hk_.2) hs_)) (fun k_ hk_ => ⟨hk_.1.1.1, hk_.1.1.2⟩)); replace BK913 := Aside0.mk (blk_kept (Z.bk BK913.out) hkp (fun hs_ => (fun e_ => (Kd.R_ne HO_13.out BK913.out (by decide)) e_) hs_)); replace BK942 := Aside0.mk (blk_kept (Z.bk BK942.out) hkp (fun hs_ => (fun e_ => (Kd.R_ne HO_13.out BK942.out (by decide)) e_) hs_)); replace HO_13 := Aside0.mk (Kd.R_reok rfl hy0 (fun k_ e_ => HO_13.out.1 k_ e_)); replace HB := Aside0.mk (hb); (try clear hb); (try clear hkp); (try clear hy0)) | ((with_reducible refine gate_callee (f := 31) rfl ?_); refine goesL_ (some 93) rfl rfl Try.func31 (by kernel_rfl) rfl #[.slice Ao54 t949.length co54, .int .i64 t979] rfl Z.ar ?_; (with_reducible refine (laws_markActS.calls kj82 (fun k_ => some k_ = (.slice Ao54 t949.length co54 : Value).ownBlock) (.slice Ao54 t949.length co54) t949 t979 t981 t982 w _ ?q1 ?q2 A91.out).mono ?_); (case q1 => repeat ((with_reducible exact HB.out))); (case q2 => exact Kd.R_tight rfl HO_14.out); rintro e w98 ⟨rfl, hy0, hb, hkp⟩; refine ⟨_, rfl, ?_⟩; replace HO_10 := Aside0.mk (Kd.R_mono (ok' := fun k_ => some k_ ≠ (.slice Ao54 t949.length co54 : Value).ownBlock ∧ some k_ ≠ (.slice Ao56 t952.length co56 : Value).ownBlock) (Kd.R_keptB (HO_10.out) hkp (fun k_ hk_ hs_ => (hk_.1) hs_)) (fun k_ hk_ => ⟨hk_.1.1, hk_.1.2⟩)); replace HO_12 := Aside0.mk (Kd.R_mono (ok' := fun k_ => some k_ ≠ (.slice Ao53 t946.length co53 : Value).ownBlock) (Kd.R_keptB ((Kd.R_apart' HO_12.out (Kd.R_typed HO_14.out) (by decide))) hkp (fun k_ hk_ hs_ => (hk_.2) hs_)) (fun k_ hk_ => hk_.1.1)); replace HO_13 := Aside0.mk (Kd.R_mono (ok' := fun k_ => some k_ ≠ (.slice Ao52 t943.length co52 : Value).ownBlock) (Kd.R_keptB ((Kd.R_apart' HO_13.out (Kd.R_typed HO_14.out) (by decide))) hkp (fun k_ hk_ hs_ => (hk_.2) hs_)) (fun k_ hk_ => hk_.1.1)); replace HO_15 := Aside0.mk (Kd.R_mono (ok' := fun k_ => some k_ ≠ (.slice Ao57 t932.length co57 : Value).ownBlock ∧ some k_ ≠ (.slice Ao54 t949.length co54 : Value).ownBlock) (Kd.R_keptB (HO_15.out) hkp (fun k_ hk_ hs_ => (hk_.2) hs_)) (fun k_ hk_ => ⟨hk_.1.1, hk_.1.2⟩)); replace BK913 := Aside0.mk (blk_kept (Z.bk BK913.out) hkp (fun hs_ => (fun e_ => (Kd.R_ne HO_14.out BK913.out (by decide)) e_) hs_)); replace BK942 := Aside0.mk (blk_kept (Z.bk BK942.out) hkp (fun hs_ => (fun e_ => (Kd.R_ne HO_14.out BK942.out (by decide)) e_) hs_)); replace HO_14 := Aside0.mk (Kd.R_reok rfl hy0 (fun k_ e_ => HO_14.out.1 k_ e_)); replace HB := Aside0.mk (hb); (try clear hb); (try clear hkp); (try clear hy0)))
                   go_cut [101] (fun v101 wc => ∃ (kq : Nat) (x101_91 : Bool), v101 = .bool x101_91 ∧ Aside0 (laws_FnExactSafeActs.j9 kq l1 l2 l3 t932 t952 x101_91 a0_0 l0_1 l0_2 = some r) ∧ Aside0 (kq ≤ kj82) ∧ Aside0 (Kd.R k53 53 wc w.heap.size (fun k_ => some k_ ≠ ((.slice Ao56 t952.length co56) : Value).ownBlock) (.slice Ao57 t932.length co57) t932) ∧ Aside0 (Kd.R k53 53 wc w.heap.size (fun k_ => some k_ ≠ ((.slice Ao57 t932.length co57) : Value).ownBlock) (.slice Ao56 t952.length co56) t952) ∧ Aside0 (wc.heap[gb913]? = some (.cells #[.int .i64 a0_0, (.slice A0_1 l0_1.length c0_1), (.slice A0_2 l0_2.length c0_2)] 27 (0, 0))) ∧ Aside0 (Below w.heap.size w wc))
                   case first =>
                    have H := HC92.out
                    clear HC92
                    by_cases c99 : t981 < 0
                    ·rw [if_pos c99] at H
                     have c99b0 := decide_eq_true c99
                     clear c99
                     have H' := Aside0.mk H
                     clear H
                     go_wp2
                     go_meet
                     case rel => exact ⟨_, (true), (by rfl), H', ⟨by have := HJ4.out; have := HJ7.out; have := HJ10.out; have := HJ15.out; have := HJ28.out; have := HJ61.out; have := HJ70.out; have := HJ76.out; have := HJ82.out; omega⟩, ⟨by (with_reducible skip); exact Kd.R_mono HO_10.out (fun _ hk => hk.2)⟩, ⟨by (with_reducible skip); exact Kd.R_mono HO_15.out (fun _ hk => hk.1)⟩, ⟨by (with_reducible skip); exact BK913.out⟩, ⟨by repeat ((with_reducible exact HB.out))⟩⟩
                    ·rw [if_neg c99] at H
                     have c99b0 := decide_eq_false c99
                     clear c99
                     replace H := Option.bind_eq_some_iff.mp H
                     obtain ⟨t983, A1000, H⟩ := H
                     have A100 := Aside0.mk A1000
                     clear A1000
                     have H' := Aside0.mk H
                     clear H
                     go_wp2_with ((go_at_call 26; (with_reducible refine (laws_eqActS.calls kj82 _ _ t952 _ _ t932 t983 _ ?q1 ?q2 ?q3 ?q4 A100.out).mono ?_); (case q1 => repeat (exact (Kd.R_reads' HO_15.out).2.2)); (case q2 => exact (Kd.R_reads' HO_15.out).2.1); (case q3 => repeat (exact (Kd.R_reads' HO_10.out).2.2)); (case q4 => exact (Kd.R_reads' HO_10.out).2.1); rintro e w101 ⟨rfl, hb⟩; replace HO_10 := Aside0.mk (Kd.R_below (by (with_reducible skip); exact HO_10.out) hb); replace HO_12 := Aside0.mk (Kd.R_below (by (with_reducible skip); exact HO_12.out) hb); replace HO_13 := Aside0.mk (Kd.R_below (by (with_reducible skip); exact HO_13.out) hb); replace HO_14 := Aside0.mk (Kd.R_below (by (with_reducible skip); exact HO_14.out) hb); replace HO_15 := Aside0.mk (Kd.R_below (by (with_reducible skip); exact HO_15.out) hb); replace BK913 := Z.bb BK913 hb; replace BK942 := Z.bb BK942 hb; replace HB := Aside0.mk (below_step (by repeat ((with_reducible exact HB.out))) hb); (try clear hb)))
                     go_meet
                     case rel => exact ⟨_, (!t983), (by rfl), H', ⟨by have := HJ4.out; have := HJ7.out; have := HJ10.out; have := HJ15.out; have := HJ28.out; have := HJ61.out; have := HJ70.out; have := HJ76.out; have := HJ82.out; omega⟩, ⟨by (with_reducible skip); exact Kd.R_mono HO_10.out (fun _ hk => hk.2)⟩, ⟨by (with_reducible skip); exact Kd.R_mono HO_15.out (fun _ hk => hk.1)⟩, ⟨by (with_reducible skip); exact BK913.out⟩, ⟨by repeat ((with_reducible exact HB.out))⟩⟩
                   case rest =>
                    clear HC92
                    obtain ⟨kq, x101_91, rfl, HA, HJ91, HO_10, HO_15, BK913, HB⟩ := hcut
                    cases kq with
                    | zero => exact absurd HA.out (by simp [laws_FnExactSafeActs.j9])
                    | succ kj91 =>
                     have H := HA.out
                     clear HA
                     simp only [laws_FnExactSafeActs.j9] at H
                     have HC102 := Aside0.mk H
                     clear H
                     go_upto_if 101 with (fail)
                     go_cut [] (fun wc => ∃ (kq : Nat), Aside0 (laws_FnExactSafeActs.j10 kq l1 l2 l3 t932 t952 a0_0 l0_1 l0_2 = some r) ∧ Aside0 (kq ≤ kj91) ∧ Aside0 (Kd.R k53 53 wc w.heap.size (fun k_ => some k_ ≠ ((.slice Ao56 t952.length co56) : Value).ownBlock) (.slice Ao57 t932.length co57) t932) ∧ Aside0 (Kd.R k53 53 wc w.heap.size (fun k_ => some k_ ≠ ((.slice Ao57 t932.length co57) : Value).ownBlock) (.slice Ao56 t952.length co56) t952) ∧ Aside0 (wc.heap[gb913]? = some (.cells #[.int .i64 a0_0, (.slice A0_1 l0_1.length c0_1), (.slice A0_2 l0_2.length c0_2)] 27 (0, 0))) ∧ Aside0 (Below w.heap.size w wc))
                     case first =>
                      have H := HC102.out
                      clear HC102
                      by_cases c103 : x101_91 = true
                      ·subst c103
                       rw [if_pos rfl] at H
                       obtain rfl := Option.some.inj H
                       go_wp2
                       go_ret
                       exact ⟨by rfl, Z.bs HB.out GE913.out⟩
                      ·replace c103 := Bool.eq_false_iff.mpr c103
                       subst c103
                       rw [if_neg (show ¬ (false = true) by decide)] at H
                       have H' := Aside0.mk H
                       clear H
                       go_wp2
                       go_meet
                       case rel => exact ⟨_, H', ⟨by have := HJ4.out; have := HJ7.out; have := HJ10.out; have := HJ15.out; have := HJ28.out; have := HJ61.out; have := HJ70.out; have := HJ76.out; have := HJ82.out; have := HJ91.out; omega⟩, ⟨by (with_reducible skip); exact HO_10.out⟩, ⟨by (with_reducible skip); exact HO_15.out⟩, ⟨by (with_reducible skip); exact BK913.out⟩, ⟨Z.bs HB.out GE913.out⟩⟩
                     case rest =>
                      clear HC102
                      obtain ⟨kq, HA, HJ101, HO_10, HO_15, BK913, HB⟩ := hcut
                      cases kq with
                      | zero => exact absurd HA.out (by simp [laws_FnExactSafeActs.j10])
                      | succ kj101 =>
                       have H := HA.out
                       clear HA
                       simp only [laws_FnExactSafeActs.j10] at H
                       replace H := Option.bind_eq_some_iff.mp H
                       obtain ⟨⟨t984, t985⟩, A1040, H⟩ := H
                       try dsimp only at H
                       have A104 := Aside0.mk A1040
                       clear A1040
                       replace H := Option.bind_eq_some_iff.mp H
                       obtain ⟨t986, A1050, H⟩ := H
                       have A105 := Aside0.mk A1050
                       clear A1050
                       have HC106 := Aside0.mk H
                       clear H
                       go_upto_if 109 with (first | ((with_reducible refine gate_callee (f := 31) rfl ?_); refine goesL_ (some 104) rfl rfl Try.func31 (by kernel_rfl) rfl #[.slice Ao56 t952.length co56, .int .i64 1] rfl Z.ar ?_; (with_reducible refine (laws_markActS.calls kj101 (fun k_ => some k_ = (.slice Ao56 t952.length co56 : Value).ownBlock) (.slice Ao56 t952.length co56) t952 1 t984 t985 w _ ?q1 ?q2 A104.out).mono ?_); (case q1 => repeat ((with_reducible exact HB.out))); (case q2 => exact Kd.R_tight rfl HO_15.out); rintro e w107 ⟨rfl, hy0, hb, hkp⟩; refine ⟨_, rfl, ?_⟩; replace HO_10 := Aside0.mk (Kd.R_mono (ok' := fun k_ => some k_ ≠ (.slice Ao56 t952.length co56 : Value).ownBlock) (Kd.R_keptB (HO_10.out) hkp (fun k_ hk_ hs_ => (hk_) hs_)) (fun k_ hk_ => hk_.1)); replace BK913 := Aside0.mk (blk_kept (Z.bk BK913.out) hkp (fun hs_ => (fun e_ => (Kd.R_ne HO_15.out BK913.out (by decide)) e_) hs_)); replace HO_15 := Aside0.mk (Kd.R_reok rfl hy0 (fun k_ e_ => HO_15.out.1 k_ e_)); replace HB := Aside0.mk (hb); (try clear hb); (try clear hkp); (try clear hy0)) | ((with_reducible refine gate_callee (f := 35) rfl ?_); refine goesL_ (some 107) rfl rfl Try.func35 (by kernel_rfl) rfl #[.slice Ao56 t985.length co56, .int .i64 1] rfl (by (try simp only [List.map_toArray, List.map_cons, List.map_nil]); (rw [show t985.length = t952.length from (Kd.R_reads' HO_15.out).1.symm] <;> rfl)) ?_; (with_reducible refine (laws_heldActS.calls kj101 _ _ t985 1 t986 _ ?q1 ?q2 A105.out).mono ?_); (case q1 => repeat (exact (Kd.R_reads' HO_15.out).2.2)); (case q2 => rw [show t985.length = t952.length from (Kd.R_reads' HO_15.out).1.symm]; exact (Kd.R_reads' HO_15.out).2.1); rintro e w' ⟨rfl, ⟨nd, rfl⟩⟩; refine ⟨_, rfl, ?_⟩))
                       go_cut [] (fun wc => ∃ (kq : Nat), Aside0 (laws_FnExactSafeActs.j11 kq l1 l2 l3 t932 t985 t984 t986 a0_0 l0_1 l0_2 = some r) ∧ Aside0 (kq ≤ kj101) ∧ Aside0 (Kd.R k53 53 wc w.heap.size (fun k_ => some k_ ≠ ((.slice Ao56 t952.length co56) : Value).ownBlock) (.slice Ao57 t932.length co57) t932) ∧ Aside0 (Kd.R k53 53 wc w.heap.size (fun k_ => some k_ ≠ ((.slice Ao57 t932.length co57) : Value).ownBlock) (.slice Ao56 t952.length co56) t985) ∧ Aside0 (wc.heap[gb913]? = some (.cells #[.int .i64 a0_0, (.slice A0_1 l0_1.length c0_1), (.slice A0_2 l0_2.length c0_2)] 27 (0, 0))) ∧ Aside0 (Below w.heap.size w wc))
                       case first =>
                        have H := HC106.out
                        clear HC106
                        by_cases c108 : t986 < 0
                        ·rw [if_pos c108] at H
                         have c108b0 := decide_eq_true c108
                         clear c108
                         (rw [c108b0])
                         obtain rfl := Option.some.inj H
                         go_wp2
                         go_ret
                         exact ⟨by rfl, Z.bs HB.out GE913.out⟩
                        ·rw [if_neg c108] at H
                         have c108b0 := decide_eq_false c108
                         clear c108
                         (rw [c108b0])
                         have H' := Aside0.mk H
                         clear H
                         go_wp2
                         go_meet
                         case rel => exact ⟨_, H', ⟨by have := HJ4.out; have := HJ7.out; have := HJ10.out; have := HJ15.out; have := HJ28.out; have := HJ61.out; have := HJ70.out; have := HJ76.out; have := HJ82.out; have := HJ91.out; have := HJ101.out; omega⟩, ⟨by (with_reducible repeat (apply Kd.R_drewN)); exact HO_10.out⟩, ⟨by (with_reducible repeat (apply Kd.R_drewN)); exact HO_15.out⟩, ⟨by (with_reducible repeat (refine blk_drewN ?_ _)); exact BK913.out⟩, ⟨Z.bs HB.out GE913.out⟩⟩
                       case rest =>
                        clear HC106
                        obtain ⟨kq, HA, HJ105, HO_10, HO_15, BK913, HB⟩ := hcut
                        have hl15_105 := (Kd.R_reads' HO_15.out).1
                        rw [hl15_105] at HO_15
                        (try simp only [hl15_105])
                        (try simp only [hl15_105] at HO_10)
                        cases kq with
                        | zero => exact absurd HA.out (by simp [laws_FnExactSafeActs.j11])
                        | succ kj105 =>
                         have H := HA.out
                         clear HA
                         simp only [laws_FnExactSafeActs.j11] at H
                         have HC109 := Aside0.mk H
                         clear H
                         go_upto_if 112 with (fail)
                         go_cut [] (fun wc => ∃ (kq : Nat), Aside0 (laws_FnExactSafeActs.j12 kq l1 l2 l3 t932 t985 t984 a0_0 l0_1 l0_2 = some r) ∧ Aside0 (kq ≤ kj105) ∧ Aside0 (Kd.R k53 53 wc w.heap.size (fun k_ => some k_ ≠ ((.slice Ao56 t985.length co56) : Value).ownBlock) (.slice Ao57 t932.length co57) t932) ∧ Aside0 (Kd.R k53 53 wc w.heap.size (fun k_ => some k_ ≠ ((.slice Ao57 t932.length co57) : Value).ownBlock) (.slice Ao56 t985.length co56) t985) ∧ Aside0 (wc.heap[gb913]? = some (.cells #[.int .i64 a0_0, (.slice A0_1 l0_1.length c0_1), (.slice A0_2 l0_2.length c0_2)] 27 (0, 0))) ∧ Aside0 (Below w.heap.size w wc))
                         case first =>
                          have H := HC109.out
                          clear HC109
                          by_cases c110 : t986 = t984
                          ·rw [if_pos c110] at H
                           have c110b0 : (t986 == t984) = true := beq_iff_eq.mpr c110
                           have c110b1 : (t986 != t984) = false := bne_eq_false_iff_eq.mpr c110
                           clear c110
                           have H' := Aside0.mk H
                           clear H
                           go_wp2
                           go_meet
                           case rel => exact ⟨_, H', ⟨by have := HJ4.out; have := HJ7.out; have := HJ10.out; have := HJ15.out; have := HJ28.out; have := HJ61.out; have := HJ70.out; have := HJ76.out; have := HJ82.out; have := HJ91.out; have := HJ101.out; have := HJ105.out; omega⟩, ⟨by (with_reducible skip); exact HO_10.out⟩, ⟨by (with_reducible skip); exact HO_15.out⟩, ⟨by (with_reducible skip); exact BK913.out⟩, ⟨Z.bs HB.out GE913.out⟩⟩
                          ·rw [if_neg c110] at H
                           have c110b0 : (t986 == t984) = false := beq_eq_false_iff_ne.mpr c110
                           have c110b1 : (t986 != t984) = true := bne_iff_ne.mpr c110
                           obtain rfl := Option.some.inj H
                           go_wp2
                           go_ret
                           exact ⟨by rfl, Z.bs HB.out GE913.out⟩
                         case rest =>
                          clear HC109
                          obtain ⟨kq, HA, HJ108, HO_10, HO_15, BK913, HB⟩ := hcut
                          cases kq with
                          | zero => exact absurd HA.out (by simp [laws_FnExactSafeActs.j12])
                          | succ kj108 =>
                           have H := HA.out
                           clear HA
                           simp only [laws_FnExactSafeActs.j12] at H
                           replace H := Option.bind_eq_some_iff.mp H
                           obtain ⟨⟨t987, t988, t991⟩, A1110, H⟩ := H
                           try dsimp only at H
                           have A111 := Aside0.mk A1110
                           clear A1110
                           replace H := Option.bind_eq_some_iff.mp H
                           obtain ⟨t994, A1120, H⟩ := H
                           have A112 := Aside0.mk A1120
                           clear A1120
                           replace H := Option.bind_eq_some_iff.mp H
                           obtain ⟨t997, A1130, H⟩ := H
                           have A113 := Aside0.mk A1130
                           clear A1130
                           replace H := Option.bind_eq_some_iff.mp H
                           obtain ⟨t1000, A1140, H⟩ := H
                           have A114 := Aside0.mk A1140
                           clear A1140
                           replace H := Option.bind_eq_some_iff.mp H
                           obtain ⟨t1003, A1150, H⟩ := H
                           have A115 := Aside0.mk A1150
                           clear A1150
                           replace H := Option.bind_eq_some_iff.mp H
                           obtain ⟨t1006, A1160, H⟩ := H
                           have A116 := Aside0.mk A1160
                           clear A1160
                           have HC117 := Aside0.mk H
                           clear H
                           have hcz118 := Z.c3 BK913.out
                           go_upto_if 125 with (first | ((with_reducible refine gate_callee (f := 20) rfl ?_); refine goesL_ (some 114) rfl rfl Try.func20 (by kernel_rfl) rfl #[.agg #[.int .i64 a0_0, .slice A0_1 l0_1.length c0_1, .slice A0_2 l0_2.length c0_2]] rfl Z.ar ?_; (with_reducible refine (laws_toCharter.calls kj108 a0_0 _ _ l0_1 _ _ l0_2 t987 t988 t991 _ ?q1 ?q2 ?q3 ?q4 A111.out).mono ?_); (case q1 => exact Z.cc HR0_1 HB); (case q2 => exact HC0_1.out); (case q3 => exact Z.cc HR0_2 HB); (case q4 => exact HC0_2.out); rintro e w119 ⟨v989, v992, rfl, ho0, ho1, hb⟩; refine ⟨_, rfl, ?_⟩; replace HO_10 := Aside0.mk (Kd.R_below (by (with_reducible skip); exact HO_10.out) hb); replace HO_15 := Aside0.mk (Kd.R_below (by (with_reducible skip); exact HO_15.out) hb); have HO990 := Aside0.mk (Kd.R_lower ho0 (below_size (Z.bs HB.out GE913.out))); have HO993 := Aside0.mk (Kd.R_lower ho1 (below_size (Z.bs HB.out GE913.out))); replace BK913 := Z.bb BK913 hb; replace HB := Z.st (Z.bs HB.out GE913.out) hb; (try clear hb); (try clear ho0); (try clear ho1)) | ((with_reducible refine gate_callee (f := 21) rfl ?_); refine goesL_ (some 116) rfl rfl Try.func21 (by kernel_rfl) rfl #[.slice A1 l1.length c1] rfl Z.ar ?_; (with_reducible refine (laws_toIntS.calls kj108 _ _ l1 t994 _ ?q1 ?q2 A112.out).mono ?_); (case q1 => exact Z.cc HR1 HB); (case q2 => exact HC1.out); rintro e w120 ⟨v995, rfl, ho0, hb⟩; refine ⟨_, rfl, ?_⟩; replace HO_10 := Aside0.mk (Kd.R_below (by (with_reducible skip); exact HO_10.out) hb); replace HO_15 := Aside0.mk (Kd.R_below (by (with_reducible skip); exact HO_15.out) hb); replace HO993 := Aside0.mk (Kd.R_below (by (with_reducible skip); exact HO993.out) hb); have HO996 := Aside0.mk (Kd.R_lower (Kd.R_new' ho0 (Kd.R_lt (by (with_reducible skip); exact HO990.out))) (below_size (Z.bs HB.out GE913.out))); replace HO990 := Aside0.mk (Kd.R_elder' (by (with_reducible skip); exact HO990.out) (Kd.R_base ho0) hb); replace BK913 := Z.bb BK913 hb; replace HB := Z.st (Z.bs HB.out GE913.out) hb; (try clear hb); (try clear ho0)) | ((with_reducible refine gate_callee (f := 21) rfl ?_); refine goesL_ (some 118) rfl rfl Try.func21 (by kernel_rfl) rfl #[.slice A2 l2.length c2] rfl Z.ar ?_; (with_reducible refine (laws_toIntS.calls kj108 _ _ l2 t997 _ ?q1 ?q2 A113.out).mono ?_); (case q1 => exact Z.cc HR2 HB); (case q2 => exact HC2.out); rintro e w121 ⟨v998, rfl, ho0, hb⟩; refine ⟨_, rfl, ?_⟩; replace HO_10 := Aside0.mk (Kd.R_below (by (with_reducible skip); exact HO_10.out) hb); replace HO_15 := Aside0.mk (Kd.R_below (by (with_reducible skip); exact HO_15.out) hb); replace HO993 := Aside0.mk (Kd.R_below (by (with_reducible skip); exact HO993.out) hb); have HO999 := Aside0.mk (Kd.R_lower (Kd.R_new' (Kd.R_new' ho0 (Kd.R_lt (by (with_reducible skip); exact HO990.out))) (Kd.R_lt (by (with_reducible skip); exact HO996.out))) (below_size (Z.bs HB.out GE913.out))); replace HO990 := Aside0.mk (Kd.R_elder' (by (with_reducible skip); exact HO990.out) (Kd.R_base ho0) hb); replace HO996 := Aside0.mk (Kd.R_elder' (by (with_reducible skip); exact HO996.out) (Kd.R_base ho0) hb); replace BK913 := Z.bb BK913 hb; replace HB := Z.st (Z.bs HB.out GE913.out) hb; (try clear hb); (try clear ho0)) | ((with_reducible refine gate_callee (f := 22) rfl ?_); refine goesL_ (some 120) rfl rfl Try.func22 (by kernel_rfl) rfl #[.slice A3 l3.length c3] rfl Z.ar ?_; (with_reducible refine (laws_toActS.calls kj108 _ _ l3 t1000 _ ?q1 ?q2 A114.out).mono ?_); (case q1 => exact Z.cc HR3 HB); (case q2 => exact HC3.out); rintro e w122 ⟨v1001, rfl, ho0, hb⟩; refine ⟨_, rfl, ?_⟩; replace HO990 := Aside0.mk (Kd.R_below (by (with_reducible skip); exact HO990.out) hb); replace HO993 := Aside0.mk (Kd.R_below (by (with_reducible skip); exact HO993.out) hb); replace HO996 := Aside0.mk (Kd.R_below (by (with_reducible skip); exact HO996.out) hb); replace HO999 := Aside0.mk (Kd.R_below (by (with_reducible skip); exact HO999.out) hb); have HO1002 := Aside0.mk (Kd.R_lower (Kd.R_new' (Kd.R_new' ho0 (Kd.R_lt (by (with_reducible skip); exact HO_10.out))) (Kd.R_lt (by (with_reducible skip); exact HO_15.out))) (below_size (Z.bs HB.out GE913.out))); replace HO_10 := Aside0.mk (Kd.R_elder' (by (with_reducible skip); exact HO_10.out) (Kd.R_base ho0) hb); replace HO_15 := Aside0.mk (Kd.R_elder' (by (with_reducible skip); exact HO_15.out) (Kd.R_base ho0) hb); replace BK913 := Z.bb BK913 hb; replace HB := Z.st (Z.bs HB.out GE913.out) hb; (try clear hb); (try clear ho0); obtain ⟨Ao123, co123, eo123⟩ := Kd.R_slice HO990.out; subst eo123; obtain ⟨Ao124, co124, eo124⟩ := Kd.R_slice HO993.out; subst eo124; obtain ⟨Ao125, co125, eo125⟩ := Kd.R_slice HO996.out; subst eo125; obtain ⟨Ao126, co126, eo126⟩ := Kd.R_slice HO999.out; subst eo126; obtain ⟨Ao127, co127, eo127⟩ := Kd.R_slice HO1002.out; subst eo127) | ((with_reducible refine gate_callee (f := 42) rfl ?_); refine goesL_ (some 121) rfl rfl Try.func42 (by kernel_rfl) rfl #[.agg #[.int .i64 t987, .slice Ao123 t988.length co123, .slice Ao124 t991.length co124], .slice Ao125 t994.length co125, .slice Ao126 t997.length co126, .slice Ao127 t1000.length co127] rfl Z.ar ?_; (with_reducible refine (impl_SafeActs.calls kj108 t987 _ _ t988 _ _ t991 _ _ t994 _ _ t997 _ _ t1000 t1003 _ ?q1 ?q2 ?q3 ?q4 ?q5 ?q6 ?q7 ?q8 ?q9 ?q10 A115.out).mono ?_); (case q1 => repeat (exact (Kd.R_reads' HO990.out).2.2)); (case q2 => exact (Kd.R_reads' HO990.out).2.1); (case q3 => repeat (exact (Kd.R_reads' HO993.out).2.2)); (case q4 => exact (Kd.R_reads' HO993.out).2.1); (case q5 => repeat (exact (Kd.R_reads' HO996.out).2.2)); (case q6 => exact (Kd.R_reads' HO996.out).2.1); (case q7 => repeat (exact (Kd.R_reads' HO999.out).2.2)); (case q8 => exact (Kd.R_reads' HO999.out).2.1); (case q9 => repeat (exact (Kd.R_reads' HO1002.out).2.2)); (case q10 => exact (Kd.R_reads' HO1002.out).2.1); rintro e w128 ⟨v1004, rfl, ho0, hb⟩; refine ⟨_, rfl, ?_⟩; replace HO990 := Aside0.mk (Kd.R_below (by (with_reducible skip); exact HO990.out) hb); replace HO993 := Aside0.mk (Kd.R_below (by (with_reducible skip); exact HO993.out) hb); replace HO996 := Aside0.mk (Kd.R_below (by (with_reducible skip); exact HO996.out) hb); replace HO999 := Aside0.mk (Kd.R_below (by (with_reducible skip); exact HO999.out) hb); have HO1005 := Aside0.mk (Kd.R_lower (Kd.R_new' (Kd.R_new' (Kd.R_new' ho0 (Kd.R_lt (by (with_reducible skip); exact HO_10.out))) (Kd.R_lt (by (with_reducible skip); exact HO_15.out))) (Kd.R_lt (by (with_reducible skip); exact HO1002.out))) (below_size (Z.bs HB.out GE913.out))); replace HO_10 := Aside0.mk (Kd.R_elder' (by (with_reducible skip); exact HO_10.out) (Kd.R_base ho0) hb); replace HO_15 := Aside0.mk (Kd.R_elder' (by (with_reducible skip); exact HO_15.out) (Kd.R_base ho0) hb); replace HO1002 := Aside0.mk (Kd.R_elder' (by (with_reducible skip); exact HO1002.out) (Kd.R_base ho0) hb); replace BK913 := Z.bb BK913 hb; replace HB := Z.st (Z.bs HB.out GE913.out) hb; (try clear hb); (try clear ho0); obtain ⟨Ao129, co129, eo129⟩ := Kd.R_slice HO1005.out; subst eo129) | ((with_reducible refine gate_callee (f := 26) rfl ?_); refine goesL_ (some 124) rfl rfl Try.func26 (by kernel_rfl) rfl #[.slice Ao129 t1003.length co129, .slice Ao57 t932.length co57] rfl Z.ar ?_; (with_reducible refine (laws_eqActS.calls kj108 _ _ t1003 _ _ t932 t1006 _ ?q1 ?q2 ?q3 ?q4 A116.out).mono ?_); (case q1 => repeat (exact (Kd.R_reads' HO1005.out).2.2)); (case q2 => exact (Kd.R_reads' HO1005.out).2.1); (case q3 => repeat (exact (Kd.R_reads' HO_10.out).2.2)); (case q4 => exact (Kd.R_reads' HO_10.out).2.1); rintro e w130 ⟨rfl, hb⟩; refine ⟨_, rfl, ?_⟩; replace HO_10 := Aside0.mk (Kd.R_below (by (with_reducible skip); exact HO_10.out) hb); replace HO_15 := Aside0.mk (Kd.R_below (by (with_reducible skip); exact HO_15.out) hb); replace HO990 := Aside0.mk (Kd.R_below (by (with_reducible skip); exact HO990.out) hb); replace HO993 := Aside0.mk (Kd.R_below (by (with_reducible skip); exact HO993.out) hb); replace HO996 := Aside0.mk (Kd.R_below (by (with_reducible skip); exact HO996.out) hb); replace HO999 := Aside0.mk (Kd.R_below (by (with_reducible skip); exact HO999.out) hb); replace HO1002 := Aside0.mk (Kd.R_below (by (with_reducible skip); exact HO1002.out) hb); replace HO1005 := Aside0.mk (Kd.R_below (by (with_reducible skip); exact HO1005.out) hb); replace BK913 := Z.bb BK913 hb; replace HB := Z.st (Z.bs HB.out GE913.out) hb; (try clear hb)))
                           go_cut [] (fun wc => ∃ (kq : Nat), Aside0 (laws_FnExactSafeActs.j13 kq t985 t984 = some r) ∧ Aside0 (kq ≤ kj108) ∧ Aside0 (Kd.R k53 53 wc w.heap.size (fun _ => True) (.slice Ao56 t985.length co56) t985) ∧ Aside0 (wc.heap[gb913]? = some (.cells #[.int .i64 a0_0, (.slice A0_1 l0_1.length c0_1), (.slice A0_2 l0_2.length c0_2)] 27 (0, 0))) ∧ Aside0 (Below w.heap.size w wc))
                           case first =>
                            have H := HC117.out
                            clear HC117
                            by_cases c131 : t1006 = true
                            ·subst c131
                             rw [if_pos rfl] at H
                             have H' := Aside0.mk H
                             clear H
                             go_wp2
                             go_meet
                             case rel => exact ⟨_, H', ⟨by have := HJ4.out; have := HJ7.out; have := HJ10.out; have := HJ15.out; have := HJ28.out; have := HJ61.out; have := HJ70.out; have := HJ76.out; have := HJ82.out; have := HJ91.out; have := HJ101.out; have := HJ105.out; have := HJ108.out; omega⟩, ⟨by (with_reducible skip); exact Kd.R_mono HO_15.out (fun _ hk => trivial)⟩, ⟨by (with_reducible skip); exact BK913.out⟩, ⟨Z.bs HB.out GE913.out⟩⟩
                            ·replace c131 := Bool.eq_false_iff.mpr c131
                             subst c131
                             rw [if_neg (show ¬ (false = true) by decide)] at H
                             obtain rfl := Option.some.inj H
                             go_wp2
                             go_ret
                             exact ⟨by rfl, Z.bs HB.out GE913.out⟩
                           case rest =>
                            clear HC117
                            obtain ⟨kq, HA, HJ116, HO_15, BK913, HB⟩ := hcut
                            cases kq with
                            | zero => exact absurd HA.out (by simp [laws_FnExactSafeActs.j13])
                            | succ kj116 =>
                             have H := HA.out
                             clear HA
                             simp only [laws_FnExactSafeActs.j13] at H
                             replace H := Option.bind_eq_some_iff.mp H
                             obtain ⟨t1007, A1320, H⟩ := H
                             have A132 := Aside0.mk A1320
                             clear A1320
                             by_cases c133 : t1007 < 0
                             ·rw [if_pos c133] at H
                              have c133b0 := decide_eq_true c133
                              clear c133
                              obtain rfl := Option.some.inj H
                              go_wp2_with (((with_reducible refine gate_callee (f := 35) rfl ?_); refine goesL_ (some 128) rfl rfl Try.func35 (by kernel_rfl) rfl #[.slice Ao56 t985.length co56, .int .i64 1] rfl Z.ar ?_; (with_reducible refine (laws_heldActS.calls kj116 _ _ t985 1 t1007 _ ?q1 ?q2 A132.out).mono ?_); (case q1 => repeat (exact (Kd.R_reads' HO_15.out).2.2)); (case q2 => exact (Kd.R_reads' HO_15.out).2.1); rintro e w' ⟨rfl, ⟨nd, rfl⟩⟩; refine ⟨_, rfl, ?_⟩))
                              go_ret
                              exact ⟨by rfl, Z.bs HB.out GE913.out⟩
                             ·rw [if_neg c133] at H
                              have c133b0 := decide_eq_false c133
                              clear c133
                              by_cases c134 : t1007 = t984
                              ·rw [if_pos c134] at H
                               have c134b0 : (t1007 == t984) = true := beq_iff_eq.mpr c134
                               have c134b1 : (t1007 != t984) = false := bne_eq_false_iff_eq.mpr c134
                               clear c134
                               obtain rfl := Option.some.inj H
                               go_wp2_with (((with_reducible refine gate_callee (f := 35) rfl ?_); refine goesL_ (some 128) rfl rfl Try.func35 (by kernel_rfl) rfl #[.slice Ao56 t985.length co56, .int .i64 1] rfl Z.ar ?_; (with_reducible refine (laws_heldActS.calls kj116 _ _ t985 1 t1007 _ ?q1 ?q2 A132.out).mono ?_); (case q1 => repeat (exact (Kd.R_reads' HO_15.out).2.2)); (case q2 => exact (Kd.R_reads' HO_15.out).2.1); rintro e w' ⟨rfl, ⟨nd, rfl⟩⟩; refine ⟨_, rfl, ?_⟩))
                               go_ret
                               exact ⟨by rfl, Z.bs HB.out GE913.out⟩
                              ·rw [if_neg c134] at H
                               have c134b0 : (t1007 == t984) = false := beq_eq_false_iff_ne.mpr c134
                               have c134b1 : (t1007 != t984) = true := bne_iff_ne.mpr c134
                               obtain rfl := Option.some.inj H
                               go_wp2_with (((with_reducible refine gate_callee (f := 35) rfl ?_); refine goesL_ (some 128) rfl rfl Try.func35 (by kernel_rfl) rfl #[.slice Ao56 t985.length co56, .int .i64 1] rfl Z.ar ?_; (with_reducible refine (laws_heldActS.calls kj116 _ _ t985 1 t1007 _ ?q1 ?q2 A132.out).mono ?_); (case q1 => repeat (exact (Kd.R_reads' HO_15.out).2.2)); (case q2 => exact (Kd.R_reads' HO_15.out).2.1); rintro e w' ⟨rfl, ⟨nd, rfl⟩⟩; refine ⟨_, rfl, ?_⟩))
                               go_ret
                               exact ⟨by rfl, Z.bs HB.out GE913.out⟩

end Go.Proofs.Ytcafckapdgaogaa.PAll

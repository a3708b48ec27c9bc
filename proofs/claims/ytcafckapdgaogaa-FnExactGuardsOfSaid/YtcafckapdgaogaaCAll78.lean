/- Walks of functions that some laws of this seat reach, in the form of the print. -/
import Derived.Test.YtcafckapdgaogaaCAll0
import Derived.Test.YtcafckapdgaogaaCAll1
import Derived.Test.YtcafckapdgaogaaCAll2
import Derived.Test.YtcafckapdgaogaaCAll10
import Derived.Test.YtcafckapdgaogaaCAll17
import Derived.Test.YtcafckapdgaogaaCAll19
import Derived.Test.YtcafckapdgaogaaCAll23
import Derived.Test.YtcafckapdgaogaaCAll47
import Derived.Test.YtcafckapdgaogaaCAll48
import Derived.Test.YtcafckapdgaogaaCAll64
import Derived.Test.YtcafckapdgaogaaZ
import Derived.Test.YtcafckapdgaogaaV2
-- PRINTED
namespace Go.Proofs.Ytcafckapdgaogaa.PAll
open Go.RowKit Go.Proofs.YtcafckapdgaogaaW.PrintWords Go.Proofs.YtcafckapdgaogaaW.PrintLast Go.Proofs.YtcafckapdgaogaaW.PrintMore
attribute [local go_sem] max2_int min2_int max_two min_two max_three min_three max_four min_four
set_option linter.unusedVariables false
set_option linter.unusedSimpArgs false


/-! ### laws_FnExactGuardsOf: function 16 -/
mutual
def laws_FnExactGuardsOf.j0 : Nat → List Int → List Int → Int → List Int → List (List (S128)) → Option (Bool)
 | 0, _, _, _, _, _ => none
 | k + 1, x1, x2, x1784000, x1784001, x1784002 => if (x2.length : Int) > 1048576 then (some true) else (laws_FnExactGuardsOf.j1 k x1 x2 x1784000 x1784001 x1784002)
def laws_FnExactGuardsOf.j1 : Nat → List Int → List Int → Int → List Int → List (List (S128)) → Option (Bool)
 | 0, _, _, _, _, _ => none
 | k + 1, x1, x2, x1784000, x1784001, x1784002 => (laws_szCharter.f k x1784000 x1784001 x1784002 1048576).bind fun t1784 => (if t1784 < 0 then (some true) else (laws_FnExactGuardsOf.j2 k x1 x2 x1784000 x1784001 x1784002))
def laws_FnExactGuardsOf.j2 : Nat → List Int → List Int → Int → List Int → List (List (S128)) → Option (Bool)
 | 0, _, _, _, _, _ => none
 | k + 1, x1, x2, x1784000, x1784001, x1784002 => (laws_toCharter.f k x1784000 x1784001 x1784002).bind fun bt1785 => ((laws_toIntS.f k x1).bind fun t1792 => ((laws_toIntS.f k x2).bind fun t1795 => ((spec_GuardsOf.f k bt1785.1 bt1785.2.1 bt1785.2.2 t1792 t1795).bind fun t1798 => ((laws_toCharter.f k x1784000 x1784001 x1784002).bind fun bt1801 => ((laws_toIntS.f k x1).bind fun t1809 => ((laws_toIntS.f k x2).bind fun t1812 => ((impl_GuardsOf.f k bt1801.1 bt1801.2.1 bt1801.2.2 t1809 t1812).bind fun t1815 => ((laws_eqIntS.f k t1815 t1798).bind fun t1818 => (if t1818 = true then (laws_FnExactGuardsOf.j3 k x1 x2 t1798 t1809 t1812 t1815 x1784000 x1784001 x1784002 bt1801.1 bt1801.2.1 bt1801.2.2) else (some false))))))))))
def laws_FnExactGuardsOf.j3 : Nat → List Int → List Int → List Int → List Int → List Int → List Int → Int → List Int → List (List (S128)) → Int → List Int → List (List (S86)) → Option (Bool)
 | 0, _, _, _, _, _, _, _, _, _, _, _, _ => none
 | k + 1, x1, x2, x8, x10, x11, x12, x1784000, x1784001, x1784002, x1809000, x1809001, x1809002 => (laws_toCharter.f k x1784000 x1784001 x1784002).bind fun bt1819 => ((laws_eqCharter.f k x1809000 x1809001 x1809002 bt1819.1 bt1819.2.1 bt1819.2.2).bind fun t1826 => (if t1826 = true then (laws_FnExactGuardsOf.j4 k x1 x2 x8 x10 x11 x12 x1784000 x1784001 x1784002 x1809000 x1809001 x1809002) else (some false)))
def laws_FnExactGuardsOf.j4 : Nat → List Int → List Int → List Int → List Int → List Int → List Int → Int → List Int → List (List (S128)) → Int → List Int → List (List (S86)) → Option (Bool)
 | 0, _, _, _, _, _, _, _, _, _, _, _, _ => none
 | k + 1, x1, x2, x8, x10, x11, x12, x1784000, x1784001, x1784002, x1809000, x1809001, x1809002 => (laws_toIntS.f k x1).bind fun t1827 => ((laws_eqIntS.f k x10 t1827).bind fun t1830 => (if t1830 = true then (laws_FnExactGuardsOf.j5 k x1 x2 x8 x10 x11 x12 x1784000 x1784001 x1784002 x1809000 x1809001 x1809002) else (some false)))
def laws_FnExactGuardsOf.j5 : Nat → List Int → List Int → List Int → List Int → List Int → List Int → Int → List Int → List (List (S128)) → Int → List Int → List (List (S86)) → Option (Bool)
 | 0, _, _, _, _, _, _, _, _, _, _, _, _ => none
 | k + 1, x1, x2, x8, x10, x11, x12, x1784000, x1784001, x1784002, x1809000, x1809001, x1809002 => (laws_toIntS.f k x2).bind fun t1831 => ((laws_eqIntS.f k x11 t1831).bind fun t1834 => (if t1834 = true then (laws_FnExactGuardsOf.j6 k x1 x2 x8 x10 x11 x12 x1784000 x1784001 x1784002 x1809000 x1809001 x1809002) else (some false)))
def laws_FnExactGuardsOf.j6 : Nat → List Int → List Int → List Int → List Int → List Int → List Int → Int → List Int → List (List (S128)) → Int → List Int → List (List (S86)) → Option (Bool)
 | 0, _, _, _, _, _, _, _, _, _, _, _, _ => none
 | k + 1, x1, x2, x8, x10, x11, x12, x1784000, x1784001, x1784002, x1809000, x1809001, x1809002 => (laws_markCharter.f x1809000 x1809001 x1809002 1).bind fun t1835 => ((laws_markIntS.f k x10 t1835).bind fun bt1836 => ((laws_markIntS.f k x11 bt1836.1).bind fun bt1838 => (if bt1838.1 < 0 then (laws_FnExactGuardsOf.j7 k x1 x2 x8 x12 true x1784000 x1784001 x1784002) else ((laws_eqIntS.f k x12 x8).bind fun t1840 => (laws_FnExactGuardsOf.j7 k x1 x2 x8 x12 (!t1840) x1784000 x1784001 x1784002)))))
def laws_FnExactGuardsOf.j7 : Nat → List Int → List Int → List Int → List Int → Bool → Int → List Int → List (List (S128)) → Option (Bool)
 | 0, _, _, _, _, _, _, _, _ => none
 | k + 1, x1, x2, x8, x12, x80, x1784000, x1784001, x1784002 => if x80 = true then (some false) else (laws_FnExactGuardsOf.j8 k x1 x2 x8 x12 x1784000 x1784001 x1784002)
def laws_FnExactGuardsOf.j8 : Nat → List Int → List Int → List Int → List Int → Int → List Int → List (List (S128)) → Option (Bool)
 | 0, _, _, _, _, _, _, _ => none
 | k + 1, x1, x2, x8, x12, x1784000, x1784001, x1784002 => (laws_markIntS.f k x12 1).bind fun bt1841 => ((laws_heldIntS.f k bt1841.2 1).bind fun t1843 => (if t1843 < 0 then (some false) else (laws_FnExactGuardsOf.j9 k x1 x2 x8 bt1841.2 bt1841.1 t1843 x1784000 x1784001 x1784002)))
def laws_FnExactGuardsOf.j9 : Nat → List Int → List Int → List Int → List Int → Int → Int → Int → List Int → List (List (S128)) → Option (Bool)
 | 0, _, _, _, _, _, _, _, _, _ => none
 | k + 1, x1, x2, x8, x12, x14, x15, x1784000, x1784001, x1784002 => if x15 = x14 then (laws_FnExactGuardsOf.j10 k x1 x2 x8 x12 x14 x1784000 x1784001 x1784002) else (some false)
def laws_FnExactGuardsOf.j10 : Nat → List Int → List Int → List Int → List Int → Int → Int → List Int → List (List (S128)) → Option (Bool)
 | 0, _, _, _, _, _, _, _, _ => none
 | k + 1, x1, x2, x8, x12, x14, x1784000, x1784001, x1784002 => (laws_toCharter.f k x1784000 x1784001 x1784002).bind fun bt1844 => ((laws_toIntS.f k x1).bind fun t1851 => ((laws_toIntS.f k x2).bind fun t1854 => ((impl_GuardsOf.f k bt1844.1 bt1844.2.1 bt1844.2.2 t1851 t1854).bind fun t1857 => ((laws_eqIntS.f k t1857 x8).bind fun t1860 => (if t1860 = true then (laws_FnExactGuardsOf.j11 k x12 x14) else (some false))))))
def laws_FnExactGuardsOf.j11 : Nat → List Int → Int → Option (Bool)
 | 0, _, _ => none
 | k + 1, x12, x14 => (laws_heldIntS.f k x12 1).bind fun t1861 => (if t1861 < 0 then (some false) else (if t1861 = x14 then (some true) else (some false)))
end
def laws_FnExactGuardsOf.f (k : Nat) (a0_0 : Int) (l0_1 : List Int) (l0_2 : List (List (S128))) (l1 : List Int) (l2 : List Int) : Option (Bool) := if (l1.length : Int) > 1048576 then (some true) else (laws_FnExactGuardsOf.j0 k l1 l2 a0_0 l0_1 l0_2)
set_option maxHeartbeats 8000000 in
set_option maxRecDepth 100000 in
theorem laws_FnExactGuardsOf.calls (k : Nat) (a0_0 : Int) (A0_1 : Option Addr) (c0_1 : Nat) (l0_1 : List Int) (A0_2 : Option Addr) (c0_2 : Nat) (l0_2 : List (List (S128))) (A1 : Option Addr) (c1 : Nat) (l1 : List Int) (A2 : Option Addr) (c2 : Nat) (l2 : List Int) (r : Bool) (w : World) (hr0_1 : Kd.C (Kd.int .i64) w A0_1 l0_1.length l0_1) (hc0_1 : l0_1.length ≤ c0_1) (hr0_2 : Kd.C (Kd.slice 128 k128) w A0_2 l0_2.length l0_2) (hc0_2 : l0_2.length ≤ c0_2) (hr1 : Kd.C (Kd.int .i64) w A1 l1.length l1) (hc1 : l1.length ≤ c1) (hr2 : Kd.C (Kd.int .i64) w A2 l2.length l2) (hc2 : l2.length ≤ c2) (h : laws_FnExactGuardsOf.f k a0_0 l0_1 l0_2 l1 l2 = some r) :
  Calls Try.prog 16 #[.agg #[.int .i64 a0_0, .slice A0_1 l0_1.length c0_1, .slice A0_2 l0_2.length c0_2], .slice A1 l1.length c1, .slice A2 l2.length c2] w fun e w' => e = .returned (.bool r) ∧ Below w.heap.size w w' := by
 have hu27 := Try.underlying27
 have hu35 := Try.underlying35
 have HR0_1 := Aside0.mk hr0_1
 have HC0_1 := Aside0.mk hc0_1
 clear hr0_1 hc0_1
 have HR0_2 := Aside0.mk hr0_2
 have HC0_2 := Aside0.mk hc0_2
 clear hr0_2 hc0_2
 have HR1 := Aside0.mk hr1
 have HC1 := Aside0.mk hc1
 clear hr1 hc1
 have HR2 := Aside0.mk hr2
 have HC2 := Aside0.mk hc2
 clear hr2 hc2
 have HB := Aside0.mk (Below.refl w.heap.size w)
 have H := h
 clear h
 unfold laws_FnExactGuardsOf.f at H
 have HC4 := Aside0.mk H
 clear H
 go_enter Try.func16, Try.ntmps16
 go_upto_if 19 with (((with_reducible refine gate_dst (N := 3) rfl ?_); refine Z.bx #[.int .i64 a0_0, .slice A0_1 l0_1.length c0_1, .slice A0_2 l0_2.length c0_2] 27 HB ?_; clear HB; intro gb1783 w5 BK1783 GE1783 HB hg hb; have GW1783 := GE1783; clear hb hg))
 go_cut [] (fun wc => ∃ (kq : Nat), Aside0 (laws_FnExactGuardsOf.j0 kq l1 l2 a0_0 l0_1 l0_2 = some r) ∧ Aside0 (kq ≤ k) ∧ Aside0 (wc.heap[gb1783]? = some (.cells #[.int .i64 a0_0, (.slice A0_1 l0_1.length c0_1), (.slice A0_2 l0_2.length c0_2)] 27 (0, 0))) ∧ Aside0 (Below w.heap.size w wc))
 case first =>
  have H := HC4.out
  clear HC4
  by_cases c6 : (l1.length : Int) > 1048576
  ·rw [if_pos c6] at H
   have c6b0 : decide (1048576 < (l1.length : Int)) = true := decide_eq_true c6
   have c6b1 : decide (1048576 < l1.length) = true := decide_eq_true (by omega)
   clear c6
   (rw [c6b0])
   obtain rfl := Option.some.inj H
   go_wp2
   go_ret
   exact ⟨by rfl, Z.bs HB.out GE1783.out⟩
  ·rw [if_neg c6] at H
   have c6b0 : decide (1048576 < (l1.length : Int)) = false := decide_eq_false c6
   have c6b1 : decide (1048576 < l1.length) = false := decide_eq_false (by omega)
   clear c6
   (rw [c6b0])
   have H' := Aside0.mk H
   clear H
   go_wp2
   go_meet
   case rel => exact ⟨_, H', ⟨by omega⟩, ⟨by (with_reducible skip); exact BK1783.out⟩, ⟨Z.bs HB.out GE1783.out⟩⟩
 case rest =>
  clear HC4
  obtain ⟨kq, HA, HJ3, BK1783, HB⟩ := hcut
  cases kq with
  | zero => exact absurd HA.out (by simp [laws_FnExactGuardsOf.j0])
  | succ kj3 =>
   have H := HA.out
   clear HA
   simp only [laws_FnExactGuardsOf.j0] at H
   have HC7 := Aside0.mk H
   clear H
   go_upto_if 22 with (fail)
   go_cut [] (fun wc => ∃ (kq : Nat), Aside0 (laws_FnExactGuardsOf.j1 kq l1 l2 a0_0 l0_1 l0_2 = some r) ∧ Aside0 (kq ≤ kj3) ∧ Aside0 (wc.heap[gb1783]? = some (.cells #[.int .i64 a0_0, (.slice A0_1 l0_1.length c0_1), (.slice A0_2 l0_2.length c0_2)] 27 (0, 0))) ∧ Aside0 (Below w.heap.size w wc))
   case first =>
    have H := HC7.out
    clear HC7
    by_cases c8 : (l2.length : Int) > 1048576
    ·rw [if_pos c8] at H
     have c8b0 : decide (1048576 < (l2.length : Int)) = true := decide_eq_true c8
     have c8b1 : decide (1048576 < l2.length) = true := decide_eq_true (by omega)
     clear c8
     (rw [c8b0])
     obtain rfl := Option.some.inj H
     go_wp2
     go_ret
     exact ⟨by rfl, Z.bs HB.out GE1783.out⟩
    ·rw [if_neg c8] at H
     have c8b0 : decide (1048576 < (l2.length : Int)) = false := decide_eq_false c8
     have c8b1 : decide (1048576 < l2.length) = false := decide_eq_false (by omega)
     clear c8
     (rw [c8b0])
     have H' := Aside0.mk H
     clear H
     go_wp2
     go_meet
     case rel => exact ⟨_, H', ⟨by have := HJ3.out; omega⟩, ⟨by (with_reducible skip); exact BK1783.out⟩, ⟨Z.bs HB.out GE1783.out⟩⟩
   case rest =>
    clear HC7
    obtain ⟨kq, HA, HJ6, BK1783, HB⟩ := hcut
    cases kq with
    | zero => exact absurd HA.out (by simp [laws_FnExactGuardsOf.j1])
    | succ kj6 =>
     have H := HA.out
     clear HA
     simp only [laws_FnExactGuardsOf.j1] at H
     replace H := Option.bind_eq_some_iff.mp H
     obtain ⟨t1784, A90, H⟩ := H
     have A9 := Aside0.mk A90
     clear A90
     have HC10 := Aside0.mk H
     clear H
     have hcz11 := Z.c3 BK1783.out
     go_upto_if 27 with (((with_reducible refine gate_callee (f := 17) rfl ?_); refine goesL_ (some 25) rfl rfl Try.func17 (by kernel_rfl) rfl #[.agg #[.int .i64 a0_0, .slice A0_1 l0_1.length c0_1, .slice A0_2 l0_2.length c0_2], .int .i64 1048576] rfl Z.ar ?_; (with_reducible refine (laws_szCharter.calls kj6 a0_0 _ _ l0_1 _ _ l0_2 1048576 t1784 _ ?q1 ?q2 ?q3 ?q4 A9.out).mono ?_); (case q1 => exact Z.cc HR0_1 HB); (case q2 => exact HC0_1.out); (case q3 => exact Z.cc HR0_2 HB); (case q4 => exact HC0_2.out); rintro e w12 ⟨rfl, hb⟩; refine ⟨_, rfl, ?_⟩; replace BK1783 := Z.bb BK1783 hb; replace HB := Z.st (Z.bs HB.out GE1783.out) hb; (try clear hb)))
     go_cut [] (fun wc => ∃ (kq : Nat), Aside0 (laws_FnExactGuardsOf.j2 kq l1 l2 a0_0 l0_1 l0_2 = some r) ∧ Aside0 (kq ≤ kj6) ∧ Aside0 (wc.heap[gb1783]? = some (.cells #[.int .i64 a0_0, (.slice A0_1 l0_1.length c0_1), (.slice A0_2 l0_2.length c0_2)] 27 (0, 0))) ∧ Aside0 (Below w.heap.size w wc))
     case first =>
      have H := HC10.out
      clear HC10
      by_cases c13 : t1784 < 0
      ·rw [if_pos c13] at H
       have c13b0 := decide_eq_true c13
       clear c13
       (rw [c13b0])
       obtain rfl := Option.some.inj H
       go_wp2
       go_ret
       exact ⟨by rfl, Z.bs HB.out GE1783.out⟩
      ·rw [if_neg c13] at H
       have c13b0 := decide_eq_false c13
       clear c13
       (rw [c13b0])
       have H' := Aside0.mk H
       clear H
       go_wp2
       go_meet
       case rel => exact ⟨_, H', ⟨by have := HJ3.out; have := HJ6.out; omega⟩, ⟨by (with_reducible skip); exact BK1783.out⟩, ⟨Z.bs HB.out GE1783.out⟩⟩
     case rest =>
      clear HC10
      obtain ⟨kq, HA, HJ9, BK1783, HB⟩ := hcut
      cases kq with
      | zero => exact absurd HA.out (by simp [laws_FnExactGuardsOf.j2])
      | succ kj9 =>
       have H := HA.out
       clear HA
       simp only [laws_FnExactGuardsOf.j2] at H
       replace H := Option.bind_eq_some_iff.mp H
       obtain ⟨⟨t1785, t1786, t1789⟩, A140, H⟩ := H
       try dsimp only at H
       have A14 := Aside0.mk A140
       clear A140
       replace H := Option.bind_eq_some_iff.mp H
       obtain ⟨t1792, A150, H⟩ := H
       have A15 := Aside0.mk A150
       clear A150
       replace H := Option.bind_eq_some_iff.mp H
       obtain ⟨t1795, A160, H⟩ := H
       have A16 := Aside0.mk A160
       clear A160
       replace H := Option.bind_eq_some_iff.mp H
       obtain ⟨t1798, A170, H⟩ := H
       have A17 := Aside0.mk A170
       clear A170
       replace H := Option.bind_eq_some_iff.mp H
       obtain ⟨⟨t1801, t1802, t1805⟩, A180, H⟩ := H
       try dsimp only at H
       have A18 := Aside0.mk A180
       clear A180
       replace H := Option.bind_eq_some_iff.mp H
       obtain ⟨t1809, A190, H⟩ := H
       have A19 := Aside0.mk A190
       clear A190
       replace H := Option.bind_eq_some_iff.mp H
       obtain ⟨t1812, A200, H⟩ := H
       have A20 := Aside0.mk A200
       clear A200
       replace H := Option.bind_eq_some_iff.mp H
       obtain ⟨t1815, A210, H⟩ := H
       have A21 := Aside0.mk A210
       clear A210
       replace H := Option.bind_eq_some_iff.mp H
       obtain ⟨t1818, A220, H⟩ := H
       have A22 := Aside0.mk A220
       clear A220
       have HC23 := Aside0.mk H
       clear H
       have hcz24 := Z.c3 BK1783.out
       go_upto_if 48 with (first | ((with_reducible refine gate_callee (f := 20) rfl ?_); refine goesL_ (some 29) rfl rfl Try.func20 (by kernel_rfl) rfl #[.agg #[.int .i64 a0_0, .slice A0_1 l0_1.length c0_1, .slice A0_2 l0_2.length c0_2]] rfl Z.ar ?_; (with_reducible refine (laws_toCharter.calls kj9 a0_0 _ _ l0_1 _ _ l0_2 t1785 t1786 t1789 _ ?q1 ?q2 ?q3 ?q4 A14.out).mono ?_); (case q1 => exact Z.cc HR0_1 HB); (case q2 => exact HC0_1.out); (case q3 => exact Z.cc HR0_2 HB); (case q4 => exact HC0_2.out); rintro e w25 ⟨v1787, v1790, rfl, ho0, ho1, hb⟩; refine ⟨_, rfl, ?_⟩; have HO1788 := Aside0.mk (Kd.R_lower ho0 (below_size (Z.bs HB.out GE1783.out))); have HO1791 := Aside0.mk (Kd.R_lower ho1 (below_size (Z.bs HB.out GE1783.out))); replace BK1783 := Z.bb BK1783 hb; replace HB := Z.st (Z.bs HB.out GE1783.out) hb; (try clear hb); (try clear ho0); (try clear ho1)) | ((with_reducible refine gate_callee (f := 21) rfl ?_); refine goesL_ (some 31) rfl rfl Try.func21 (by kernel_rfl) rfl #[.slice A1 l1.length c1] rfl Z.ar ?_; (with_reducible refine (laws_toIntS.calls kj9 _ _ l1 t1792 _ ?q1 ?q2 A15.out).mono ?_); (case q1 => exact Z.cc HR1 HB); (case q2 => exact HC1.out); rintro e w26 ⟨v1793, rfl, ho0, hb⟩; refine ⟨_, rfl, ?_⟩; replace HO1791 := Aside0.mk (Kd.R_below (by (with_reducible skip); exact HO1791.out) hb); have HO1794 := Aside0.mk (Kd.R_lower (Kd.R_new' ho0 (Kd.R_lt (by (with_reducible skip); exact HO1788.out))) (below_size (Z.bs HB.out GE1783.out))); replace HO1788 := Aside0.mk (Kd.R_elder' (by (with_reducible skip); exact HO1788.out) (Kd.R_base ho0) hb); replace BK1783 := Z.bb BK1783 hb; replace HB := Z.st (Z.bs HB.out GE1783.out) hb; (try clear hb); (try clear ho0)) | ((with_reducible refine gate_callee (f := 21) rfl ?_); refine goesL_ (some 33) rfl rfl Try.func21 (by kernel_rfl) rfl #[.slice A2 l2.length c2] rfl Z.ar ?_; (with_reducible refine (laws_toIntS.calls kj9 _ _ l2 t1795 _ ?q1 ?q2 A16.out).mono ?_); (case q1 => exact Z.cc HR2 HB); (case q2 => exact HC2.out); rintro e w27 ⟨v1796, rfl, ho0, hb⟩; refine ⟨_, rfl, ?_⟩; replace HO1791 := Aside0.mk (Kd.R_below (by (with_reducible skip); exact HO1791.out) hb); have HO1797 := Aside0.mk (Kd.R_lower (Kd.R_new' (Kd.R_new' ho0 (Kd.R_lt (by (with_reducible skip); exact HO1788.out))) (Kd.R_lt (by (with_reducible skip); exact HO1794.out))) (below_size (Z.bs HB.out GE1783.out))); replace HO1788 := Aside0.mk (Kd.R_elder' (by (with_reducible skip); exact HO1788.out) (Kd.R_base ho0) hb); replace HO1794 := Aside0.mk (Kd.R_elder' (by (with_reducible skip); exact HO1794.out) (Kd.R_base ho0) hb); replace BK1783 := Z.bb BK1783 hb; replace HB := Z.st (Z.bs HB.out GE1783.out) hb; (try clear hb); (try clear ho0); obtain ⟨Ao28, co28, eo28⟩ := Kd.R_slice HO1788.out; subst eo28; obtain ⟨Ao29, co29, eo29⟩ := Kd.R_slice HO1791.out; subst eo29; obtain ⟨Ao30, co30, eo30⟩ := Kd.R_slice HO1794.out; subst eo30; obtain ⟨Ao31, co31, eo31⟩ := Kd.R_slice HO1797.out; subst eo31) | ((with_reducible refine gate_callee (f := 57) rfl ?_); refine goesL_ (some 34) rfl rfl Try.func57 (by kernel_rfl) rfl #[.agg #[.int .i64 t1785, .slice Ao28 t1786.length co28, .slice Ao29 t1789.length co29], .slice Ao30 t1792.length co30, .slice Ao31 t1795.length co31] rfl Z.ar ?_; (with_reducible refine (spec_GuardsOf.calls kj9 t1785 _ _ t1786 _ _ t1789 _ _ t1792 _ _ t1795 t1798 _ ?q1 ?q2 ?q3 ?q4 ?q5 ?q6 ?q7 ?q8 A17.out).mono ?_); (case q1 => repeat (exact (Kd.R_reads' HO1788.out).2.2)); (case q2 => exact (Kd.R_reads' HO1788.out).2.1); (case q3 => repeat (exact (Kd.R_reads' HO1791.out).2.2)); (case q4 => exact (Kd.R_reads' HO1791.out).2.1); (case q5 => repeat (exact (Kd.R_reads' HO1794.out).2.2)); (case q6 => exact (Kd.R_reads' HO1794.out).2.1); (case q7 => repeat (exact (Kd.R_reads' HO1797.out).2.2)); (case q8 => exact (Kd.R_reads' HO1797.out).2.1); rintro e w32 ⟨v1799, rfl, ho0, hb⟩; refine ⟨_, rfl, ?_⟩; replace HO1791 := Aside0.mk (Kd.R_below (by (with_reducible skip); exact HO1791.out) hb); have HO1800 := Aside0.mk (Kd.R_lower (Kd.R_new' (Kd.R_new' (Kd.R_new' ho0 (Kd.R_lt (by (with_reducible skip); exact HO1788.out))) (Kd.R_lt (by (with_reducible skip); exact HO1794.out))) (Kd.R_lt (by (with_reducible skip); exact HO1797.out))) (below_size (Z.bs HB.out GE1783.out))); replace HO1788 := Aside0.mk (Kd.R_elder' (by (with_reducible skip); exact HO1788.out) (Kd.R_base ho0) hb); replace HO1794 := Aside0.mk (Kd.R_elder' (by (with_reducible skip); exact HO1794.out) (Kd.R_base ho0) hb); replace HO1797 := Aside0.mk (Kd.R_elder' (by (with_reducible skip); exact HO1797.out) (Kd.R_base ho0) hb); replace BK1783 := Z.bb BK1783 hb; replace HB := Z.st (Z.bs HB.out GE1783.out) hb; (try clear hb); (try clear ho0); have hcz33 := Z.c3 BK1783.out) | ((with_reducible refine gate_callee (f := 20) rfl ?_); refine goesL_ (some 36) rfl rfl Try.func20 (by kernel_rfl) rfl #[.agg #[.int .i64 a0_0, .slice A0_1 l0_1.length c0_1, .slice A0_2 l0_2.length c0_2]] rfl Z.ar ?_; (with_reducible refine (laws_toCharter.calls kj9 a0_0 _ _ l0_1 _ _ l0_2 t1801 t1802 t1805 _ ?q1 ?q2 ?q3 ?q4 A18.out).mono ?_); (case q1 => exact Z.cc HR0_1 HB); (case q2 => exact HC0_1.out); (case q3 => exact Z.cc HR0_2 HB); (case q4 => exact HC0_2.out); rintro e w34 ⟨v1803, v1806, rfl, ho0, ho1, hb⟩; refine ⟨_, rfl, ?_⟩; have HO1804 := Aside0.mk (Kd.R_lower (Kd.R_new' (Kd.R_new' (Kd.R_new' (Kd.R_new' ho0 (Kd.R_lt (by (with_reducible skip); exact HO1788.out))) (Kd.R_lt (by (with_reducible skip); exact HO1794.out))) (Kd.R_lt (by (with_reducible skip); exact HO1797.out))) (Kd.R_lt (by (with_reducible skip); exact HO1800.out))) (below_size (Z.bs HB.out GE1783.out))); replace HO1788 := Aside0.mk (Kd.R_elder' (by (with_reducible skip); exact HO1788.out) (Kd.R_base ho0) hb); replace HO1794 := Aside0.mk (Kd.R_elder' (by (with_reducible skip); exact HO1794.out) (Kd.R_base ho0) hb); replace HO1797 := Aside0.mk (Kd.R_elder' (by (with_reducible skip); exact HO1797.out) (Kd.R_base ho0) hb); replace HO1800 := Aside0.mk (Kd.R_elder' (by (with_reducible skip); exact HO1800.out) (Kd.R_base ho0) hb); have HO1807 := Aside0.mk (Kd.R_lower (Kd.R_new' ho1 (Kd.R_lt (by (with_reducible skip); exact HO1791.out))) (below_size (Z.bs HB.out GE1783.out))); replace HO1791 := Aside0.mk (Kd.R_elder' (by (with_reducible skip); exact HO1791.out) (Kd.R_base ho1) hb); replace BK1783 := Z.bb BK1783 hb; replace HB := Z.st (Z.bs HB.out GE1783.out) hb; (try clear hb); (try clear ho0); (try clear ho1)) | ((with_reducible refine gate_dst (N := 9) rfl ?_); refine Z.bz #[.int .i64 0, .slice none 0 0, .slice none 0 0] 35 HB GE1783 ?_; clear HB; intro gb1808 w35 BK1808 GE1808 HB hg hb; have GW1808 := GE1808; replace HO1788 := Aside0.mk (Kd.R_below (by (with_reducible skip); exact HO1788.out) hb); replace HO1791 := Aside0.mk (Kd.R_below (by (with_reducible skip); exact HO1791.out) hb); replace HO1794 := Aside0.mk (Kd.R_below (by (with_reducible skip); exact HO1794.out) hb); replace HO1797 := Aside0.mk (Kd.R_below (by (with_reducible skip); exact HO1797.out) hb); replace HO1800 := Aside0.mk (Kd.R_below (by (with_reducible skip); exact HO1800.out) hb); replace HO1804 := Aside0.mk (Kd.R_below (by (with_reducible skip); exact HO1804.out) hb); replace HO1807 := Aside0.mk (Kd.R_below (by (with_reducible skip); exact HO1807.out) hb); have NB1783_1808 := Z.nl hg BK1783; have NB1808_1783 := Z.ng hg BK1783; replace BK1783 := Z.bb BK1783 hb; clear hb hg; have hnb36 := NB1808_1783.out; have hnc36 := NB1783_1808.out; have hcz37 := Z.c3 BK1808.out; obtain ⟨Ao38, co38, eo38⟩ := Kd.R_slice HO1804.out; subst eo38; obtain ⟨Ao39, co39, eo39⟩ := Kd.R_slice HO1807.out; subst eo39) | ((with_reducible refine gate_callee (f := 21) rfl ?_); refine goesL_ (some 38) rfl rfl Try.func21 (by kernel_rfl) rfl #[.slice A1 l1.length c1] rfl Z.ar ?_; (with_reducible refine (laws_toIntS.calls kj9 _ _ l1 t1809 _ ?q1 ?q2 A19.out).mono ?_); (case q1 => exact Kd.C_below HR1.out (by repeat ((with_reducible first | exact HB.out | refine below_set ?_ GE1808.out)))); (case q2 => exact HC1.out); rintro e w40 ⟨v1810, rfl, ho0, hb⟩; refine ⟨_, rfl, ?_⟩; replace HO1791 := Aside0.mk (Kd.R_below (by (with_reducible skip); exact (Kd.R_mono (Kd.R_far (p := ⟨gb1808, 2, none⟩) (Kd.R_far (p := ⟨gb1808, 1, none⟩) (Kd.R_far (p := ⟨gb1808, 0, none⟩) (Kd.R_types HO1791.out BK1808.out (by decide)) (fun _ hk => hk.2) (.int .i64 t1801)) (fun _ hk => hk.2) (.slice Ao38 t1802.length co38)) (fun _ hk => hk.2) (.slice Ao39 t1805.length co39)) (fun _ h_ => h_.1))) hb); replace HO1807 := Aside0.mk (Kd.R_below (by (with_reducible skip); exact (Kd.R_mono (Kd.R_far (p := ⟨gb1808, 2, none⟩) (Kd.R_far (p := ⟨gb1808, 1, none⟩) (Kd.R_far (p := ⟨gb1808, 0, none⟩) (Kd.R_types HO1807.out BK1808.out (by decide)) (fun _ hk => hk.2) (.int .i64 t1801)) (fun _ hk => hk.2) (.slice Ao38 t1802.length co38)) (fun _ hk => hk.2) (.slice Ao39 t1805.length co39)) (fun _ h_ => h_.1))) hb); have HO1811 := Aside0.mk (Kd.R_lower (Kd.R_new' (Kd.R_new' (Kd.R_new' (Kd.R_new' (Kd.R_new' ho0 (Kd.R_lt (by (with_reducible skip); exact (Kd.R_mono (Kd.R_far (p := ⟨gb1808, 2, none⟩) (Kd.R_far (p := ⟨gb1808, 1, none⟩) (Kd.R_far (p := ⟨gb1808, 0, none⟩) (Kd.R_types HO1788.out BK1808.out (by decide)) (fun _ hk => hk.2) (.int .i64 t1801)) (fun _ hk => hk.2) (.slice Ao38 t1802.length co38)) (fun _ hk => hk.2) (.slice Ao39 t1805.length co39)) (fun _ h_ => h_.1))))) (Kd.R_lt (by (with_reducible skip); exact (Kd.R_mono (Kd.R_far (p := ⟨gb1808, 2, none⟩) (Kd.R_far (p := ⟨gb1808, 1, none⟩) (Kd.R_far (p := ⟨gb1808, 0, none⟩) (Kd.R_types HO1794.out BK1808.out (by decide)) (fun _ hk => hk.2) (.int .i64 t1801)) (fun _ hk => hk.2) (.slice Ao38 t1802.length co38)) (fun _ hk => hk.2) (.slice Ao39 t1805.length co39)) (fun _ h_ => h_.1))))) (Kd.R_lt (by (with_reducible skip); exact (Kd.R_mono (Kd.R_far (p := ⟨gb1808, 2, none⟩) (Kd.R_far (p := ⟨gb1808, 1, none⟩) (Kd.R_far (p := ⟨gb1808, 0, none⟩) (Kd.R_types HO1797.out BK1808.out (by decide)) (fun _ hk => hk.2) (.int .i64 t1801)) (fun _ hk => hk.2) (.slice Ao38 t1802.length co38)) (fun _ hk => hk.2) (.slice Ao39 t1805.length co39)) (fun _ h_ => h_.1))))) (Kd.R_lt (by (with_reducible skip); exact (Kd.R_mono (Kd.R_far (p := ⟨gb1808, 2, none⟩) (Kd.R_far (p := ⟨gb1808, 1, none⟩) (Kd.R_far (p := ⟨gb1808, 0, none⟩) (Kd.R_types HO1800.out BK1808.out (by decide)) (fun _ hk => hk.2) (.int .i64 t1801)) (fun _ hk => hk.2) (.slice Ao38 t1802.length co38)) (fun _ hk => hk.2) (.slice Ao39 t1805.length co39)) (fun _ h_ => h_.1))))) (Kd.R_lt (by (with_reducible skip); exact (Kd.R_mono (Kd.R_far (p := ⟨gb1808, 2, none⟩) (Kd.R_far (p := ⟨gb1808, 1, none⟩) (Kd.R_far (p := ⟨gb1808, 0, none⟩) (Kd.R_types HO1804.out BK1808.out (by decide)) (fun _ hk => hk.2) (.int .i64 t1801)) (fun _ hk => hk.2) (.slice Ao38 t1802.length co38)) (fun _ hk => hk.2) (.slice Ao39 t1805.length co39)) (fun _ h_ => h_.1))))) (below_size (by repeat ((with_reducible first | exact HB.out | refine below_set ?_ GE1808.out))))); replace HO1788 := Aside0.mk (Kd.R_elder' (by (with_reducible skip); exact (Kd.R_mono (Kd.R_far (p := ⟨gb1808, 2, none⟩) (Kd.R_far (p := ⟨gb1808, 1, none⟩) (Kd.R_far (p := ⟨gb1808, 0, none⟩) (Kd.R_types HO1788.out BK1808.out (by decide)) (fun _ hk => hk.2) (.int .i64 t1801)) (fun _ hk => hk.2) (.slice Ao38 t1802.length co38)) (fun _ hk => hk.2) (.slice Ao39 t1805.length co39)) (fun _ h_ => h_.1))) (Kd.R_base ho0) hb); replace HO1794 := Aside0.mk (Kd.R_elder' (by (with_reducible skip); exact (Kd.R_mono (Kd.R_far (p := ⟨gb1808, 2, none⟩) (Kd.R_far (p := ⟨gb1808, 1, none⟩) (Kd.R_far (p := ⟨gb1808, 0, none⟩) (Kd.R_types HO1794.out BK1808.out (by decide)) (fun _ hk => hk.2) (.int .i64 t1801)) (fun _ hk => hk.2) (.slice Ao38 t1802.length co38)) (fun _ hk => hk.2) (.slice Ao39 t1805.length co39)) (fun _ h_ => h_.1))) (Kd.R_base ho0) hb); replace HO1797 := Aside0.mk (Kd.R_elder' (by (with_reducible skip); exact (Kd.R_mono (Kd.R_far (p := ⟨gb1808, 2, none⟩) (Kd.R_far (p := ⟨gb1808, 1, none⟩) (Kd.R_far (p := ⟨gb1808, 0, none⟩) (Kd.R_types HO1797.out BK1808.out (by decide)) (fun _ hk => hk.2) (.int .i64 t1801)) (fun _ hk => hk.2) (.slice Ao38 t1802.length co38)) (fun _ hk => hk.2) (.slice Ao39 t1805.length co39)) (fun _ h_ => h_.1))) (Kd.R_base ho0) hb); replace HO1800 := Aside0.mk (Kd.R_elder' (by (with_reducible skip); exact (Kd.R_mono (Kd.R_far (p := ⟨gb1808, 2, none⟩) (Kd.R_far (p := ⟨gb1808, 1, none⟩) (Kd.R_far (p := ⟨gb1808, 0, none⟩) (Kd.R_types HO1800.out BK1808.out (by decide)) (fun _ hk => hk.2) (.int .i64 t1801)) (fun _ hk => hk.2) (.slice Ao38 t1802.length co38)) (fun _ hk => hk.2) (.slice Ao39 t1805.length co39)) (fun _ h_ => h_.1))) (Kd.R_base ho0) hb); replace HO1804 := Aside0.mk (Kd.R_elder' (by (with_reducible skip); exact (Kd.R_mono (Kd.R_far (p := ⟨gb1808, 2, none⟩) (Kd.R_far (p := ⟨gb1808, 1, none⟩) (Kd.R_far (p := ⟨gb1808, 0, none⟩) (Kd.R_types HO1804.out BK1808.out (by decide)) (fun _ hk => hk.2) (.int .i64 t1801)) (fun _ hk => hk.2) (.slice Ao38 t1802.length co38)) (fun _ hk => hk.2) (.slice Ao39 t1805.length co39)) (fun _ h_ => h_.1))) (Kd.R_base ho0) hb); replace BK1783 := Aside0.mk (blk_below (g := gb1783) (o := .cells #[.int .i64 a0_0, .slice A0_1 l0_1.length c0_1, .slice A0_2 l0_2.length c0_2] 27 (0, 0)) (by (with_reducible skip); refine blk_far ?_ NB1783_1808.out _; (with_reducible skip); refine blk_far ?_ NB1783_1808.out _; (with_reducible skip); refine blk_far ?_ NB1783_1808.out _; (with_reducible skip); exact BK1783.out) hb); replace BK1808 := Aside0.mk (blk_below (g := gb1808) (o := .cells #[.int .i64 t1801, .slice Ao38 t1802.length co38, .slice Ao39 t1805.length co39] 35 (0, 0)) (by (with_reducible skip); refine blk_put (cs := #[.int .i64 t1801, .slice Ao38 t1802.length co38, .slice none 0 0]) ?_ 2 _ rfl; (with_reducible skip); refine blk_put (cs := #[.int .i64 t1801, .slice none 0 0, .slice none 0 0]) ?_ 1 _ rfl; (with_reducible skip); refine blk_put (cs := #[.int .i64 0, .slice none 0 0, .slice none 0 0]) ?_ 0 _ rfl; (with_reducible skip); exact BK1808.out) hb); replace HB := Aside0.mk (below_step (by repeat ((with_reducible first | exact HB.out | refine below_set ?_ GE1808.out))) hb); (try clear hb); (try clear ho0)) | ((with_reducible refine gate_callee (f := 21) rfl ?_); refine goesL_ (some 40) rfl rfl Try.func21 (by kernel_rfl) rfl #[.slice A2 l2.length c2] rfl Z.ar ?_; (with_reducible refine (laws_toIntS.calls kj9 _ _ l2 t1812 _ ?q1 ?q2 A20.out).mono ?_); (case q1 => exact Z.cc HR2 HB); (case q2 => exact HC2.out); rintro e w41 ⟨v1813, rfl, ho0, hb⟩; refine ⟨_, rfl, ?_⟩; replace HO1791 := Aside0.mk (Kd.R_below (by (with_reducible skip); exact HO1791.out) hb); replace HO1807 := Aside0.mk (Kd.R_below (by (with_reducible skip); exact HO1807.out) hb); have HO1814 := Aside0.mk (Kd.R_lower (Kd.R_new' (Kd.R_new' (Kd.R_new' (Kd.R_new' (Kd.R_new' (Kd.R_new' ho0 (Kd.R_lt (by (with_reducible skip); exact HO1788.out))) (Kd.R_lt (by (with_reducible skip); exact HO1794.out))) (Kd.R_lt (by (with_reducible skip); exact HO1797.out))) (Kd.R_lt (by (with_reducible skip); exact HO1800.out))) (Kd.R_lt (by (with_reducible skip); exact HO1804.out))) (Kd.R_lt (by (with_reducible skip); exact HO1811.out))) (below_size (by repeat ((with_reducible exact HB.out))))); replace HO1788 := Aside0.mk (Kd.R_elder' (by (with_reducible skip); exact HO1788.out) (Kd.R_base ho0) hb); replace HO1794 := Aside0.mk (Kd.R_elder' (by (with_reducible skip); exact HO1794.out) (Kd.R_base ho0) hb); replace HO1797 := Aside0.mk (Kd.R_elder' (by (with_reducible skip); exact HO1797.out) (Kd.R_base ho0) hb); replace HO1800 := Aside0.mk (Kd.R_elder' (by (with_reducible skip); exact HO1800.out) (Kd.R_base ho0) hb); replace HO1804 := Aside0.mk (Kd.R_elder' (by (with_reducible skip); exact HO1804.out) (Kd.R_base ho0) hb); replace HO1811 := Aside0.mk (Kd.R_elder' (by (with_reducible skip); exact HO1811.out) (Kd.R_base ho0) hb); replace BK1783 := Z.bb BK1783 hb; replace BK1808 := Z.bb BK1808 hb; replace HB := Aside0.mk (below_step (by repeat ((with_reducible exact HB.out))) hb); (try clear hb); (try clear ho0); have hcz42 := Z.c3 BK1808.out; obtain ⟨Ao43, co43, eo43⟩ := Kd.R_slice HO1811.out; subst eo43; obtain ⟨Ao44, co44, eo44⟩ := Kd.R_slice HO1814.out; subst eo44) | ((with_reducible refine gate_callee (f := 58) rfl ?_); refine goesL_ (some 44) rfl rfl Try.func58 (by kernel_rfl) rfl #[.agg #[.int .i64 t1801, .slice Ao38 t1802.length co38, .slice Ao39 t1805.length co39], .slice Ao43 t1809.length co43, .slice Ao44 t1812.length co44] rfl Z.ar ?_; (with_reducible refine (impl_GuardsOf.calls kj9 t1801 _ _ t1802 _ _ t1805 _ _ t1809 _ _ t1812 t1815 _ ?q1 ?q2 ?q3 ?q4 ?q5 ?q6 ?q7 ?q8 A21.out).mono ?_); (case q1 => repeat (exact (Kd.R_reads' HO1804.out).2.2)); (case q2 => exact (Kd.R_reads' HO1804.out).2.1); (case q3 => repeat (exact (Kd.R_reads' HO1807.out).2.2)); (case q4 => exact (Kd.R_reads' HO1807.out).2.1); (case q5 => repeat (exact (Kd.R_reads' HO1811.out).2.2)); (case q6 => exact (Kd.R_reads' HO1811.out).2.1); (case q7 => repeat (exact (Kd.R_reads' HO1814.out).2.2)); (case q8 => exact (Kd.R_reads' HO1814.out).2.1); rintro e w45 ⟨v1816, rfl, ho0, hb⟩; refine ⟨_, rfl, ?_⟩; replace HO1791 := Aside0.mk (Kd.R_below (by (with_reducible skip); exact HO1791.out) hb); replace HO1807 := Aside0.mk (Kd.R_below (by (with_reducible skip); exact HO1807.out) hb); have HO1817 := Aside0.mk (Kd.R_lower (Kd.R_new' (Kd.R_new' (Kd.R_new' (Kd.R_new' (Kd.R_new' (Kd.R_new' (Kd.R_new' ho0 (Kd.R_lt (by (with_reducible skip); exact HO1788.out))) (Kd.R_lt (by (with_reducible skip); exact HO1794.out))) (Kd.R_lt (by (with_reducible skip); exact HO1797.out))) (Kd.R_lt (by (with_reducible skip); exact HO1800.out))) (Kd.R_lt (by (with_reducible skip); exact HO1804.out))) (Kd.R_lt (by (with_reducible skip); exact HO1811.out))) (Kd.R_lt (by (with_reducible skip); exact HO1814.out))) (below_size (by repeat ((with_reducible exact HB.out))))); replace HO1788 := Aside0.mk (Kd.R_elder' (by (with_reducible skip); exact HO1788.out) (Kd.R_base ho0) hb); replace HO1794 := Aside0.mk (Kd.R_elder' (by (with_reducible skip); exact HO1794.out) (Kd.R_base ho0) hb); replace HO1797 := Aside0.mk (Kd.R_elder' (by (with_reducible skip); exact HO1797.out) (Kd.R_base ho0) hb); replace HO1800 := Aside0.mk (Kd.R_elder' (by (with_reducible skip); exact HO1800.out) (Kd.R_base ho0) hb); replace HO1804 := Aside0.mk (Kd.R_elder' (by (with_reducible skip); exact HO1804.out) (Kd.R_base ho0) hb); replace HO1811 := Aside0.mk (Kd.R_elder' (by (with_reducible skip); exact HO1811.out) (Kd.R_base ho0) hb); replace HO1814 := Aside0.mk (Kd.R_elder' (by (with_reducible skip); exact HO1814.out) (Kd.R_base ho0) hb); replace BK1783 := Z.bb BK1783 hb; replace BK1808 := Z.bb BK1808 hb; replace HB := Aside0.mk (below_step (by repeat ((with_reducible exact HB.out))) hb); (try clear hb); (try clear ho0); obtain ⟨Ao46, co46, eo46⟩ := Kd.R_slice HO1817.out; subst eo46; obtain ⟨Ao47, co47, eo47⟩ := Kd.R_slice HO1800.out; subst eo47) | ((with_reducible refine gate_callee (f := 25) rfl ?_); refine goesL_ (some 47) rfl rfl Try.func25 (by kernel_rfl) rfl #[.slice Ao46 t1815.length co46, .slice Ao47 t1798.length co47] rfl Z.ar ?_; (with_reducible refine (laws_eqIntS.calls kj9 _ _ t1815 _ _ t1798 t1818 _ ?q1 ?q2 ?q3 ?q4 A22.out).mono ?_); (case q1 => repeat (exact (Kd.R_reads' HO1817.out).2.2)); (case q2 => exact (Kd.R_reads' HO1817.out).2.1); (case q3 => repeat (exact (Kd.R_reads' HO1800.out).2.2)); (case q4 => exact (Kd.R_reads' HO1800.out).2.1); rintro e w' ⟨rfl, ⟨nd, rfl⟩⟩; refine ⟨_, rfl, ?_⟩))
       go_cut [] (fun wc => ∃ (kq : Nat), Aside0 (laws_FnExactGuardsOf.j3 kq l1 l2 t1798 t1809 t1812 t1815 a0_0 l0_1 l0_2 t1801 t1802 t1805 = some r) ∧ Aside0 (kq ≤ kj9) ∧ Aside0 (Kd.R (Kd.int .i64) 3 wc w.heap.size (fun k_ => some k_ ≠ ((.slice Ao43 t1809.length co43) : Value).ownBlock ∧ some k_ ≠ ((.slice Ao44 t1812.length co44) : Value).ownBlock ∧ some k_ ≠ ((.slice Ao46 t1815.length co46) : Value).ownBlock ∧ some k_ ≠ ((.slice Ao38 t1802.length co38) : Value).ownBlock) (.slice Ao47 t1798.length co47) t1798) ∧ Aside0 (Kd.R (Kd.int .i64) 3 wc w.heap.size (fun k_ => some k_ ≠ ((.slice Ao47 t1798.length co47) : Value).ownBlock ∧ some k_ ≠ ((.slice Ao44 t1812.length co44) : Value).ownBlock ∧ some k_ ≠ ((.slice Ao46 t1815.length co46) : Value).ownBlock ∧ some k_ ≠ ((.slice Ao38 t1802.length co38) : Value).ownBlock) (.slice Ao43 t1809.length co43) t1809) ∧ Aside0 (Kd.R (Kd.int .i64) 3 wc w.heap.size (fun k_ => some k_ ≠ ((.slice Ao47 t1798.length co47) : Value).ownBlock ∧ some k_ ≠ ((.slice Ao43 t1809.length co43) : Value).ownBlock ∧ some k_ ≠ ((.slice Ao46 t1815.length co46) : Value).ownBlock ∧ some k_ ≠ ((.slice Ao38 t1802.length co38) : Value).ownBlock) (.slice Ao44 t1812.length co44) t1812) ∧ Aside0 (Kd.R (Kd.int .i64) 3 wc w.heap.size (fun k_ => some k_ ≠ ((.slice Ao47 t1798.length co47) : Value).ownBlock ∧ some k_ ≠ ((.slice Ao43 t1809.length co43) : Value).ownBlock ∧ some k_ ≠ ((.slice Ao44 t1812.length co44) : Value).ownBlock ∧ some k_ ≠ ((.slice Ao38 t1802.length co38) : Value).ownBlock) (.slice Ao46 t1815.length co46) t1815) ∧ Aside0 (Kd.R (Kd.int .i64) 3 wc w.heap.size (fun k_ => some k_ ≠ ((.slice Ao47 t1798.length co47) : Value).ownBlock ∧ some k_ ≠ ((.slice Ao43 t1809.length co43) : Value).ownBlock ∧ some k_ ≠ ((.slice Ao44 t1812.length co44) : Value).ownBlock ∧ some k_ ≠ ((.slice Ao46 t1815.length co46) : Value).ownBlock) (.slice Ao38 t1802.length co38) t1802) ∧ Aside0 (Kd.R (Kd.slice 86 k86) 83 wc w.heap.size (fun _ => True) (.slice Ao39 t1805.length co39) t1805) ∧ Aside0 (wc.heap[gb1783]? = some (.cells #[.int .i64 a0_0, (.slice A0_1 l0_1.length c0_1), (.slice A0_2 l0_2.length c0_2)] 27 (0, 0))) ∧ Aside0 (wc.heap[gb1808]? = some (.cells #[.int .i64 t1801, (.slice Ao38 t1802.length co38), (.slice Ao39 t1805.length co39)] 35 (0, 0))) ∧ Aside0 (Below w.heap.size w wc))
       case first =>
        have H := HC23.out
        clear HC23
        by_cases c48 : t1818 = true
        ·subst c48
         rw [if_pos rfl] at H
         have H' := Aside0.mk H
         clear H
         go_wp2
         go_meet
         case rel => exact ⟨_, H', ⟨by have := HJ3.out; have := HJ6.out; have := HJ9.out; omega⟩, ⟨by (with_reducible repeat (apply Kd.R_drewN)); exact Kd.R_mono HO1800.out (fun _ hk => ⟨hk.1.1.2, ⟨hk.1.2, ⟨hk.2, hk.1.1.1.2⟩⟩⟩)⟩, ⟨by (with_reducible repeat (apply Kd.R_drewN)); exact Kd.R_mono HO1811.out (fun _ hk => ⟨hk.1.1.1.2, ⟨hk.1.2, ⟨hk.2, hk.1.1.2⟩⟩⟩)⟩, ⟨by (with_reducible repeat (apply Kd.R_drewN)); exact Kd.R_mono HO1814.out (fun _ hk => ⟨hk.1.1.1.2, ⟨hk.1.2, ⟨hk.2, hk.1.1.2⟩⟩⟩)⟩, ⟨by (with_reducible repeat (apply Kd.R_drewN)); exact Kd.R_mono HO1817.out (fun _ hk => ⟨hk.1.1.1.2, ⟨hk.1.2, ⟨hk.2, hk.1.1.2⟩⟩⟩)⟩, ⟨by (with_reducible repeat (apply Kd.R_drewN)); exact Kd.R_mono HO1804.out (fun _ hk => ⟨hk.1.1.1.2, ⟨hk.1.1.2, ⟨hk.1.2, hk.2⟩⟩⟩)⟩, ⟨by (with_reducible repeat (apply Kd.R_drewN)); exact Kd.R_mono HO1807.out (fun _ hk => trivial)⟩, ⟨by (with_reducible repeat (refine blk_drewN ?_ _)); exact BK1783.out⟩, ⟨by (with_reducible repeat (refine blk_drewN ?_ _)); exact BK1808.out⟩, ⟨by repeat ((with_reducible first | exact HB.out | apply pw_below_drewN))⟩⟩
        ·replace c48 := Bool.eq_false_iff.mpr c48
         subst c48
         rw [if_neg (show ¬ (false = true) by decide)] at H
         obtain rfl := Option.some.inj H
         go_wp2
         go_ret
         exact ⟨by rfl, by repeat ((with_reducible first | exact HB.out | apply pw_below_drewN))⟩
       case rest =>
        clear HC23
        obtain ⟨kq, HA, HJ22, HO_8, HO_10, HO_11, HO_12, HO_1809001, HO_1809002, BK1783, BK1808, HB⟩ := hcut
        cases kq with
        | zero => exact absurd HA.out (by simp [laws_FnExactGuardsOf.j3])
        | succ kj22 =>
         have H := HA.out
         clear HA
         simp only [laws_FnExactGuardsOf.j3] at H
         replace H := Option.bind_eq_some_iff.mp H
         obtain ⟨⟨t1819, t1820, t1823⟩, A490, H⟩ := H
         try dsimp only at H
         have A49 := Aside0.mk A490
         clear A490
         replace H := Option.bind_eq_some_iff.mp H
         obtain ⟨t1826, A500, H⟩ := H
         have A50 := Aside0.mk A500
         clear A500
         have HC51 := Aside0.mk H
         clear H
         try go_wp2
         replace HO_8 := Aside0.mk (Kd.R_drew HO_8.out)
         replace HO_10 := Aside0.mk (Kd.R_drew HO_10.out)
         replace HO_11 := Aside0.mk (Kd.R_drew HO_11.out)
         replace HO_12 := Aside0.mk (Kd.R_drew HO_12.out)
         replace HO_1809001 := Aside0.mk (Kd.R_drew HO_1809001.out)
         replace HO_1809002 := Aside0.mk (Kd.R_drew HO_1809002.out)
         replace BK1783 := Aside0.mk (blk_drew BK1783.out)
         replace BK1808 := Aside0.mk (blk_drew BK1808.out)
         replace HB := Aside0.mk (below_drew1 HB.out)
         refine start_ (n := 5) (S := fun w' => w'.cell? ⟨gb1808, 0, none⟩ = some (.int .i64 t1801) ∧ w'.cell? ⟨gb1808, 1, none⟩ = some (.slice Ao38 t1802.length co38) ∧ w'.cell? ⟨gb1808, 2, none⟩ = some (.slice Ao39 t1805.length co39) ∧ w'.cell? ⟨gb1783, 0, none⟩ = some (.int .i64 a0_0) ∧ w'.cell? ⟨gb1783, 1, none⟩ = some (.slice A0_1 l0_1.length c0_1) ∧ w'.cell? ⟨gb1783, 2, none⟩ = some (.slice A0_2 l0_2.length c0_2)) (ds := []) #[false, false, false, false, false] (by kernel_rfl) rfl rfl ⟨(blk_cell BK1808.out 0).trans rfl, (blk_cell BK1808.out 1).trans rfl, (blk_cell BK1808.out 2).trans rfl, (blk_cell BK1783.out 0).trans rfl, (blk_cell BK1783.out 1).trans rfl, (blk_cell BK1783.out 2).trans rfl⟩ (fun hHeld => ?_)
         generalize wc.drew = w52 at HO_8 HO_10 HO_11 HO_12 HO_1809001 HO_1809002 BK1783 BK1808 HB hHeld ⊢
         refine take_ (i := 0) (N := some 49) (v := ?_) (a' := ?_) #[true, false, false, false, false] rfl rfl (by kernel_rfl) (fun _ _ _ h => h) (Or.inl ⟨by rfl, ?_⟩) hHeld ?_ ?_
         rotate_left
         ·rintro w' ⟨s0, s1, s2, s3, s4, s5⟩
          go_simp
          with_reducible rfl
         rotate_left
         ·simp only [Act.put, List.setIfInBounds_toArray, List.set_cons_zero, List.set_cons_succ, i64_w, i32_w]
          rfl
         refine take_ (i := 1) (N := some 50) (v := ?_) (a' := ?_) #[true, true, false, false, false] rfl rfl (by kernel_rfl) (fun _ _ _ h => h) (Or.inl ⟨by rfl, ?_⟩) hHeld ?_ ?_
         rotate_left
         ·rintro w' ⟨s0, s1, s2, s3, s4, s5⟩
          go_simp
          with_reducible rfl
         rotate_left
         ·simp only [Act.put, List.setIfInBounds_toArray, List.set_cons_zero, List.set_cons_succ, i64_w, i32_w]
          rfl
         refine one_ (i := 2) (N := some 51) (Z.mb 5 7) rfl rfl (by kernel_rfl) (by decide) (fun K hK => ?_)
         refine goes_ Try.func20 (by kernel_rfl) rfl #[.agg #[.int .i64 a0_0, .slice A0_1 l0_1.length c0_1, .slice A0_2 l0_2.length c0_2]] (by rfl) rfl rfl Z.ar ?_
         with_reducible refine (laws_toCharter.calls kj22 a0_0 _ _ l0_1 _ _ l0_2 t1819 t1820 t1823 _ ?q1 ?q2 ?q3 ?q4 A49.out).mono ?_
         (case q1 => exact Z.cc HR0_1 HB)
         (case q2 => exact HC0_1.out)
         (case q3 => exact Z.cc HR0_2 HB)
         (case q4 => exact HC0_2.out)
         rintro e w53 ⟨v1821, v1824, rfl, ho0, ho1, hb⟩
         refine ⟨_, rfl, ?_⟩
         have HO1822 := Aside0.mk (Kd.R_lower (Kd.R_new' (Kd.R_new' (Kd.R_new' (Kd.R_new' (Kd.R_new' ho0 (Kd.R_lt (by (with_reducible skip); exact HO_8.out))) (Kd.R_lt (by (with_reducible skip); exact HO_10.out))) (Kd.R_lt (by (with_reducible skip); exact HO_11.out))) (Kd.R_lt (by (with_reducible skip); exact HO_12.out))) (Kd.R_lt (by (with_reducible skip); exact HO_1809001.out))) (below_size (by repeat ((with_reducible exact HB.out)))))
         replace HO_8 := Aside0.mk (Kd.R_elder' (by (with_reducible skip); exact HO_8.out) (Kd.R_base ho0) hb)
         replace HO_10 := Aside0.mk (Kd.R_elder' (by (with_reducible skip); exact HO_10.out) (Kd.R_base ho0) hb)
         replace HO_11 := Aside0.mk (Kd.R_elder' (by (with_reducible skip); exact HO_11.out) (Kd.R_base ho0) hb)
         replace HO_12 := Aside0.mk (Kd.R_elder' (by (with_reducible skip); exact HO_12.out) (Kd.R_base ho0) hb)
         replace HO_1809001 := Aside0.mk (Kd.R_elder' (by (with_reducible skip); exact HO_1809001.out) (Kd.R_base ho0) hb)
         have HO1825 := Aside0.mk (Kd.R_lower (Kd.R_new' ho1 (Kd.R_lt (by (with_reducible skip); exact HO_1809002.out))) (below_size (by repeat ((with_reducible exact HB.out)))))
         replace HO_1809002 := Aside0.mk (Kd.R_elder' (by (with_reducible skip); exact HO_1809002.out) (Kd.R_base ho1) hb)
         replace BK1783 := Z.bb BK1783 hb
         replace BK1808 := Z.bb BK1808 hb
         replace HB := Aside0.mk (below_step (by repeat ((with_reducible exact HB.out))) hb)
         (try clear hb)
         (try clear ho0)
         (try clear ho1)
         obtain ⟨Ao54, co54, eo54⟩ := Kd.R_slice HO1822.out
         (subst eo54)
         obtain ⟨Ao55, co55, eo55⟩ := Kd.R_slice HO1825.out
         (subst eo55)
         refine hK.out _ _ ⟨(blk_cell BK1808.out 0).trans rfl, (blk_cell BK1808.out 1).trans rfl, (blk_cell BK1808.out 2).trans rfl, (blk_cell BK1783.out 0).trans rfl, (blk_cell BK1783.out 1).trans rfl, (blk_cell BK1783.out 2).trans rfl⟩ (fun hHeld => ?_)
         clear hK K
         refine Z.nm ?_
         refine one_ (i := 3) (N := some 52) (Z.mb 5 15) rfl rfl (by kernel_rfl) (by decide) (fun K hK => ?_)
         refine goes_ Try.func24 (by kernel_rfl) rfl #[.agg #[.int .i64 t1801, .slice Ao38 t1802.length co38, .slice Ao39 t1805.length co39], .agg #[.int .i64 t1819, .slice Ao54 t1820.length co54, .slice Ao55 t1823.length co55]] (by rfl) rfl rfl Z.ar ?_
         with_reducible refine (laws_eqCharter.calls kj22 t1801 _ _ t1802 _ _ t1805 t1819 _ _ t1820 _ _ t1823 t1826 _ ?q1 ?q2 ?q3 ?q4 ?q5 ?q6 ?q7 ?q8 A50.out).mono ?_
         (case q1 => repeat (exact (Kd.R_reads' HO_1809001.out).2.2))
         (case q2 => exact (Kd.R_reads' HO_1809001.out).2.1)
         (case q3 => repeat (exact (Kd.R_reads' HO_1809002.out).2.2))
         (case q4 => exact (Kd.R_reads' HO_1809002.out).2.1)
         (case q5 => repeat (exact (Kd.R_reads' HO1822.out).2.2))
         (case q6 => exact (Kd.R_reads' HO1822.out).2.1)
         (case q7 => repeat (exact (Kd.R_reads' HO1825.out).2.2))
         (case q8 => exact (Kd.R_reads' HO1825.out).2.1)
         rintro e w56 ⟨rfl, hb⟩
         refine ⟨_, rfl, ?_⟩
         replace HO_8 := Aside0.mk (Kd.R_below (by (with_reducible skip); exact HO_8.out) hb)
         replace HO_10 := Aside0.mk (Kd.R_below (by (with_reducible skip); exact HO_10.out) hb)
         replace HO_11 := Aside0.mk (Kd.R_below (by (with_reducible skip); exact HO_11.out) hb)
         replace HO_12 := Aside0.mk (Kd.R_below (by (with_reducible skip); exact HO_12.out) hb)
         replace HO_1809001 := Aside0.mk (Kd.R_below (by (with_reducible skip); exact HO_1809001.out) hb)
         replace HO_1809002 := Aside0.mk (Kd.R_below (by (with_reducible skip); exact HO_1809002.out) hb)
         replace HO1822 := Aside0.mk (Kd.R_below (by (with_reducible skip); exact HO1822.out) hb)
         replace HO1825 := Aside0.mk (Kd.R_below (by (with_reducible skip); exact HO1825.out) hb)
         replace BK1783 := Z.bb BK1783 hb
         replace BK1808 := Z.bb BK1808 hb
         replace HB := Aside0.mk (below_step (by repeat ((with_reducible exact HB.out))) hb)
         (try clear hb)
         refine hK.out _ _ ⟨(blk_cell BK1808.out 0).trans rfl, (blk_cell BK1808.out 1).trans rfl, (blk_cell BK1808.out 2).trans rfl, (blk_cell BK1783.out 0).trans rfl, (blk_cell BK1783.out 1).trans rfl, (blk_cell BK1783.out 2).trans rfl⟩ (fun hHeld => ?_)
         clear hK K
         refine Z.nm ?_
         refine pure_ (i := 4) (N := some 53) (v := ?_) (a' := ?_) #[true, true, true, true, true] rfl rfl (by kernel_rfl) (fun _ _ _ h => h) (Or.inl ⟨by rfl, ?_⟩) ?_ ?_
         rotate_left
         ·intro w'
          go_simp
          with_reducible rfl
         rotate_left
         ·simp only [Act.put, List.setIfInBounds_toArray, List.set_cons_zero, List.set_cons_succ, i64_w, i32_w]
          rfl
         refine done_ (by kernel_rfl) ?_
         go_upto_if 53 with (fail)
         go_cut [] (fun wc => ∃ (kq : Nat), Aside0 (laws_FnExactGuardsOf.j4 kq l1 l2 t1798 t1809 t1812 t1815 a0_0 l0_1 l0_2 t1801 t1802 t1805 = some r) ∧ Aside0 (kq ≤ kj22) ∧ Aside0 (Kd.R (Kd.int .i64) 3 wc w.heap.size (fun k_ => some k_ ≠ ((.slice Ao43 t1809.length co43) : Value).ownBlock ∧ some k_ ≠ ((.slice Ao44 t1812.length co44) : Value).ownBlock ∧ some k_ ≠ ((.slice Ao46 t1815.length co46) : Value).ownBlock ∧ some k_ ≠ ((.slice Ao38 t1802.length co38) : Value).ownBlock) (.slice Ao47 t1798.length co47) t1798) ∧ Aside0 (Kd.R (Kd.int .i64) 3 wc w.heap.size (fun k_ => some k_ ≠ ((.slice Ao47 t1798.length co47) : Value).ownBlock ∧ some k_ ≠ ((.slice Ao44 t1812.length co44) : Value).ownBlock ∧ some k_ ≠ ((.slice Ao46 t1815.length co46) : Value).ownBlock ∧ some k_ ≠ ((.slice Ao38 t1802.length co38) : Value).ownBlock) (.slice Ao43 t1809.length co43) t1809) ∧ Aside0 (Kd.R (Kd.int .i64) 3 wc w.heap.size (fun k_ => some k_ ≠ ((.slice Ao47 t1798.length co47) : Value).ownBlock ∧ some k_ ≠ ((.slice Ao43 t1809.length co43) : Value).ownBlock ∧ some k_ ≠ ((.slice Ao46 t1815.length co46) : Value).ownBlock ∧ some k_ ≠ ((.slice Ao38 t1802.length co38) : Value).ownBlock) (.slice Ao44 t1812.length co44) t1812) ∧ Aside0 (Kd.R (Kd.int .i64) 3 wc w.heap.size (fun k_ => some k_ ≠ ((.slice Ao47 t1798.length co47) : Value).ownBlock ∧ some k_ ≠ ((.slice Ao43 t1809.length co43) : Value).ownBlock ∧ some k_ ≠ ((.slice Ao44 t1812.length co44) : Value).ownBlock ∧ some k_ ≠ ((.slice Ao38 t1802.length co38) : Value).ownBlock) (.slice Ao46 t1815.length co46) t1815) ∧ Aside0 (Kd.R (Kd.int .i64) 3 wc w.heap.size (fun k_ => some k_ ≠ ((.slice Ao47 t1798.length co47) : Value).ownBlock ∧ some k_ ≠ ((.slice Ao43 t1809.length co43) : Value).ownBlock ∧ some k_ ≠ ((.slice Ao44 t1812.length co44) : Value).ownBlock ∧ some k_ ≠ ((.slice Ao46 t1815.length co46) : Value).ownBlock) (.slice Ao38 t1802.length co38) t1802) ∧ Aside0 (Kd.R (Kd.slice 86 k86) 83 wc w.heap.size (fun _ => True) (.slice Ao39 t1805.length co39) t1805) ∧ Aside0 (wc.heap[gb1783]? = some (.cells #[.int .i64 a0_0, (.slice A0_1 l0_1.length c0_1), (.slice A0_2 l0_2.length c0_2)] 27 (0, 0))) ∧ Aside0 (wc.heap[gb1808]? = some (.cells #[.int .i64 t1801, (.slice Ao38 t1802.length co38), (.slice Ao39 t1805.length co39)] 35 (0, 0))) ∧ Aside0 (Below w.heap.size w wc))
         case first =>
          have H := HC51.out
          clear HC51
          by_cases c57 : t1826 = true
          ·subst c57
           rw [if_pos rfl] at H
           have H' := Aside0.mk H
           clear H
           go_wp2
           go_meet
           case rel => exact ⟨_, H', ⟨by have := HJ3.out; have := HJ6.out; have := HJ9.out; have := HJ22.out; omega⟩, ⟨by (with_reducible skip); exact Kd.R_mono HO_8.out (fun _ hk => ⟨hk.1.1, ⟨hk.1.2.1, ⟨hk.1.2.2.1, hk.1.2.2.2⟩⟩⟩)⟩, ⟨by (with_reducible skip); exact Kd.R_mono HO_10.out (fun _ hk => ⟨hk.1.1, ⟨hk.1.2.1, ⟨hk.1.2.2.1, hk.1.2.2.2⟩⟩⟩)⟩, ⟨by (with_reducible skip); exact Kd.R_mono HO_11.out (fun _ hk => ⟨hk.1.1, ⟨hk.1.2.1, ⟨hk.1.2.2.1, hk.1.2.2.2⟩⟩⟩)⟩, ⟨by (with_reducible skip); exact Kd.R_mono HO_12.out (fun _ hk => ⟨hk.1.1, ⟨hk.1.2.1, ⟨hk.1.2.2.1, hk.1.2.2.2⟩⟩⟩)⟩, ⟨by (with_reducible skip); exact Kd.R_mono HO_1809001.out (fun _ hk => ⟨hk.1.1, ⟨hk.1.2.1, ⟨hk.1.2.2.1, hk.1.2.2.2⟩⟩⟩)⟩, ⟨by (with_reducible skip); exact Kd.R_mono HO_1809002.out (fun _ hk => trivial)⟩, ⟨by (with_reducible skip); exact BK1783.out⟩, ⟨by (with_reducible skip); exact BK1808.out⟩, ⟨by repeat ((with_reducible exact HB.out))⟩⟩
          ·replace c57 := Bool.eq_false_iff.mpr c57
           subst c57
           rw [if_neg (show ¬ (false = true) by decide)] at H
           obtain rfl := Option.some.inj H
           go_wp2
           go_ret
           exact ⟨by rfl, by repeat ((with_reducible exact HB.out))⟩
         case rest =>
          clear HC51
          obtain ⟨kq, HA, HJ50, HO_8, HO_10, HO_11, HO_12, HO_1809001, HO_1809002, BK1783, BK1808, HB⟩ := hcut
          cases kq with
          | zero => exact absurd HA.out (by simp [laws_FnExactGuardsOf.j4])
          | succ kj50 =>
           have H := HA.out
           clear HA
           simp only [laws_FnExactGuardsOf.j4] at H
           replace H := Option.bind_eq_some_iff.mp H
           obtain ⟨t1827, A580, H⟩ := H
           have A58 := Aside0.mk A580
           clear A580
           replace H := Option.bind_eq_some_iff.mp H
           obtain ⟨t1830, A590, H⟩ := H
           have A59 := Aside0.mk A590
           clear A590
           have HC60 := Aside0.mk H
           clear H
           go_upto_if 58 with (first | ((with_reducible refine gate_callee (f := 21) rfl ?_); refine goesL_ (some 56) rfl rfl Try.func21 (by kernel_rfl) rfl #[.slice A1 l1.length c1] rfl Z.ar ?_; (with_reducible refine (laws_toIntS.calls kj50 _ _ l1 t1827 _ ?q1 ?q2 A58.out).mono ?_); (case q1 => exact Z.cc HR1 HB); (case q2 => exact HC1.out); rintro e w61 ⟨v1828, rfl, ho0, hb⟩; refine ⟨_, rfl, ?_⟩; replace HO_1809002 := Aside0.mk (Kd.R_below (by (with_reducible skip); exact HO_1809002.out) hb); have HO1829 := Aside0.mk (Kd.R_lower (Kd.R_new' (Kd.R_new' (Kd.R_new' (Kd.R_new' (Kd.R_new' ho0 (Kd.R_lt (by (with_reducible skip); exact HO_8.out))) (Kd.R_lt (by (with_reducible skip); exact HO_10.out))) (Kd.R_lt (by (with_reducible skip); exact HO_11.out))) (Kd.R_lt (by (with_reducible skip); exact HO_12.out))) (Kd.R_lt (by (with_reducible skip); exact HO_1809001.out))) (below_size (by repeat ((with_reducible exact HB.out))))); replace HO_8 := Aside0.mk (Kd.R_elder' (by (with_reducible skip); exact HO_8.out) (Kd.R_base ho0) hb); replace HO_10 := Aside0.mk (Kd.R_elder' (by (with_reducible skip); exact HO_10.out) (Kd.R_base ho0) hb); replace HO_11 := Aside0.mk (Kd.R_elder' (by (with_reducible skip); exact HO_11.out) (Kd.R_base ho0) hb); replace HO_12 := Aside0.mk (Kd.R_elder' (by (with_reducible skip); exact HO_12.out) (Kd.R_base ho0) hb); replace HO_1809001 := Aside0.mk (Kd.R_elder' (by (with_reducible skip); exact HO_1809001.out) (Kd.R_base ho0) hb); replace BK1783 := Z.bb BK1783 hb; replace BK1808 := Z.bb BK1808 hb; replace HB := Aside0.mk (below_step (by repeat ((with_reducible exact HB.out))) hb); (try clear hb); (try clear ho0); obtain ⟨Ao62, co62, eo62⟩ := Kd.R_slice HO1829.out; subst eo62) | ((with_reducible refine gate_callee (f := 25) rfl ?_); refine goesL_ (some 57) rfl rfl Try.func25 (by kernel_rfl) rfl #[.slice Ao43 t1809.length co43, .slice Ao62 t1827.length co62] rfl Z.ar ?_; (with_reducible refine (laws_eqIntS.calls kj50 _ _ t1809 _ _ t1827 t1830 _ ?q1 ?q2 ?q3 ?q4 A59.out).mono ?_); (case q1 => repeat (exact (Kd.R_reads' HO_10.out).2.2)); (case q2 => exact (Kd.R_reads' HO_10.out).2.1); (case q3 => repeat (exact (Kd.R_reads' HO1829.out).2.2)); (case q4 => exact (Kd.R_reads' HO1829.out).2.1); rintro e w' ⟨rfl, ⟨nd, rfl⟩⟩; refine ⟨_, rfl, ?_⟩))
           go_cut [] (fun wc => ∃ (kq : Nat), Aside0 (laws_FnExactGuardsOf.j5 kq l1 l2 t1798 t1809 t1812 t1815 a0_0 l0_1 l0_2 t1801 t1802 t1805 = some r) ∧ Aside0 (kq ≤ kj50) ∧ Aside0 (Kd.R (Kd.int .i64) 3 wc w.heap.size (fun k_ => some k_ ≠ ((.slice Ao43 t1809.length co43) : Value).ownBlock ∧ some k_ ≠ ((.slice Ao44 t1812.length co44) : Value).ownBlock ∧ some k_ ≠ ((.slice Ao46 t1815.length co46) : Value).ownBlock ∧ some k_ ≠ ((.slice Ao38 t1802.length co38) : Value).ownBlock) (.slice Ao47 t1798.length co47) t1798) ∧ Aside0 (Kd.R (Kd.int .i64) 3 wc w.heap.size (fun k_ => some k_ ≠ ((.slice Ao47 t1798.length co47) : Value).ownBlock ∧ some k_ ≠ ((.slice Ao44 t1812.length co44) : Value).ownBlock ∧ some k_ ≠ ((.slice Ao46 t1815.length co46) : Value).ownBlock ∧ some k_ ≠ ((.slice Ao38 t1802.length co38) : Value).ownBlock) (.slice Ao43 t1809.length co43) t1809) ∧ Aside0 (Kd.R (Kd.int .i64) 3 wc w.heap.size (fun k_ => some k_ ≠ ((.slice Ao47 t1798.length co47) : Value).ownBlock ∧ some k_ ≠ ((.slice Ao43 t1809.length co43) : Value).ownBlock ∧ some k_ ≠ ((.slice Ao46 t1815.length co46) : Value).ownBlock ∧ some k_ ≠ ((.slice Ao38 t1802.length co38) : Value).ownBlock) (.slice Ao44 t1812.length co44) t1812) ∧ Aside0 (Kd.R (Kd.int .i64) 3 wc w.heap.size (fun k_ => some k_ ≠ ((.slice Ao47 t1798.length co47) : Value).ownBlock ∧ some k_ ≠ ((.slice Ao43 t1809.length co43) : Value).ownBlock ∧ some k_ ≠ ((.slice Ao44 t1812.length co44) : Value).ownBlock ∧ some k_ ≠ ((.slice Ao38 t1802.length co38) : Value).ownBlock) (.slice Ao46 t1815.length co46) t1815) ∧ Aside0 (Kd.R (Kd.int .i64) 3 wc w.heap.size (fun k_ => some k_ ≠ ((.slice Ao47 t1798.length co47) : Value).ownBlock ∧ some k_ ≠ ((.slice Ao43 t1809.length co43) : Value).ownBlock ∧ some k_ ≠ ((.slice Ao44 t1812.length co44) : Value).ownBlock ∧ some k_ ≠ ((.slice Ao46 t1815.length co46) : Value).ownBlock) (.slice Ao38 t1802.length co38) t1802) ∧ Aside0 (Kd.R (Kd.slice 86 k86) 83 wc w.heap.size (fun _ => True) (.slice Ao39 t1805.length co39) t1805) ∧ Aside0 (wc.heap[gb1783]? = some (.cells #[.int .i64 a0_0, (.slice A0_1 l0_1.length c0_1), (.slice A0_2 l0_2.length c0_2)] 27 (0, 0))) ∧ Aside0 (wc.heap[gb1808]? = some (.cells #[.int .i64 t1801, (.slice Ao38 t1802.length co38), (.slice Ao39 t1805.length co39)] 35 (0, 0))) ∧ Aside0 (Below w.heap.size w wc))
           case first =>
            have H := HC60.out
            clear HC60
            by_cases c63 : t1830 = true
            ·subst c63
             rw [if_pos rfl] at H
             have H' := Aside0.mk H
             clear H
             go_wp2
             go_meet
             case rel => exact ⟨_, H', ⟨by have := HJ3.out; have := HJ6.out; have := HJ9.out; have := HJ22.out; have := HJ50.out; omega⟩, ⟨by (with_reducible repeat (apply Kd.R_drewN)); exact Kd.R_mono HO_8.out (fun _ hk => ⟨hk.1.1, ⟨hk.1.2.1, ⟨hk.1.2.2.1, hk.1.2.2.2⟩⟩⟩)⟩, ⟨by (with_reducible repeat (apply Kd.R_drewN)); exact Kd.R_mono HO_10.out (fun _ hk => ⟨hk.1.1, ⟨hk.1.2.1, ⟨hk.1.2.2.1, hk.1.2.2.2⟩⟩⟩)⟩, ⟨by (with_reducible repeat (apply Kd.R_drewN)); exact Kd.R_mono HO_11.out (fun _ hk => ⟨hk.1.1, ⟨hk.1.2.1, ⟨hk.1.2.2.1, hk.1.2.2.2⟩⟩⟩)⟩, ⟨by (with_reducible repeat (apply Kd.R_drewN)); exact Kd.R_mono HO_12.out (fun _ hk => ⟨hk.1.1, ⟨hk.1.2.1, ⟨hk.1.2.2.1, hk.1.2.2.2⟩⟩⟩)⟩, ⟨by (with_reducible repeat (apply Kd.R_drewN)); exact Kd.R_mono HO_1809001.out (fun _ hk => ⟨hk.1.1, ⟨hk.1.2.1, ⟨hk.1.2.2.1, hk.1.2.2.2⟩⟩⟩)⟩, ⟨by (with_reducible repeat (apply Kd.R_drewN)); exact HO_1809002.out⟩, ⟨by (with_reducible repeat (refine blk_drewN ?_ _)); exact BK1783.out⟩, ⟨by (with_reducible repeat (refine blk_drewN ?_ _)); exact BK1808.out⟩, ⟨by repeat ((with_reducible first | exact HB.out | apply pw_below_drewN))⟩⟩
            ·replace c63 := Bool.eq_false_iff.mpr c63
             subst c63
             rw [if_neg (show ¬ (false = true) by decide)] at H
             obtain rfl := Option.some.inj H
             go_wp2
             go_ret
             exact ⟨by rfl, by repeat ((with_reducible first | exact HB.out | apply pw_below_drewN))⟩
           case rest =>
            clear HC60
            obtain ⟨kq, HA, HJ59, HO_8, HO_10, HO_11, HO_12, HO_1809001, HO_1809002, BK1783, BK1808, HB⟩ := hcut
            cases kq with
            | zero => exact absurd HA.out (by simp [laws_FnExactGuardsOf.j5])
            | succ kj59 =>
             have H := HA.out
             clear HA
             simp only [laws_FnExactGuardsOf.j5] at H
             replace H := Option.bind_eq_some_iff.mp H
             obtain ⟨t1831, A640, H⟩ := H
             have A64 := Aside0.mk A640
             clear A640
             replace H := Option.bind_eq_some_iff.mp H
             obtain ⟨t1834, A650, H⟩ := H
             have A65 := Aside0.mk A650
             clear A650
             have HC66 := Aside0.mk H
             clear H
             go_upto_if 63 with (first | ((with_reducible refine gate_callee (f := 21) rfl ?_); refine goesL_ (some 61) rfl rfl Try.func21 (by kernel_rfl) rfl #[.slice A2 l2.length c2] rfl Z.ar ?_; (with_reducible refine (laws_toIntS.calls kj59 _ _ l2 t1831 _ ?q1 ?q2 A64.out).mono ?_); (case q1 => exact Z.cc HR2 HB); (case q2 => exact HC2.out); rintro e w67 ⟨v1832, rfl, ho0, hb⟩; refine ⟨_, rfl, ?_⟩; replace HO_1809002 := Aside0.mk (Kd.R_below (by (with_reducible skip); exact HO_1809002.out) hb); have HO1833 := Aside0.mk (Kd.R_lower (Kd.R_new' (Kd.R_new' (Kd.R_new' (Kd.R_new' (Kd.R_new' ho0 (Kd.R_lt (by (with_reducible skip); exact HO_8.out))) (Kd.R_lt (by (with_reducible skip); exact HO_10.out))) (Kd.R_lt (by (with_reducible skip); exact HO_11.out))) (Kd.R_lt (by (with_reducible skip); exact HO_12.out))) (Kd.R_lt (by (with_reducible skip); exact HO_1809001.out))) (below_size (by repeat ((with_reducible exact HB.out))))); replace HO_8 := Aside0.mk (Kd.R_elder' (by (with_reducible skip); exact HO_8.out) (Kd.R_base ho0) hb); replace HO_10 := Aside0.mk (Kd.R_elder' (by (with_reducible skip); exact HO_10.out) (Kd.R_base ho0) hb); replace HO_11 := Aside0.mk (Kd.R_elder' (by (with_reducible skip); exact HO_11.out) (Kd.R_base ho0) hb); replace HO_12 := Aside0.mk (Kd.R_elder' (by (with_reducible skip); exact HO_12.out) (Kd.R_base ho0) hb); replace HO_1809001 := Aside0.mk (Kd.R_elder' (by (with_reducible skip); exact HO_1809001.out) (Kd.R_base ho0) hb); replace BK1783 := Z.bb BK1783 hb; replace BK1808 := Z.bb BK1808 hb; replace HB := Aside0.mk (below_step (by repeat ((with_reducible exact HB.out))) hb); (try clear hb); (try clear ho0); obtain ⟨Ao68, co68, eo68⟩ := Kd.R_slice HO1833.out; subst eo68) | ((with_reducible refine gate_callee (f := 25) rfl ?_); refine goesL_ (some 62) rfl rfl Try.func25 (by kernel_rfl) rfl #[.slice Ao44 t1812.length co44, .slice Ao68 t1831.length co68] rfl Z.ar ?_; (with_reducible refine (laws_eqIntS.calls kj59 _ _ t1812 _ _ t1831 t1834 _ ?q1 ?q2 ?q3 ?q4 A65.out).mono ?_); (case q1 => repeat (exact (Kd.R_reads' HO_11.out).2.2)); (case q2 => exact (Kd.R_reads' HO_11.out).2.1); (case q3 => repeat (exact (Kd.R_reads' HO1833.out).2.2)); (case q4 => exact (Kd.R_reads' HO1833.out).2.1); rintro e w' ⟨rfl, ⟨nd, rfl⟩⟩; refine ⟨_, rfl, ?_⟩))
             go_cut [] (fun wc => ∃ (kq : Nat), Aside0 (laws_FnExactGuardsOf.j6 kq l1 l2 t1798 t1809 t1812 t1815 a0_0 l0_1 l0_2 t1801 t1802 t1805 = some r) ∧ Aside0 (kq ≤ kj59) ∧ Aside0 (Kd.R (Kd.int .i64) 3 wc w.heap.size (fun k_ => some k_ ≠ ((.slice Ao43 t1809.length co43) : Value).ownBlock ∧ some k_ ≠ ((.slice Ao44 t1812.length co44) : Value).ownBlock ∧ some k_ ≠ ((.slice Ao46 t1815.length co46) : Value).ownBlock ∧ some k_ ≠ ((.slice Ao38 t1802.length co38) : Value).ownBlock) (.slice Ao47 t1798.length co47) t1798) ∧ Aside0 (Kd.R (Kd.int .i64) 3 wc w.heap.size (fun k_ => some k_ ≠ ((.slice Ao47 t1798.length co47) : Value).ownBlock ∧ some k_ ≠ ((.slice Ao44 t1812.length co44) : Value).ownBlock ∧ some k_ ≠ ((.slice Ao46 t1815.length co46) : Value).ownBlock ∧ some k_ ≠ ((.slice Ao38 t1802.length co38) : Value).ownBlock) (.slice Ao43 t1809.length co43) t1809) ∧ Aside0 (Kd.R (Kd.int .i64) 3 wc w.heap.size (fun k_ => some k_ ≠ ((.slice Ao47 t1798.length co47) : Value).ownBlock ∧ some k_ ≠ ((.slice Ao43 t1809.length co43) : Value).ownBlock ∧ some k_ ≠ ((.slice Ao46 t1815.length co46) : Value).ownBlock ∧ some k_ ≠ ((.slice Ao38 t1802.length co38) : Value).ownBlock) (.slice Ao44 t1812.length co44) t1812) ∧ Aside0 (Kd.R (Kd.int .i64) 3 wc w.heap.size (fun k_ => some k_ ≠ ((.slice Ao47 t1798.length co47) : Value).ownBlock ∧ some k_ ≠ ((.slice Ao43 t1809.length co43) : Value).ownBlock ∧ some k_ ≠ ((.slice Ao44 t1812.length co44) : Value).ownBlock ∧ some k_ ≠ ((.slice Ao38 t1802.length co38) : Value).ownBlock) (.slice Ao46 t1815.length co46) t1815) ∧ Aside0 (Kd.R (Kd.int .i64) 3 wc w.heap.size (fun k_ => some k_ ≠ ((.slice Ao47 t1798.length co47) : Value).ownBlock ∧ some k_ ≠ ((.slice Ao43 t1809.length co43) : Value).ownBlock ∧ some k_ ≠ ((.slice Ao44 t1812.length co44) : Value).ownBlock ∧ some k_ ≠ ((.slice Ao46 t1815.length co46) : Value).ownBlock) (.slice Ao38 t1802.length co38) t1802) ∧ Aside0 (Kd.R (Kd.slice 86 k86) 83 wc w.heap.size (fun _ => True) (.slice Ao39 t1805.length co39) t1805) ∧ Aside0 (wc.heap[gb1783]? = some (.cells #[.int .i64 a0_0, (.slice A0_1 l0_1.length c0_1), (.slice A0_2 l0_2.length c0_2)] 27 (0, 0))) ∧ Aside0 (wc.heap[gb1808]? = some (.cells #[.int .i64 t1801, (.slice Ao38 t1802.length co38), (.slice Ao39 t1805.length co39)] 35 (0, 0))) ∧ Aside0 (Below w.heap.size w wc))
             case first =>
              have H := HC66.out
              clear HC66
              by_cases c69 : t1834 = true
              ·subst c69
               rw [if_pos rfl] at H
               have H' := Aside0.mk H
               clear H
               go_wp2
               go_meet
               case rel => exact ⟨_, H', ⟨by have := HJ3.out; have := HJ6.out; have := HJ9.out; have := HJ22.out; have := HJ50.out; have := HJ59.out; omega⟩, ⟨by (with_reducible repeat (apply Kd.R_drewN)); exact Kd.R_mono HO_8.out (fun _ hk => ⟨hk.1.1, ⟨hk.1.2.1, ⟨hk.1.2.2.1, hk.1.2.2.2⟩⟩⟩)⟩, ⟨by (with_reducible repeat (apply Kd.R_drewN)); exact Kd.R_mono HO_10.out (fun _ hk => ⟨hk.1.1, ⟨hk.1.2.1, ⟨hk.1.2.2.1, hk.1.2.2.2⟩⟩⟩)⟩, ⟨by (with_reducible repeat (apply Kd.R_drewN)); exact Kd.R_mono HO_11.out (fun _ hk => ⟨hk.1.1, ⟨hk.1.2.1, ⟨hk.1.2.2.1, hk.1.2.2.2⟩⟩⟩)⟩, ⟨by (with_reducible repeat (apply Kd.R_drewN)); exact Kd.R_mono HO_12.out (fun _ hk => ⟨hk.1.1, ⟨hk.1.2.1, ⟨hk.1.2.2.1, hk.1.2.2.2⟩⟩⟩)⟩, ⟨by (with_reducible repeat (apply Kd.R_drewN)); exact Kd.R_mono HO_1809001.out (fun _ hk => ⟨hk.1.1, ⟨hk.1.2.1, ⟨hk.1.2.2.1, hk.1.2.2.2⟩⟩⟩)⟩, ⟨by (with_reducible repeat (apply Kd.R_drewN)); exact HO_1809002.out⟩, ⟨by (with_reducible repeat (refine blk_drewN ?_ _)); exact BK1783.out⟩, ⟨by (with_reducible repeat (refine blk_drewN ?_ _)); exact BK1808.out⟩, ⟨by repeat ((with_reducible first | exact HB.out | apply pw_below_drewN))⟩⟩
              ·replace c69 := Bool.eq_false_iff.mpr c69
               subst c69
               rw [if_neg (show ¬ (false = true) by decide)] at H
               obtain rfl := Option.some.inj H
               go_wp2
               go_ret
               exact ⟨by rfl, by repeat ((with_reducible first | exact HB.out | apply pw_below_drewN))⟩
             case rest =>
              clear HC66
              obtain ⟨kq, HA, HJ65, HO_8, HO_10, HO_11, HO_12, HO_1809001, HO_1809002, BK1783, BK1808, HB⟩ := hcut
              cases kq with
              | zero => exact absurd HA.out (by simp [laws_FnExactGuardsOf.j6])
              | succ kj65 =>
               have H := HA.out
               clear HA
               simp only [laws_FnExactGuardsOf.j6] at H
               replace H := Option.bind_eq_some_iff.mp H
               obtain ⟨t1835, A700, H⟩ := H
               have A70 := Aside0.mk A700
               clear A700
               replace H := Option.bind_eq_some_iff.mp H
               obtain ⟨⟨t1836, t1837⟩, A710, H⟩ := H
               try dsimp only at H
               have A71 := Aside0.mk A710
               clear A710
               replace H := Option.bind_eq_some_iff.mp H
               obtain ⟨⟨t1838, t1839⟩, A720, H⟩ := H
               try dsimp only at H
               have A72 := Aside0.mk A720
               clear A720
               have HC73 := Aside0.mk H
               clear H
               have hnb74 := NB1808_1783.out
               have hnc74 := NB1783_1808.out
               have hcz75 := Z.c3 BK1808.out
               go_upto_region 26 with (first | ((with_reducible refine gate_callee (f := 29) rfl ?_); refine goesL_ (some 66) rfl rfl Try.func29 (by kernel_rfl) rfl #[.agg #[.int .i64 t1801, .slice Ao38 t1802.length co38, .slice Ao39 t1805.length co39], .int .i64 1] rfl Z.ar ?_; (with_reducible refine (laws_markCharter.calls (b0 := w.heap.size) (ok1 := ?o1) (ok2 := ?o2) t1801 _ _ t1802 _ _ t1805 1 t1835 _ ?q1 ?q2 A70.out).mono ?_); (case q1 => exact HO_1809001.out); (case q2 => exact HO_1809002.out); rintro e w76 ⟨rfl, hk⟩; refine ⟨_, rfl, ?_⟩; replace HO_8 := Aside0.mk (Kd.R_mono (ok' := fun k_ => some k_ ≠ (.slice Ao43 t1809.length co43 : Value).ownBlock ∧ some k_ ≠ (.slice Ao44 t1812.length co44 : Value).ownBlock ∧ some k_ ≠ (.slice Ao46 t1815.length co46 : Value).ownBlock) (hk.ints (HO_8.out) (fun i_ hi_ => ((HO_8.out).1 i_ hi_).2.2.2)) (fun k_ hk_ => ⟨hk_.1, hk_.2.1, hk_.2.2.1⟩)); replace HO_10 := Aside0.mk (Kd.R_mono (ok' := fun k_ => some k_ ≠ (.slice Ao47 t1798.length co47 : Value).ownBlock ∧ some k_ ≠ (.slice Ao44 t1812.length co44 : Value).ownBlock ∧ some k_ ≠ (.slice Ao46 t1815.length co46 : Value).ownBlock) (hk.ints (HO_10.out) (fun i_ hi_ => ((HO_10.out).1 i_ hi_).2.2.2)) (fun k_ hk_ => ⟨hk_.1, hk_.2.1, hk_.2.2.1⟩)); replace HO_11 := Aside0.mk (Kd.R_mono (ok' := fun k_ => some k_ ≠ (.slice Ao47 t1798.length co47 : Value).ownBlock ∧ some k_ ≠ (.slice Ao43 t1809.length co43 : Value).ownBlock ∧ some k_ ≠ (.slice Ao46 t1815.length co46 : Value).ownBlock) (hk.ints (HO_11.out) (fun i_ hi_ => ((HO_11.out).1 i_ hi_).2.2.2)) (fun k_ hk_ => ⟨hk_.1, hk_.2.1, hk_.2.2.1⟩)); replace HO_12 := Aside0.mk (Kd.R_mono (ok' := fun k_ => some k_ ≠ (.slice Ao47 t1798.length co47 : Value).ownBlock ∧ some k_ ≠ (.slice Ao43 t1809.length co43 : Value).ownBlock ∧ some k_ ≠ (.slice Ao44 t1812.length co44 : Value).ownBlock) (hk.ints (HO_12.out) (fun i_ hi_ => ((HO_12.out).1 i_ hi_).2.2.2)) (fun k_ hk_ => ⟨hk_.1, hk_.2.1, hk_.2.2.1⟩)); replace BK1783 := Aside0.mk (hk.far (Z.bk BK1783.out) (by decide)); replace BK1808 := Aside0.mk (hk.far (Z.bk BK1808.out) (by decide)); replace HB := Aside0.mk (hk.below (by repeat ((with_reducible exact HB.out)))); clear HO_1809001 HO_1809002; (try clear hk)) | ((with_reducible refine gate_callee (f := 30) rfl ?_); refine goesL_ (some 69) rfl rfl Try.func30 (by kernel_rfl) rfl #[.slice Ao43 t1809.length co43, .int .i64 t1835] rfl Z.ar ?_; (with_reducible refine (laws_markIntS.calls kj65 (fun k_ => some k_ = (.slice Ao43 t1809.length co43 : Value).ownBlock) (.slice Ao43 t1809.length co43) t1809 t1835 t1836 t1837 w _ ?q1 ?q2 A71.out).mono ?_); (case q1 => repeat ((with_reducible exact HB.out))); (case q2 => exact Kd.R_tight rfl HO_10.out); rintro e w77 ⟨rfl, hy0, hb, hkp⟩; refine ⟨_, rfl, ?_⟩; replace HO_8 := Aside0.mk (Kd.R_mono (ok' := fun k_ => some k_ ≠ (.slice Ao43 t1809.length co43 : Value).ownBlock ∧ some k_ ≠ (.slice Ao44 t1812.length co44 : Value).ownBlock ∧ some k_ ≠ (.slice Ao46 t1815.length co46 : Value).ownBlock) (Kd.R_keptB (HO_8.out) hkp (fun k_ hk_ hs_ => (hk_.1) hs_)) (fun k_ hk_ => ⟨hk_.1.1, hk_.1.2.1, hk_.1.2.2⟩)); replace HO_11 := Aside0.mk (Kd.R_mono (ok' := fun k_ => some k_ ≠ (.slice Ao47 t1798.length co47 : Value).ownBlock ∧ some k_ ≠ (.slice Ao43 t1809.length co43 : Value).ownBlock ∧ some k_ ≠ (.slice Ao46 t1815.length co46 : Value).ownBlock) (Kd.R_keptB (HO_11.out) hkp (fun k_ hk_ hs_ => (hk_.2.1) hs_)) (fun k_ hk_ => ⟨hk_.1.1, hk_.1.2.1, hk_.1.2.2⟩)); replace HO_12 := Aside0.mk (Kd.R_mono (ok' := fun k_ => some k_ ≠ (.slice Ao47 t1798.length co47 : Value).ownBlock ∧ some k_ ≠ (.slice Ao43 t1809.length co43 : Value).ownBlock ∧ some k_ ≠ (.slice Ao44 t1812.length co44 : Value).ownBlock) (Kd.R_keptB (HO_12.out) hkp (fun k_ hk_ hs_ => (hk_.2.1) hs_)) (fun k_ hk_ => ⟨hk_.1.1, hk_.1.2.1, hk_.1.2.2⟩)); replace BK1783 := Aside0.mk (blk_kept (Z.bk BK1783.out) hkp (fun hs_ => (fun e_ => (Kd.R_ne HO_10.out BK1783.out (by decide)) e_) hs_)); replace BK1808 := Aside0.mk (blk_kept (Z.bk BK1808.out) hkp (fun hs_ => (fun e_ => (Kd.R_ne HO_10.out BK1808.out (by decide)) e_) hs_)); replace HO_10 := Aside0.mk (Kd.R_reok rfl hy0 (fun k_ e_ => HO_10.out.1 k_ e_)); replace HB := Aside0.mk (hb); (try clear hb); (try clear hkp); (try clear hy0)) | ((with_reducible refine gate_callee (f := 30) rfl ?_); refine goesL_ (some 72) rfl rfl Try.func30 (by kernel_rfl) rfl #[.slice Ao44 t1812.length co44, .int .i64 t1836] rfl Z.ar ?_; (with_reducible refine (laws_markIntS.calls kj65 (fun k_ => some k_ = (.slice Ao44 t1812.length co44 : Value).ownBlock) (.slice Ao44 t1812.length co44) t1812 t1836 t1838 t1839 w _ ?q1 ?q2 A72.out).mono ?_); (case q1 => repeat ((with_reducible exact HB.out))); (case q2 => exact Kd.R_tight rfl HO_11.out); rintro e w78 ⟨rfl, hy0, hb, hkp⟩; refine ⟨_, rfl, ?_⟩; replace HO_8 := Aside0.mk (Kd.R_mono (ok' := fun k_ => some k_ ≠ (.slice Ao43 t1809.length co43 : Value).ownBlock ∧ some k_ ≠ (.slice Ao44 t1812.length co44 : Value).ownBlock ∧ some k_ ≠ (.slice Ao46 t1815.length co46 : Value).ownBlock) (Kd.R_keptB (HO_8.out) hkp (fun k_ hk_ hs_ => (hk_.2.1) hs_)) (fun k_ hk_ => ⟨hk_.1.1, hk_.1.2.1, hk_.1.2.2⟩)); replace HO_10 := Aside0.mk (Kd.R_mono (ok' := fun k_ => some k_ ≠ (.slice Ao47 t1798.length co47 : Value).ownBlock ∧ some k_ ≠ (.slice Ao44 t1812.length co44 : Value).ownBlock ∧ some k_ ≠ (.slice Ao46 t1815.length co46 : Value).ownBlock) (Kd.R_keptB (HO_10.out) hkp (fun k_ hk_ hs_ => (hk_.2.1) hs_)) (fun k_ hk_ => ⟨hk_.1.1, hk_.1.2.1, hk_.1.2.2⟩)); replace HO_12 := Aside0.mk (Kd.R_mono (ok' := fun k_ => some k_ ≠ (.slice Ao47 t1798.length co47 : Value).ownBlock ∧ some k_ ≠ (.slice Ao43 t1809.length co43 : Value).ownBlock ∧ some k_ ≠ (.slice Ao44 t1812.length co44 : Value).ownBlock) (Kd.R_keptB (HO_12.out) hkp (fun k_ hk_ hs_ => (hk_.2.2) hs_)) (fun k_ hk_ => ⟨hk_.1.1, hk_.1.2.1, hk_.1.2.2⟩)); replace BK1783 := Aside0.mk (blk_kept (Z.bk BK1783.out) hkp (fun hs_ => (fun e_ => (Kd.R_ne HO_11.out BK1783.out (by decide)) e_) hs_)); replace BK1808 := Aside0.mk (blk_kept (Z.bk BK1808.out) hkp (fun hs_ => (fun e_ => (Kd.R_ne HO_11.out BK1808.out (by decide)) e_) hs_)); replace HO_11 := Aside0.mk (Kd.R_reok rfl hy0 (fun k_ e_ => HO_11.out.1 k_ e_)); replace HB := Aside0.mk (hb); (try clear hb); (try clear hkp); (try clear hy0)))
               go_cut [80] (fun v80 wc => ∃ (kq : Nat) (x80_72 : Bool), v80 = .bool x80_72 ∧ Aside0 (laws_FnExactGuardsOf.j7 kq l1 l2 t1798 t1815 x80_72 a0_0 l0_1 l0_2 = some r) ∧ Aside0 (kq ≤ kj65) ∧ Aside0 (Kd.R (Kd.int .i64) 3 wc w.heap.size (fun k_ => some k_ ≠ ((.slice Ao46 t1815.length co46) : Value).ownBlock) (.slice Ao47 t1798.length co47) t1798) ∧ Aside0 (Kd.R (Kd.int .i64) 3 wc w.heap.size (fun k_ => some k_ ≠ ((.slice Ao47 t1798.length co47) : Value).ownBlock) (.slice Ao46 t1815.length co46) t1815) ∧ Aside0 (wc.heap[gb1783]? = some (.cells #[.int .i64 a0_0, (.slice A0_1 l0_1.length c0_1), (.slice A0_2 l0_2.length c0_2)] 27 (0, 0))) ∧ Aside0 (Below w.heap.size w wc))
               case first =>
                have H := HC73.out
                clear HC73
                by_cases c79 : t1838 < 0
                ·rw [if_pos c79] at H
                 have c79b0 := decide_eq_true c79
                 clear c79
                 have H' := Aside0.mk H
                 clear H
                 go_wp2
                 go_meet
                 case rel => exact ⟨_, (true), (by rfl), H', ⟨by have := HJ3.out; have := HJ6.out; have := HJ9.out; have := HJ22.out; have := HJ50.out; have := HJ59.out; have := HJ65.out; omega⟩, ⟨by (with_reducible skip); exact Kd.R_mono HO_8.out (fun _ hk => hk.2.2)⟩, ⟨by (with_reducible skip); exact Kd.R_mono HO_12.out (fun _ hk => hk.1)⟩, ⟨by (with_reducible skip); exact BK1783.out⟩, ⟨by repeat ((with_reducible exact HB.out))⟩⟩
                ·rw [if_neg c79] at H
                 have c79b0 := decide_eq_false c79
                 clear c79
                 replace H := Option.bind_eq_some_iff.mp H
                 obtain ⟨t1840, A800, H⟩ := H
                 have A80 := Aside0.mk A800
                 clear A800
                 have H' := Aside0.mk H
                 clear H
                 go_wp2_with ((go_at_call 25; (with_reducible refine (laws_eqIntS.calls kj65 _ _ t1815 _ _ t1798 t1840 _ ?q1 ?q2 ?q3 ?q4 A80.out).mono ?_); (case q1 => repeat (exact (Kd.R_reads' HO_12.out).2.2)); (case q2 => exact (Kd.R_reads' HO_12.out).2.1); (case q3 => repeat (exact (Kd.R_reads' HO_8.out).2.2)); (case q4 => exact (Kd.R_reads' HO_8.out).2.1); rintro e w' ⟨rfl, ⟨nd, rfl⟩⟩))
                 go_meet
                 case rel => exact ⟨_, (!t1840), (by rfl), H', ⟨by have := HJ3.out; have := HJ6.out; have := HJ9.out; have := HJ22.out; have := HJ50.out; have := HJ59.out; have := HJ65.out; omega⟩, ⟨by (with_reducible repeat (apply Kd.R_drewN)); exact Kd.R_mono HO_8.out (fun _ hk => hk.2.2)⟩, ⟨by (with_reducible repeat (apply Kd.R_drewN)); exact Kd.R_mono HO_12.out (fun _ hk => hk.1)⟩, ⟨by (with_reducible repeat (refine blk_drewN ?_ _)); exact BK1783.out⟩, ⟨by repeat ((with_reducible first | exact HB.out | apply pw_below_drewN))⟩⟩
               case rest =>
                clear HC73
                obtain ⟨kq, x80_72, rfl, HA, HJ72, HO_8, HO_12, BK1783, HB⟩ := hcut
                cases kq with
                | zero => exact absurd HA.out (by simp [laws_FnExactGuardsOf.j7])
                | succ kj72 =>
                 have H := HA.out
                 clear HA
                 simp only [laws_FnExactGuardsOf.j7] at H
                 have HC81 := Aside0.mk H
                 clear H
                 go_upto_if 80 with (fail)
                 go_cut [] (fun wc => ∃ (kq : Nat), Aside0 (laws_FnExactGuardsOf.j8 kq l1 l2 t1798 t1815 a0_0 l0_1 l0_2 = some r) ∧ Aside0 (kq ≤ kj72) ∧ Aside0 (Kd.R (Kd.int .i64) 3 wc w.heap.size (fun k_ => some k_ ≠ ((.slice Ao46 t1815.length co46) : Value).ownBlock) (.slice Ao47 t1798.length co47) t1798) ∧ Aside0 (Kd.R (Kd.int .i64) 3 wc w.heap.size (fun k_ => some k_ ≠ ((.slice Ao47 t1798.length co47) : Value).ownBlock) (.slice Ao46 t1815.length co46) t1815) ∧ Aside0 (wc.heap[gb1783]? = some (.cells #[.int .i64 a0_0, (.slice A0_1 l0_1.length c0_1), (.slice A0_2 l0_2.length c0_2)] 27 (0, 0))) ∧ Aside0 (Below w.heap.size w wc))
                 case first =>
                  have H := HC81.out
                  clear HC81
                  by_cases c82 : x80_72 = true
                  ·subst c82
                   rw [if_pos rfl] at H
                   obtain rfl := Option.some.inj H
                   go_wp2
                   go_ret
                   exact ⟨by rfl, Z.bs HB.out GE1783.out⟩
                  ·replace c82 := Bool.eq_false_iff.mpr c82
                   subst c82
                   rw [if_neg (show ¬ (false = true) by decide)] at H
                   have H' := Aside0.mk H
                   clear H
                   go_wp2
                   go_meet
                   case rel => exact ⟨_, H', ⟨by have := HJ3.out; have := HJ6.out; have := HJ9.out; have := HJ22.out; have := HJ50.out; have := HJ59.out; have := HJ65.out; have := HJ72.out; omega⟩, ⟨by (with_reducible skip); exact HO_8.out⟩, ⟨by (with_reducible skip); exact HO_12.out⟩, ⟨by (with_reducible skip); exact BK1783.out⟩, ⟨Z.bs HB.out GE1783.out⟩⟩
                 case rest =>
                  clear HC81
                  obtain ⟨kq, HA, HJ80, HO_8, HO_12, BK1783, HB⟩ := hcut
                  cases kq with
                  | zero => exact absurd HA.out (by simp [laws_FnExactGuardsOf.j8])
                  | succ kj80 =>
                   have H := HA.out
                   clear HA
                   simp only [laws_FnExactGuardsOf.j8] at H
                   replace H := Option.bind_eq_some_iff.mp H
                   obtain ⟨⟨t1841, t1842⟩, A830, H⟩ := H
                   try dsimp only at H
                   have A83 := Aside0.mk A830
                   clear A830
                   replace H := Option.bind_eq_some_iff.mp H
                   obtain ⟨t1843, A840, H⟩ := H
                   have A84 := Aside0.mk A840
                   clear A840
                   have HC85 := Aside0.mk H
                   clear H
                   go_upto_if 88 with (first | ((with_reducible refine gate_callee (f := 30) rfl ?_); refine goesL_ (some 83) rfl rfl Try.func30 (by kernel_rfl) rfl #[.slice Ao46 t1815.length co46, .int .i64 1] rfl Z.ar ?_; (with_reducible refine (laws_markIntS.calls kj80 (fun k_ => some k_ = (.slice Ao46 t1815.length co46 : Value).ownBlock) (.slice Ao46 t1815.length co46) t1815 1 t1841 t1842 w _ ?q1 ?q2 A83.out).mono ?_); (case q1 => repeat ((with_reducible exact HB.out))); (case q2 => exact Kd.R_tight rfl HO_12.out); rintro e w86 ⟨rfl, hy0, hb, hkp⟩; refine ⟨_, rfl, ?_⟩; replace HO_8 := Aside0.mk (Kd.R_mono (ok' := fun k_ => some k_ ≠ (.slice Ao46 t1815.length co46 : Value).ownBlock) (Kd.R_keptB (HO_8.out) hkp (fun k_ hk_ hs_ => (hk_) hs_)) (fun k_ hk_ => hk_.1)); replace BK1783 := Aside0.mk (blk_kept (Z.bk BK1783.out) hkp (fun hs_ => (fun e_ => (Kd.R_ne HO_12.out BK1783.out (by decide)) e_) hs_)); replace HO_12 := Aside0.mk (Kd.R_reok rfl hy0 (fun k_ e_ => HO_12.out.1 k_ e_)); replace HB := Aside0.mk (hb); (try clear hb); (try clear hkp); (try clear hy0)) | ((with_reducible refine gate_callee (f := 32) rfl ?_); refine goesL_ (some 86) rfl rfl Try.func32 (by kernel_rfl) rfl #[.slice Ao46 t1842.length co46, .int .i64 1] rfl (by (try simp only [List.map_toArray, List.map_cons, List.map_nil]); (rw [show t1842.length = t1815.length from (Kd.R_reads' HO_12.out).1.symm] <;> rfl)) ?_; (with_reducible refine (laws_heldIntS.calls kj80 _ _ t1842 1 t1843 _ ?q1 ?q2 A84.out).mono ?_); (case q1 => repeat (exact (Kd.R_reads' HO_12.out).2.2)); (case q2 => rw [show t1842.length = t1815.length from (Kd.R_reads' HO_12.out).1.symm]; exact (Kd.R_reads' HO_12.out).2.1); rintro e w' ⟨rfl, ⟨nd, rfl⟩⟩; refine ⟨_, rfl, ?_⟩))
                   go_cut [] (fun wc => ∃ (kq : Nat), Aside0 (laws_FnExactGuardsOf.j9 kq l1 l2 t1798 t1842 t1841 t1843 a0_0 l0_1 l0_2 = some r) ∧ Aside0 (kq ≤ kj80) ∧ Aside0 (Kd.R (Kd.int .i64) 3 wc w.heap.size (fun k_ => some k_ ≠ ((.slice Ao46 t1815.length co46) : Value).ownBlock) (.slice Ao47 t1798.length co47) t1798) ∧ Aside0 (Kd.R (Kd.int .i64) 3 wc w.heap.size (fun k_ => some k_ ≠ ((.slice Ao47 t1798.length co47) : Value).ownBlock) (.slice Ao46 t1815.length co46) t1842) ∧ Aside0 (wc.heap[gb1783]? = some (.cells #[.int .i64 a0_0, (.slice A0_1 l0_1.length c0_1), (.slice A0_2 l0_2.length c0_2)] 27 (0, 0))) ∧ Aside0 (Below w.heap.size w wc))
                   case first =>
                    have H := HC85.out
                    clear HC85
                    by_cases c87 : t1843 < 0
                    ·rw [if_pos c87] at H
                     have c87b0 := decide_eq_true c87
                     clear c87
                     (rw [c87b0])
                     obtain rfl := Option.some.inj H
                     go_wp2
                     go_ret
                     exact ⟨by rfl, Z.bs HB.out GE1783.out⟩
                    ·rw [if_neg c87] at H
                     have c87b0 := decide_eq_false c87
                     clear c87
                     (rw [c87b0])
                     have H' := Aside0.mk H
                     clear H
                     go_wp2
                     go_meet
                     case rel => exact ⟨_, H', ⟨by have := HJ3.out; have := HJ6.out; have := HJ9.out; have := HJ22.out; have := HJ50.out; have := HJ59.out; have := HJ65.out; have := HJ72.out; have := HJ80.out; omega⟩, ⟨by (with_reducible repeat (apply Kd.R_drewN)); exact HO_8.out⟩, ⟨by (with_reducible repeat (apply Kd.R_drewN)); exact HO_12.out⟩, ⟨by (with_reducible repeat (refine blk_drewN ?_ _)); exact BK1783.out⟩, ⟨Z.bs HB.out GE1783.out⟩⟩
                   case rest =>
                    clear HC85
                    obtain ⟨kq, HA, HJ84, HO_8, HO_12, BK1783, HB⟩ := hcut
                    have hl12_84 := (Kd.R_reads' HO_12.out).1
                    rw [hl12_84] at HO_12
                    (try simp only [hl12_84])
                    (try simp only [hl12_84] at HO_8)
                    cases kq with
                    | zero => exact absurd HA.out (by simp [laws_FnExactGuardsOf.j9])
                    | succ kj84 =>
                     have H := HA.out
                     clear HA
                     simp only [laws_FnExactGuardsOf.j9] at H
                     have HC88 := Aside0.mk H
                     clear H
                     go_upto_if 91 with (fail)
                     go_cut [] (fun wc => ∃ (kq : Nat), Aside0 (laws_FnExactGuardsOf.j10 kq l1 l2 t1798 t1842 t1841 a0_0 l0_1 l0_2 = some r) ∧ Aside0 (kq ≤ kj84) ∧ Aside0 (Kd.R (Kd.int .i64) 3 wc w.heap.size (fun k_ => some k_ ≠ ((.slice Ao46 t1842.length co46) : Value).ownBlock) (.slice Ao47 t1798.length co47) t1798) ∧ Aside0 (Kd.R (Kd.int .i64) 3 wc w.heap.size (fun k_ => some k_ ≠ ((.slice Ao47 t1798.length co47) : Value).ownBlock) (.slice Ao46 t1842.length co46) t1842) ∧ Aside0 (wc.heap[gb1783]? = some (.cells #[.int .i64 a0_0, (.slice A0_1 l0_1.length c0_1), (.slice A0_2 l0_2.length c0_2)] 27 (0, 0))) ∧ Aside0 (Below w.heap.size w wc))
                     case first =>
                      have H := HC88.out
                      clear HC88
                      by_cases c89 : t1843 = t1841
                      ·rw [if_pos c89] at H
                       have c89b0 : (t1843 == t1841) = true := beq_iff_eq.mpr c89
                       have c89b1 : (t1843 != t1841) = false := bne_eq_false_iff_eq.mpr c89
                       clear c89
                       have H' := Aside0.mk H
                       clear H
                       go_wp2
                       go_meet
                       case rel => exact ⟨_, H', ⟨by have := HJ3.out; have := HJ6.out; have := HJ9.out; have := HJ22.out; have := HJ50.out; have := HJ59.out; have := HJ65.out; have := HJ72.out; have := HJ80.out; have := HJ84.out; omega⟩, ⟨by (with_reducible skip); exact HO_8.out⟩, ⟨by (with_reducible skip); exact HO_12.out⟩, ⟨by (with_reducible skip); exact BK1783.out⟩, ⟨Z.bs HB.out GE1783.out⟩⟩
                      ·rw [if_neg c89] at H
                       have c89b0 : (t1843 == t1841) = false := beq_eq_false_iff_ne.mpr c89
                       have c89b1 : (t1843 != t1841) = true := bne_iff_ne.mpr c89
                       obtain rfl := Option.some.inj H
                       go_wp2
                       go_ret
                       exact ⟨by rfl, Z.bs HB.out GE1783.out⟩
                     case rest =>
                      clear HC88
                      obtain ⟨kq, HA, HJ87, HO_8, HO_12, BK1783, HB⟩ := hcut
                      cases kq with
                      | zero => exact absurd HA.out (by simp [laws_FnExactGuardsOf.j10])
                      | succ kj87 =>
                       have H := HA.out
                       clear HA
                       simp only [laws_FnExactGuardsOf.j10] at H
                       replace H := Option.bind_eq_some_iff.mp H
                       obtain ⟨⟨t1844, t1845, t1848⟩, A900, H⟩ := H
                       try dsimp only at H
                       have A90 := Aside0.mk A900
                       clear A900
                       replace H := Option.bind_eq_some_iff.mp H
                       obtain ⟨t1851, A910, H⟩ := H
                       have A91 := Aside0.mk A910
                       clear A910
                       replace H := Option.bind_eq_some_iff.mp H
                       obtain ⟨t1854, A920, H⟩ := H
                       have A92 := Aside0.mk A920
                       clear A920
                       replace H := Option.bind_eq_some_iff.mp H
                       obtain ⟨t1857, A930, H⟩ := H
                       have A93 := Aside0.mk A930
                       clear A930
                       replace H := Option.bind_eq_some_iff.mp H
                       obtain ⟨t1860, A940, H⟩ := H
                       have A94 := Aside0.mk A940
                       clear A940
                       have HC95 := Aside0.mk H
                       clear H
                       have hcz96 := Z.c3 BK1783.out
                       go_upto_if 102 with (first | ((with_reducible refine gate_callee (f := 20) rfl ?_); refine goesL_ (some 93) rfl rfl Try.func20 (by kernel_rfl) rfl #[.agg #[.int .i64 a0_0, .slice A0_1 l0_1.length c0_1, .slice A0_2 l0_2.length c0_2]] rfl Z.ar ?_; (with_reducible refine (laws_toCharter.calls kj87 a0_0 _ _ l0_1 _ _ l0_2 t1844 t1845 t1848 _ ?q1 ?q2 ?q3 ?q4 A90.out).mono ?_); (case q1 => exact Z.cc HR0_1 HB); (case q2 => exact HC0_1.out); (case q3 => exact Z.cc HR0_2 HB); (case q4 => exact HC0_2.out); rintro e w97 ⟨v1846, v1849, rfl, ho0, ho1, hb⟩; refine ⟨_, rfl, ?_⟩; have HO1847 := Aside0.mk (Kd.R_lower (Kd.R_new' (Kd.R_new' ho0 (Kd.R_lt (by (with_reducible skip); exact HO_8.out))) (Kd.R_lt (by (with_reducible skip); exact HO_12.out))) (below_size (Z.bs HB.out GE1783.out))); replace HO_8 := Aside0.mk (Kd.R_elder' (by (with_reducible skip); exact HO_8.out) (Kd.R_base ho0) hb); replace HO_12 := Aside0.mk (Kd.R_elder' (by (with_reducible skip); exact HO_12.out) (Kd.R_base ho0) hb); have HO1850 := Aside0.mk (Kd.R_lower ho1 (below_size (Z.bs HB.out GE1783.out))); replace BK1783 := Z.bb BK1783 hb; replace HB := Z.st (Z.bs HB.out GE1783.out) hb; (try clear hb); (try clear ho0); (try clear ho1)) | ((with_reducible refine gate_callee (f := 21) rfl ?_); refine goesL_ (some 95) rfl rfl Try.func21 (by kernel_rfl) rfl #[.slice A1 l1.length c1] rfl Z.ar ?_; (with_reducible refine (laws_toIntS.calls kj87 _ _ l1 t1851 _ ?q1 ?q2 A91.out).mono ?_); (case q1 => exact Z.cc HR1 HB); (case q2 => exact HC1.out); rintro e w98 ⟨v1852, rfl, ho0, hb⟩; refine ⟨_, rfl, ?_⟩; replace HO1850 := Aside0.mk (Kd.R_below (by (with_reducible skip); exact HO1850.out) hb); have HO1853 := Aside0.mk (Kd.R_lower (Kd.R_new' (Kd.R_new' (Kd.R_new' ho0 (Kd.R_lt (by (with_reducible skip); exact HO_8.out))) (Kd.R_lt (by (with_reducible skip); exact HO_12.out))) (Kd.R_lt (by (with_reducible skip); exact HO1847.out))) (below_size (Z.bs HB.out GE1783.out))); replace HO_8 := Aside0.mk (Kd.R_elder' (by (with_reducible skip); exact HO_8.out) (Kd.R_base ho0) hb); replace HO_12 := Aside0.mk (Kd.R_elder' (by (with_reducible skip); exact HO_12.out) (Kd.R_base ho0) hb); replace HO1847 := Aside0.mk (Kd.R_elder' (by (with_reducible skip); exact HO1847.out) (Kd.R_base ho0) hb); replace BK1783 := Z.bb BK1783 hb; replace HB := Z.st (Z.bs HB.out GE1783.out) hb; (try clear hb); (try clear ho0)) | ((with_reducible refine gate_callee (f := 21) rfl ?_); refine goesL_ (some 97) rfl rfl Try.func21 (by kernel_rfl) rfl #[.slice A2 l2.length c2] rfl Z.ar ?_; (with_reducible refine (laws_toIntS.calls kj87 _ _ l2 t1854 _ ?q1 ?q2 A92.out).mono ?_); (case q1 => exact Z.cc HR2 HB); (case q2 => exact HC2.out); rintro e w99 ⟨v1855, rfl, ho0, hb⟩; refine ⟨_, rfl, ?_⟩; replace HO1850 := Aside0.mk (Kd.R_below (by (with_reducible skip); exact HO1850.out) hb); have HO1856 := Aside0.mk (Kd.R_lower (Kd.R_new' (Kd.R_new' (Kd.R_new' (Kd.R_new' ho0 (Kd.R_lt (by (with_reducible skip); exact HO_8.out))) (Kd.R_lt (by (with_reducible skip); exact HO_12.out))) (Kd.R_lt (by (with_reducible skip); exact HO1847.out))) (Kd.R_lt (by (with_reducible skip); exact HO1853.out))) (below_size (Z.bs HB.out GE1783.out))); replace HO_8 := Aside0.mk (Kd.R_elder' (by (with_reducible skip); exact HO_8.out) (Kd.R_base ho0) hb); replace HO_12 := Aside0.mk (Kd.R_elder' (by (with_reducible skip); exact HO_12.out) (Kd.R_base ho0) hb); replace HO1847 := Aside0.mk (Kd.R_elder' (by (with_reducible skip); exact HO1847.out) (Kd.R_base ho0) hb); replace HO1853 := Aside0.mk (Kd.R_elder' (by (with_reducible skip); exact HO1853.out) (Kd.R_base ho0) hb); replace BK1783 := Z.bb BK1783 hb; replace HB := Z.st (Z.bs HB.out GE1783.out) hb; (try clear hb); (try clear ho0); obtain ⟨Ao100, co100, eo100⟩ := Kd.R_slice HO1847.out; subst eo100; obtain ⟨Ao101, co101, eo101⟩ := Kd.R_slice HO1850.out; subst eo101; obtain ⟨Ao102, co102, eo102⟩ := Kd.R_slice HO1853.out; subst eo102; obtain ⟨Ao103, co103, eo103⟩ := Kd.R_slice HO1856.out; subst eo103) | ((with_reducible refine gate_callee (f := 58) rfl ?_); refine goesL_ (some 98) rfl rfl Try.func58 (by kernel_rfl) rfl #[.agg #[.int .i64 t1844, .slice Ao100 t1845.length co100, .slice Ao101 t1848.length co101], .slice Ao102 t1851.length co102, .slice Ao103 t1854.length co103] rfl Z.ar ?_; (with_reducible refine (impl_GuardsOf.calls kj87 t1844 _ _ t1845 _ _ t1848 _ _ t1851 _ _ t1854 t1857 _ ?q1 ?q2 ?q3 ?q4 ?q5 ?q6 ?q7 ?q8 A93.out).mono ?_); (case q1 => repeat (exact (Kd.R_reads' HO1847.out).2.2)); (case q2 => exact (Kd.R_reads' HO1847.out).2.1); (case q3 => repeat (exact (Kd.R_reads' HO1850.out).2.2)); (case q4 => exact (Kd.R_reads' HO1850.out).2.1); (case q5 => repeat (exact (Kd.R_reads' HO1853.out).2.2)); (case q6 => exact (Kd.R_reads' HO1853.out).2.1); (case q7 => repeat (exact (Kd.R_reads' HO1856.out).2.2)); (case q8 => exact (Kd.R_reads' HO1856.out).2.1); rintro e w104 ⟨v1858, rfl, ho0, hb⟩; refine ⟨_, rfl, ?_⟩; replace HO1850 := Aside0.mk (Kd.R_below (by (with_reducible skip); exact HO1850.out) hb); have HO1859 := Aside0.mk (Kd.R_lower (Kd.R_new' (Kd.R_new' (Kd.R_new' (Kd.R_new' (Kd.R_new' ho0 (Kd.R_lt (by (with_reducible skip); exact HO_8.out))) (Kd.R_lt (by (with_reducible skip); exact HO_12.out))) (Kd.R_lt (by (with_reducible skip); exact HO1847.out))) (Kd.R_lt (by (with_reducible skip); exact HO1853.out))) (Kd.R_lt (by (with_reducible skip); exact HO1856.out))) (below_size (Z.bs HB.out GE1783.out))); replace HO_8 := Aside0.mk (Kd.R_elder' (by (with_reducible skip); exact HO_8.out) (Kd.R_base ho0) hb); replace HO_12 := Aside0.mk (Kd.R_elder' (by (with_reducible skip); exact HO_12.out) (Kd.R_base ho0) hb); replace HO1847 := Aside0.mk (Kd.R_elder' (by (with_reducible skip); exact HO1847.out) (Kd.R_base ho0) hb); replace HO1853 := Aside0.mk (Kd.R_elder' (by (with_reducible skip); exact HO1853.out) (Kd.R_base ho0) hb); replace HO1856 := Aside0.mk (Kd.R_elder' (by (with_reducible skip); exact HO1856.out) (Kd.R_base ho0) hb); replace BK1783 := Z.bb BK1783 hb; replace HB := Z.st (Z.bs HB.out GE1783.out) hb; (try clear hb); (try clear ho0); obtain ⟨Ao105, co105, eo105⟩ := Kd.R_slice HO1859.out; subst eo105) | ((with_reducible refine gate_callee (f := 25) rfl ?_); refine goesL_ (some 101) rfl rfl Try.func25 (by kernel_rfl) rfl #[.slice Ao105 t1857.length co105, .slice Ao47 t1798.length co47] rfl Z.ar ?_; (with_reducible refine (laws_eqIntS.calls kj87 _ _ t1857 _ _ t1798 t1860 _ ?q1 ?q2 ?q3 ?q4 A94.out).mono ?_); (case q1 => repeat (exact (Kd.R_reads' HO1859.out).2.2)); (case q2 => exact (Kd.R_reads' HO1859.out).2.1); (case q3 => repeat (exact (Kd.R_reads' HO_8.out).2.2)); (case q4 => exact (Kd.R_reads' HO_8.out).2.1); rintro e w' ⟨rfl, ⟨nd, rfl⟩⟩; refine ⟨_, rfl, ?_⟩))
                       go_cut [] (fun wc => ∃ (kq : Nat), Aside0 (laws_FnExactGuardsOf.j11 kq t1842 t1841 = some r) ∧ Aside0 (kq ≤ kj87) ∧ Aside0 (Kd.R (Kd.int .i64) 3 wc w.heap.size (fun _ => True) (.slice Ao46 t1842.length co46) t1842) ∧ Aside0 (wc.heap[gb1783]? = some (.cells #[.int .i64 a0_0, (.slice A0_1 l0_1.length c0_1), (.slice A0_2 l0_2.length c0_2)] 27 (0, 0))) ∧ Aside0 (Below w.heap.size w wc))
                       case first =>
                        have H := HC95.out
                        clear HC95
                        by_cases c106 : t1860 = true
                        ·subst c106
                         rw [if_pos rfl] at H
                         have H' := Aside0.mk H
                         clear H
                         go_wp2
                         go_meet
                         case rel => exact ⟨_, H', ⟨by have := HJ3.out; have := HJ6.out; have := HJ9.out; have := HJ22.out; have := HJ50.out; have := HJ59.out; have := HJ65.out; have := HJ72.out; have := HJ80.out; have := HJ84.out; have := HJ87.out; omega⟩, ⟨by (with_reducible repeat (apply Kd.R_drewN)); exact Kd.R_mono HO_12.out (fun _ hk => trivial)⟩, ⟨by (with_reducible repeat (refine blk_drewN ?_ _)); exact BK1783.out⟩, ⟨Z.bs HB.out GE1783.out⟩⟩
                        ·replace c106 := Bool.eq_false_iff.mpr c106
                         subst c106
                         rw [if_neg (show ¬ (false = true) by decide)] at H
                         obtain rfl := Option.some.inj H
                         go_wp2
                         go_ret
                         exact ⟨by rfl, Z.bs HB.out GE1783.out⟩
                       case rest =>
                        clear HC95
                        obtain ⟨kq, HA, HJ94, HO_12, BK1783, HB⟩ := hcut
                        cases kq with
                        | zero => exact absurd HA.out (by simp [laws_FnExactGuardsOf.j11])
                        | succ kj94 =>
                         have H := HA.out
                         clear HA
                         simp only [laws_FnExactGuardsOf.j11] at H
                         replace H := Option.bind_eq_some_iff.mp H
                         obtain ⟨t1861, A1070, H⟩ := H
                         have A107 := Aside0.mk A1070
                         clear A1070
                         by_cases c108 : t1861 < 0
                         ·rw [if_pos c108] at H
                          have c108b0 := decide_eq_true c108
                          clear c108
                          obtain rfl := Option.some.inj H
                          go_wp2_with (((with_reducible refine gate_callee (f := 32) rfl ?_); refine goesL_ (some 105) rfl rfl Try.func32 (by kernel_rfl) rfl #[.slice Ao46 t1842.length co46, .int .i64 1] rfl Z.ar ?_; (with_reducible refine (laws_heldIntS.calls kj94 _ _ t1842 1 t1861 _ ?q1 ?q2 A107.out).mono ?_); (case q1 => repeat (exact (Kd.R_reads' HO_12.out).2.2)); (case q2 => exact (Kd.R_reads' HO_12.out).2.1); rintro e w' ⟨rfl, ⟨nd, rfl⟩⟩; refine ⟨_, rfl, ?_⟩))
                          go_ret
                          exact ⟨by rfl, Z.bs HB.out GE1783.out⟩
                         ·rw [if_neg c108] at H
                          have c108b0 := decide_eq_false c108
                          clear c108
                          by_cases c109 : t1861 = t1841
                          ·rw [if_pos c109] at H
                           have c109b0 : (t1861 == t1841) = true := beq_iff_eq.mpr c109
                           have c109b1 : (t1861 != t1841) = false := bne_eq_false_iff_eq.mpr c109
                           clear c109
                           obtain rfl := Option.some.inj H
                           go_wp2_with (((with_reducible refine gate_callee (f := 32) rfl ?_); refine goesL_ (some 105) rfl rfl Try.func32 (by kernel_rfl) rfl #[.slice Ao46 t1842.length co46, .int .i64 1] rfl Z.ar ?_; (with_reducible refine (laws_heldIntS.calls kj94 _ _ t1842 1 t1861 _ ?q1 ?q2 A107.out).mono ?_); (case q1 => repeat (exact (Kd.R_reads' HO_12.out).2.2)); (case q2 => exact (Kd.R_reads' HO_12.out).2.1); rintro e w' ⟨rfl, ⟨nd, rfl⟩⟩; refine ⟨_, rfl, ?_⟩))
                           go_ret
                           exact ⟨by rfl, Z.bs HB.out GE1783.out⟩
                          ·rw [if_neg c109] at H
                           have c109b0 : (t1861 == t1841) = false := beq_eq_false_iff_ne.mpr c109
                           have c109b1 : (t1861 != t1841) = true := bne_iff_ne.mpr c109
                           obtain rfl := Option.some.inj H
                           go_wp2_with (((with_reducible refine gate_callee (f := 32) rfl ?_); refine goesL_ (some 105) rfl rfl Try.func32 (by kernel_rfl) rfl #[.slice Ao46 t1842.length co46, .int .i64 1] rfl Z.ar ?_; (with_reducible refine (laws_heldIntS.calls kj94 _ _ t1842 1 t1861 _ ?q1 ?q2 A107.out).mono ?_); (case q1 => repeat (exact (Kd.R_reads' HO_12.out).2.2)); (case q2 => exact (Kd.R_reads' HO_12.out).2.1); rintro e w' ⟨rfl, ⟨nd, rfl⟩⟩; refine ⟨_, rfl, ?_⟩))
                           go_ret
                           exact ⟨by rfl, Z.bs HB.out GE1783.out⟩

end Go.Proofs.Ytcafckapdgaogaa.PAll

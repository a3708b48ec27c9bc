/- Walks of functions that some laws of this seat reach, in the form of the print. -/
import Derived.Test.YtcafckapdgaogaaCAll0
import Derived.Test.YtcafckapdgaogaaCAll1
import Derived.Test.YtcafckapdgaogaaCAll2
import Derived.Test.YtcafckapdgaogaaCAll10
import Derived.Test.YtcafckapdgaogaaCAll17
import Derived.Test.YtcafckapdgaogaaCAll19
import Derived.Test.YtcafckapdgaogaaCAll43
import Derived.Test.YtcafckapdgaogaaCAll58
import Derived.Test.YtcafckapdgaogaaZ
import Derived.Test.YtcafckapdgaogaaV2
-- PRINTED
namespace Go.Proofs.Ytcafckapdgaogaa.PAll
open Go.RowKit Go.Proofs.YtcafckapdgaogaaW.PrintWords Go.Proofs.YtcafckapdgaogaaW.PrintLast Go.Proofs.YtcafckapdgaogaaW.PrintMore
attribute [local go_sem] max2_int min2_int max_two min_two max_three min_three max_four min_four
set_option linter.unusedVariables false
set_option linter.unusedSimpArgs false


/-! ### laws_FnExactSafeFor: function 12 -/
mutual
def laws_FnExactSafeFor.j0 : Nat → List Int → List Int → Int → Int → List Int → List (List (S128)) → Option (Bool)
 | 0, _, _, _, _, _, _ => none
 | k + 1, x1, x2, x3, x1348000, x1348001, x1348002 => if (x2.length : Int) > 1048576 then (some true) else (laws_FnExactSafeFor.j1 k x1 x2 x3 x1348000 x1348001 x1348002)
def laws_FnExactSafeFor.j1 : Nat → List Int → List Int → Int → Int → List Int → List (List (S128)) → Option (Bool)
 | 0, _, _, _, _, _, _ => none
 | k + 1, x1, x2, x3, x1348000, x1348001, x1348002 => (laws_szCharter.f k x1348000 x1348001 x1348002 1048576).bind fun t1348 => (if t1348 < 0 then (some true) else (laws_FnExactSafeFor.j2 k x1 x2 x3 x1348000 x1348001 x1348002))
def laws_FnExactSafeFor.j2 : Nat → List Int → List Int → Int → Int → List Int → List (List (S128)) → Option (Bool)
 | 0, _, _, _, _, _, _ => none
 | k + 1, x1, x2, x3, x1348000, x1348001, x1348002 => (laws_toCharter.f k x1348000 x1348001 x1348002).bind fun bt1349 => ((laws_toIntS.f k x1).bind fun t1356 => ((laws_toIntS.f k x2).bind fun t1359 => ((spec_SafeFor.f k bt1349.1 bt1349.2.1 bt1349.2.2 t1356 t1359 x3).bind fun t1362 => ((laws_toCharter.f k x1348000 x1348001 x1348002).bind fun bt1363 => ((laws_toIntS.f k x1).bind fun t1371 => ((laws_toIntS.f k x2).bind fun t1374 => ((impl_SafeFor.f k bt1363.1 bt1363.2.1 bt1363.2.2 t1371 t1374 x3).bind fun t1377 => (if (t1377 != t1362) = true then (some false) else (laws_FnExactSafeFor.j3 k x1 x2 t1371 t1374 x1348000 x1348001 x1348002 bt1363.1 bt1363.2.1 bt1363.2.2)))))))))
def laws_FnExactSafeFor.j3 : Nat → List Int → List Int → List Int → List Int → Int → List Int → List (List (S128)) → Int → List Int → List (List (S86)) → Option (Bool)
 | 0, _, _, _, _, _, _, _, _, _, _ => none
 | k + 1, x1, x2, x12, x13, x1348000, x1348001, x1348002, x1371000, x1371001, x1371002 => (laws_toCharter.f k x1348000 x1348001 x1348002).bind fun bt1378 => ((laws_eqCharter.f k x1371000 x1371001 x1371002 bt1378.1 bt1378.2.1 bt1378.2.2).bind fun t1385 => (if t1385 = true then (laws_FnExactSafeFor.j4 k x1 x2 x12 x13) else (some false)))
def laws_FnExactSafeFor.j4 : Nat → List Int → List Int → List Int → List Int → Option (Bool)
 | 0, _, _, _, _ => none
 | k + 1, x1, x2, x12, x13 => (laws_toIntS.f k x1).bind fun t1386 => ((laws_eqIntS.f k x12 t1386).bind fun t1389 => (if t1389 = true then (laws_FnExactSafeFor.j5 k x2 x13) else (some false)))
def laws_FnExactSafeFor.j5 : Nat → List Int → List Int → Option (Bool)
 | 0, _, _ => none
 | k + 1, x2, x13 => (laws_toIntS.f k x2).bind fun t1390 => ((laws_eqIntS.f k x13 t1390).bind fun t1393 => (if t1393 = true then (some true) else (some false)))
end
def laws_FnExactSafeFor.f (k : Nat) (a0_0 : Int) (l0_1 : List Int) (l0_2 : List (List (S128))) (l1 : List Int) (l2 : List Int) (a3 : Int) : Option (Bool) := if (l1.length : Int) > 1048576 then (some true) else (laws_FnExactSafeFor.j0 k l1 l2 a3 a0_0 l0_1 l0_2)
set_option maxHeartbeats 8000000 in
set_option maxRecDepth 100000 in
theorem laws_FnExactSafeFor.calls (k : Nat) (a0_0 : Int) (A0_1 : Option Addr) (c0_1 : Nat) (l0_1 : List Int) (A0_2 : Option Addr) (c0_2 : Nat) (l0_2 : List (List (S128))) (A1 : Option Addr) (c1 : Nat) (l1 : List Int) (A2 : Option Addr) (c2 : Nat) (l2 : List Int) (a3 : Int) (r : Bool) (w : World) (hr0_1 : Kd.C (Kd.int .i64) w A0_1 l0_1.length l0_1) (hc0_1 : l0_1.length ≤ c0_1) (hr0_2 : Kd.C (Kd.slice 128 k128) w A0_2 l0_2.length l0_2) (hc0_2 : l0_2.length ≤ c0_2) (hr1 : Kd.C (Kd.int .i64) w A1 l1.length l1) (hc1 : l1.length ≤ c1) (hr2 : Kd.C (Kd.int .i64) w A2 l2.length l2) (hc2 : l2.length ≤ c2) (h : laws_FnExactSafeFor.f k a0_0 l0_1 l0_2 l1 l2 a3 = some r) :
  Calls Try.prog 12 #[.agg #[.int .i64 a0_0, .slice A0_1 l0_1.length c0_1, .slice A0_2 l0_2.length c0_2], .slice A1 l1.length c1, .slice A2 l2.length c2, .int .i64 a3] w fun e w' => e = .returned (.bool r) ∧ Below w.heap.size w w' := by
 have hu27 := Try.underlying27
 have hu35 := Try.underlying35
 have HR0_1 := Aside0.mk hr0_1
 have HC0_1 := Aside0.mk hc0_1
 clear hr0_1 hc0_1
 have HR0_2 := Aside0.mk hr0_2
 have HC0_2 := Aside0.mk hc0_2
 clear hr0_2 hc0_2
 have HR1 := Aside0.mk hr1
 have HC1 := Aside0.mk hc1
 clear hr1 hc1
 have HR2 := Aside0.mk hr2
 have HC2 := Aside0.mk hc2
 clear hr2 hc2
 have HB := Aside0.mk (Below.refl w.heap.size w)
 have H := h
 clear h
 unfold laws_FnExactSafeFor.f at H
 have HC5 := Aside0.mk H
 clear H
 go_enter Try.func12, Try.ntmps12
 go_upto_if 17 with (((with_reducible refine gate_dst (N := 4) rfl ?_); refine Z.bx #[.int .i64 a0_0, .slice A0_1 l0_1.length c0_1, .slice A0_2 l0_2.length c0_2] 27 HB ?_; clear HB; intro gb1347 w6 BK1347 GE1347 HB hg hb; have GW1347 := GE1347; clear hb hg))
 go_cut [] (fun wc => ∃ (kq : Nat), Aside0 (laws_FnExactSafeFor.j0 kq l1 l2 a3 a0_0 l0_1 l0_2 = some r) ∧ Aside0 (kq ≤ k) ∧ Aside0 (wc.heap[gb1347]? = some (.cells #[.int .i64 a0_0, (.slice A0_1 l0_1.length c0_1), (.slice A0_2 l0_2.length c0_2)] 27 (0, 0))) ∧ Aside0 (Below w.heap.size w wc))
 case first =>
  have H := HC5.out
  clear HC5
  by_cases c7 : (l1.length : Int) > 1048576
  ·rw [if_pos c7] at H
   have c7b0 : decide (1048576 < (l1.length : Int)) = true := decide_eq_true c7
   have c7b1 : decide (1048576 < l1.length) = true := decide_eq_true (by omega)
   clear c7
   (rw [c7b0])
   obtain rfl := Option.some.inj H
   go_wp2
   go_ret
   exact ⟨by rfl, Z.bs HB.out GE1347.out⟩
  ·rw [if_neg c7] at H
   have c7b0 : decide (1048576 < (l1.length : Int)) = false := decide_eq_false c7
   have c7b1 : decide (1048576 < l1.length) = false := decide_eq_false (by omega)
   clear c7
   (rw [c7b0])
   have H' := Aside0.mk H
   clear H
   go_wp2
   go_meet
   case rel => exact ⟨_, H', ⟨by omega⟩, ⟨by (with_reducible skip); exact BK1347.out⟩, ⟨Z.bs HB.out GE1347.out⟩⟩
 case rest =>
  clear HC5
  obtain ⟨kq, HA, HJ4, BK1347, HB⟩ := hcut
  cases kq with
  | zero => exact absurd HA.out (by simp [laws_FnExactSafeFor.j0])
  | succ kj4 =>
   have H := HA.out
   clear HA
   simp only [laws_FnExactSafeFor.j0] at H
   have HC8 := Aside0.mk H
   clear H
   go_upto_if 20 with (fail)
   go_cut [] (fun wc => ∃ (kq : Nat), Aside0 (laws_FnExactSafeFor.j1 kq l1 l2 a3 a0_0 l0_1 l0_2 = some r) ∧ Aside0 (kq ≤ kj4) ∧ Aside0 (wc.heap[gb1347]? = some (.cells #[.int .i64 a0_0, (.slice A0_1 l0_1.length c0_1), (.slice A0_2 l0_2.length c0_2)] 27 (0, 0))) ∧ Aside0 (Below w.heap.size w wc))
   case first =>
    have H := HC8.out
    clear HC8
    by_cases c9 : (l2.length : Int) > 1048576
    ·rw [if_pos c9] at H
     have c9b0 : decide (1048576 < (l2.length : Int)) = true := decide_eq_true c9
     have c9b1 : decide (1048576 < l2.length) = true := decide_eq_true (by omega)
     clear c9
     (rw [c9b0])
     obtain rfl := Option.some.inj H
     go_wp2
     go_ret
     exact ⟨by rfl, Z.bs HB.out GE1347.out⟩
    ·rw [if_neg c9] at H
     have c9b0 : decide (1048576 < (l2.length : Int)) = false := decide_eq_false c9
     have c9b1 : decide (1048576 < l2.length) = false := decide_eq_false (by omega)
     clear c9
     (rw [c9b0])
     have H' := Aside0.mk H
     clear H
     go_wp2
     go_meet
     case rel => exact ⟨_, H', ⟨by have := HJ4.out; omega⟩, ⟨by (with_reducible skip); exact BK1347.out⟩, ⟨Z.bs HB.out GE1347.out⟩⟩
   case rest =>
    clear HC8
    obtain ⟨kq, HA, HJ7, BK1347, HB⟩ := hcut
    cases kq with
    | zero => exact absurd HA.out (by simp [laws_FnExactSafeFor.j1])
    | succ kj7 =>
     have H := HA.out
     clear HA
     simp only [laws_FnExactSafeFor.j1] at H
     replace H := Option.bind_eq_some_iff.mp H
     obtain ⟨t1348, A100, H⟩ := H
     have A10 := Aside0.mk A100
     clear A100
     have HC11 := Aside0.mk H
     clear H
     have hcz12 := Z.c3 BK1347.out
     go_upto_if 25 with (((with_reducible refine gate_callee (f := 17) rfl ?_); refine goesL_ (some 23) rfl rfl Try.func17 (by kernel_rfl) rfl #[.agg #[.int .i64 a0_0, .slice A0_1 l0_1.length c0_1, .slice A0_2 l0_2.length c0_2], .int .i64 1048576] rfl Z.ar ?_; (with_reducible refine (laws_szCharter.calls kj7 a0_0 _ _ l0_1 _ _ l0_2 1048576 t1348 _ ?q1 ?q2 ?q3 ?q4 A10.out).mono ?_); (case q1 => exact Z.cc HR0_1 HB); (case q2 => exact HC0_1.out); (case q3 => exact Z.cc HR0_2 HB); (case q4 => exact HC0_2.out); rintro e w13 ⟨rfl, hb⟩; refine ⟨_, rfl, ?_⟩; replace BK1347 := Z.bb BK1347 hb; replace HB := Z.st (Z.bs HB.out GE1347.out) hb; (try clear hb)))
     go_cut [] (fun wc => ∃ (kq : Nat), Aside0 (laws_FnExactSafeFor.j2 kq l1 l2 a3 a0_0 l0_1 l0_2 = some r) ∧ Aside0 (kq ≤ kj7) ∧ Aside0 (wc.heap[gb1347]? = some (.cells #[.int .i64 a0_0, (.slice A0_1 l0_1.length c0_1), (.slice A0_2 l0_2.length c0_2)] 27 (0, 0))) ∧ Aside0 (Below w.heap.size w wc))
     case first =>
      have H := HC11.out
      clear HC11
      by_cases c14 : t1348 < 0
      ·rw [if_pos c14] at H
       have c14b0 := decide_eq_true c14
       clear c14
       (rw [c14b0])
       obtain rfl := Option.some.inj H
       go_wp2
       go_ret
       exact ⟨by rfl, Z.bs HB.out GE1347.out⟩
      ·rw [if_neg c14] at H
       have c14b0 := decide_eq_false c14
       clear c14
       (rw [c14b0])
       have H' := Aside0.mk H
       clear H
       go_wp2
       go_meet
       case rel => exact ⟨_, H', ⟨by have := HJ4.out; have := HJ7.out; omega⟩, ⟨by (with_reducible skip); exact BK1347.out⟩, ⟨Z.bs HB.out GE1347.out⟩⟩
     case rest =>
      clear HC11
      obtain ⟨kq, HA, HJ10, BK1347, HB⟩ := hcut
      cases kq with
      | zero => exact absurd HA.out (by simp [laws_FnExactSafeFor.j2])
      | succ kj10 =>
       have H := HA.out
       clear HA
       simp only [laws_FnExactSafeFor.j2] at H
       replace H := Option.bind_eq_some_iff.mp H
       obtain ⟨⟨t1349, t1350, t1353⟩, A150, H⟩ := H
       try dsimp only at H
       have A15 := Aside0.mk A150
       clear A150
       replace H := Option.bind_eq_some_iff.mp H
       obtain ⟨t1356, A160, H⟩ := H
       have A16 := Aside0.mk A160
       clear A160
       replace H := Option.bind_eq_some_iff.mp H
       obtain ⟨t1359, A170, H⟩ := H
       have A17 := Aside0.mk A170
       clear A170
       replace H := Option.bind_eq_some_iff.mp H
       obtain ⟨t1362, A180, H⟩ := H
       have A18 := Aside0.mk A180
       clear A180
       replace H := Option.bind_eq_some_iff.mp H
       obtain ⟨⟨t1363, t1364, t1367⟩, A190, H⟩ := H
       try dsimp only at H
       have A19 := Aside0.mk A190
       clear A190
       replace H := Option.bind_eq_some_iff.mp H
       obtain ⟨t1371, A200, H⟩ := H
       have A20 := Aside0.mk A200
       clear A200
       replace H := Option.bind_eq_some_iff.mp H
       obtain ⟨t1374, A210, H⟩ := H
       have A21 := Aside0.mk A210
       clear A210
       replace H := Option.bind_eq_some_iff.mp H
       obtain ⟨t1377, A220, H⟩ := H
       have A22 := Aside0.mk A220
       clear A220
       have HC23 := Aside0.mk H
       clear H
       have hcz24 := Z.c3 BK1347.out
       go_upto_if 47 with (first | ((with_reducible refine gate_callee (f := 20) rfl ?_); refine goesL_ (some 27) rfl rfl Try.func20 (by kernel_rfl) rfl #[.agg #[.int .i64 a0_0, .slice A0_1 l0_1.length c0_1, .slice A0_2 l0_2.length c0_2]] rfl Z.ar ?_; (with_reducible refine (laws_toCharter.calls kj10 a0_0 _ _ l0_1 _ _ l0_2 t1349 t1350 t1353 _ ?q1 ?q2 ?q3 ?q4 A15.out).mono ?_); (case q1 => exact Z.cc HR0_1 HB); (case q2 => exact HC0_1.out); (case q3 => exact Z.cc HR0_2 HB); (case q4 => exact HC0_2.out); rintro e w25 ⟨v1351, v1354, rfl, ho0, ho1, hb⟩; refine ⟨_, rfl, ?_⟩; have HO1352 := Aside0.mk (Kd.R_lower ho0 (below_size (Z.bs HB.out GE1347.out))); have HO1355 := Aside0.mk (Kd.R_lower ho1 (below_size (Z.bs HB.out GE1347.out))); replace BK1347 := Z.bb BK1347 hb; replace HB := Z.st (Z.bs HB.out GE1347.out) hb; (try clear hb); (try clear ho0); (try clear ho1)) | ((with_reducible refine gate_callee (f := 21) rfl ?_); refine goesL_ (some 29) rfl rfl Try.func21 (by kernel_rfl) rfl #[.slice A1 l1.length c1] rfl Z.ar ?_; (with_reducible refine (laws_toIntS.calls kj10 _ _ l1 t1356 _ ?q1 ?q2 A16.out).mono ?_); (case q1 => exact Z.cc HR1 HB); (case q2 => exact HC1.out); rintro e w26 ⟨v1357, rfl, ho0, hb⟩; refine ⟨_, rfl, ?_⟩; replace HO1355 := Aside0.mk (Kd.R_below (by (with_reducible skip); exact HO1355.out) hb); have HO1358 := Aside0.mk (Kd.R_lower (Kd.R_new' ho0 (Kd.R_lt (by (with_reducible skip); exact HO1352.out))) (below_size (Z.bs HB.out GE1347.out))); replace HO1352 := Aside0.mk (Kd.R_elder' (by (with_reducible skip); exact HO1352.out) (Kd.R_base ho0) hb); replace BK1347 := Z.bb BK1347 hb; replace HB := Z.st (Z.bs HB.out GE1347.out) hb; (try clear hb); (try clear ho0)) | ((with_reducible refine gate_callee (f := 21) rfl ?_); refine goesL_ (some 31) rfl rfl Try.func21 (by kernel_rfl) rfl #[.slice A2 l2.length c2] rfl Z.ar ?_; (with_reducible refine (laws_toIntS.calls kj10 _ _ l2 t1359 _ ?q1 ?q2 A17.out).mono ?_); (case q1 => exact Z.cc HR2 HB); (case q2 => exact HC2.out); rintro e w27 ⟨v1360, rfl, ho0, hb⟩; refine ⟨_, rfl, ?_⟩; replace HO1355 := Aside0.mk (Kd.R_below (by (with_reducible skip); exact HO1355.out) hb); have HO1361 := Aside0.mk (Kd.R_lower (Kd.R_new' (Kd.R_new' ho0 (Kd.R_lt (by (with_reducible skip); exact HO1352.out))) (Kd.R_lt (by (with_reducible skip); exact HO1358.out))) (below_size (Z.bs HB.out GE1347.out))); replace HO1352 := Aside0.mk (Kd.R_elder' (by (with_reducible skip); exact HO1352.out) (Kd.R_base ho0) hb); replace HO1358 := Aside0.mk (Kd.R_elder' (by (with_reducible skip); exact HO1358.out) (Kd.R_base ho0) hb); replace BK1347 := Z.bb BK1347 hb; replace HB := Z.st (Z.bs HB.out GE1347.out) hb; (try clear hb); (try clear ho0); obtain ⟨Ao28, co28, eo28⟩ := Kd.R_slice HO1352.out; subst eo28; obtain ⟨Ao29, co29, eo29⟩ := Kd.R_slice HO1355.out; subst eo29; obtain ⟨Ao30, co30, eo30⟩ := Kd.R_slice HO1358.out; subst eo30; obtain ⟨Ao31, co31, eo31⟩ := Kd.R_slice HO1361.out; subst eo31) | ((with_reducible refine gate_callee (f := 49) rfl ?_); refine goesL_ (some 33) rfl rfl Try.func49 (by kernel_rfl) rfl #[.agg #[.int .i64 t1349, .slice Ao28 t1350.length co28, .slice Ao29 t1353.length co29], .slice Ao30 t1356.length co30, .slice Ao31 t1359.length co31, .int .i64 a3] rfl Z.ar ?_; (with_reducible refine (spec_SafeFor.calls kj10 t1349 _ _ t1350 _ _ t1353 _ _ t1356 _ _ t1359 a3 t1362 _ ?q1 ?q2 ?q3 ?q4 ?q5 ?q6 ?q7 ?q8 A18.out).mono ?_); (case q1 => repeat (exact (Kd.R_reads' HO1352.out).2.2)); (case q2 => exact (Kd.R_reads' HO1352.out).2.1); (case q3 => repeat (exact (Kd.R_reads' HO1355.out).2.2)); (case q4 => exact (Kd.R_reads' HO1355.out).2.1); (case q5 => repeat (exact (Kd.R_reads' HO1358.out).2.2)); (case q6 => exact (Kd.R_reads' HO1358.out).2.1); (case q7 => repeat (exact (Kd.R_reads' HO1361.out).2.2)); (case q8 => exact (Kd.R_reads' HO1361.out).2.1); rintro e w32 ⟨rfl, hb⟩; refine ⟨_, rfl, ?_⟩; replace HO1352 := Aside0.mk (Kd.R_below (by (with_reducible skip); exact HO1352.out) hb); replace HO1355 := Aside0.mk (Kd.R_below (by (with_reducible skip); exact HO1355.out) hb); replace HO1358 := Aside0.mk (Kd.R_below (by (with_reducible skip); exact HO1358.out) hb); replace HO1361 := Aside0.mk (Kd.R_below (by (with_reducible skip); exact HO1361.out) hb); replace BK1347 := Z.bb BK1347 hb; replace HB := Z.st (Z.bs HB.out GE1347.out) hb; (try clear hb); have hcz33 := Z.c3 BK1347.out) | ((with_reducible refine gate_callee (f := 20) rfl ?_); refine goesL_ (some 35) rfl rfl Try.func20 (by kernel_rfl) rfl #[.agg #[.int .i64 a0_0, .slice A0_1 l0_1.length c0_1, .slice A0_2 l0_2.length c0_2]] rfl Z.ar ?_; (with_reducible refine (laws_toCharter.calls kj10 a0_0 _ _ l0_1 _ _ l0_2 t1363 t1364 t1367 _ ?q1 ?q2 ?q3 ?q4 A19.out).mono ?_); (case q1 => exact Z.cc HR0_1 HB); (case q2 => exact HC0_1.out); (case q3 => exact Z.cc HR0_2 HB); (case q4 => exact HC0_2.out); rintro e w34 ⟨v1365, v1368, rfl, ho0, ho1, hb⟩; refine ⟨_, rfl, ?_⟩; have HO1366 := Aside0.mk (Kd.R_lower (Kd.R_new' (Kd.R_new' (Kd.R_new' ho0 (Kd.R_lt (by (with_reducible skip); exact HO1352.out))) (Kd.R_lt (by (with_reducible skip); exact HO1358.out))) (Kd.R_lt (by (with_reducible skip); exact HO1361.out))) (below_size (Z.bs HB.out GE1347.out))); replace HO1352 := Aside0.mk (Kd.R_elder' (by (with_reducible skip); exact HO1352.out) (Kd.R_base ho0) hb); replace HO1358 := Aside0.mk (Kd.R_elder' (by (with_reducible skip); exact HO1358.out) (Kd.R_base ho0) hb); replace HO1361 := Aside0.mk (Kd.R_elder' (by (with_reducible skip); exact HO1361.out) (Kd.R_base ho0) hb); have HO1369 := Aside0.mk (Kd.R_lower (Kd.R_new' ho1 (Kd.R_lt (by (with_reducible skip); exact HO1355.out))) (below_size (Z.bs HB.out GE1347.out))); replace HO1355 := Aside0.mk (Kd.R_elder' (by (with_reducible skip); exact HO1355.out) (Kd.R_base ho1) hb); replace BK1347 := Z.bb BK1347 hb; replace HB := Z.st (Z.bs HB.out GE1347.out) hb; (try clear hb); (try clear ho0); (try clear ho1)) | ((with_reducible refine gate_dst (N := 11) rfl ?_); refine Z.bz #[.int .i64 0, .slice none 0 0, .slice none 0 0] 35 HB GE1347 ?_; clear HB; intro gb1370 w35 BK1370 GE1370 HB hg hb; have GW1370 := GE1370; replace HO1352 := Aside0.mk (Kd.R_below (by (with_reducible skip); exact HO1352.out) hb); replace HO1355 := Aside0.mk (Kd.R_below (by (with_reducible skip); exact HO1355.out) hb); replace HO1358 := Aside0.mk (Kd.R_below (by (with_reducible skip); exact HO1358.out) hb); replace HO1361 := Aside0.mk (Kd.R_below (by (with_reducible skip); exact HO1361.out) hb); replace HO1366 := Aside0.mk (Kd.R_below (by (with_reducible skip); exact HO1366.out) hb); replace HO1369 := Aside0.mk (Kd.R_below (by (with_reducible skip); exact HO1369.out) hb); have NB1347_1370 := Z.nl hg BK1347; have NB1370_1347 := Z.ng hg BK1347; replace BK1347 := Z.bb BK1347 hb; clear hb hg; have hnb36 := NB1370_1347.out; have hnc36 := NB1347_1370.out; have hcz37 := Z.c3 BK1370.out; obtain ⟨Ao38, co38, eo38⟩ := Kd.R_slice HO1366.out; subst eo38; obtain ⟨Ao39, co39, eo39⟩ := Kd.R_slice HO1369.out; subst eo39) | ((with_reducible refine gate_callee (f := 21) rfl ?_); refine goesL_ (some 37) rfl rfl Try.func21 (by kernel_rfl) rfl #[.slice A1 l1.length c1] rfl Z.ar ?_; (with_reducible refine (laws_toIntS.calls kj10 _ _ l1 t1371 _ ?q1 ?q2 A20.out).mono ?_); (case q1 => exact Kd.C_below HR1.out (by repeat ((with_reducible first | exact HB.out | refine below_set ?_ GE1370.out)))); (case q2 => exact HC1.out); rintro e w40 ⟨v1372, rfl, ho0, hb⟩; refine ⟨_, rfl, ?_⟩; replace HO1355 := Aside0.mk (Kd.R_below (by (with_reducible skip); exact (Kd.R_mono (Kd.R_far (p := ⟨gb1370, 2, none⟩) (Kd.R_far (p := ⟨gb1370, 1, none⟩) (Kd.R_far (p := ⟨gb1370, 0, none⟩) (Kd.R_types HO1355.out BK1370.out (by decide)) (fun _ hk => hk.2) (.int .i64 t1363)) (fun _ hk => hk.2) (.slice Ao38 t1364.length co38)) (fun _ hk => hk.2) (.slice Ao39 t1367.length co39)) (fun _ h_ => h_.1))) hb); replace HO1369 := Aside0.mk (Kd.R_below (by (with_reducible skip); exact (Kd.R_mono (Kd.R_far (p := ⟨gb1370, 2, none⟩) (Kd.R_far (p := ⟨gb1370, 1, none⟩) (Kd.R_far (p := ⟨gb1370, 0, none⟩) (Kd.R_types HO1369.out BK1370.out (by decide)) (fun _ hk => hk.2) (.int .i64 t1363)) (fun _ hk => hk.2) (.slice Ao38 t1364.length co38)) (fun _ hk => hk.2) (.slice Ao39 t1367.length co39)) (fun _ h_ => h_.1))) hb); have HO1373 := Aside0.mk (Kd.R_lower (Kd.R_new' (Kd.R_new' (Kd.R_new' (Kd.R_new' ho0 (Kd.R_lt (by (with_reducible skip); exact (Kd.R_mono (Kd.R_far (p := ⟨gb1370, 2, none⟩) (Kd.R_far (p := ⟨gb1370, 1, none⟩) (Kd.R_far (p := ⟨gb1370, 0, none⟩) (Kd.R_types HO1352.out BK1370.out (by decide)) (fun _ hk => hk.2) (.int .i64 t1363)) (fun _ hk => hk.2) (.slice Ao38 t1364.length co38)) (fun _ hk => hk.2) (.slice Ao39 t1367.length co39)) (fun _ h_ => h_.1))))) (Kd.R_lt (by (with_reducible skip); exact (Kd.R_mono (Kd.R_far (p := ⟨gb1370, 2, none⟩) (Kd.R_far (p := ⟨gb1370, 1, none⟩) (Kd.R_far (p := ⟨gb1370, 0, none⟩) (Kd.R_types HO1358.out BK1370.out (by decide)) (fun _ hk => hk.2) (.int .i64 t1363)) (fun _ hk => hk.2) (.slice Ao38 t1364.length co38)) (fun _ hk => hk.2) (.slice Ao39 t1367.length co39)) (fun _ h_ => h_.1))))) (Kd.R_lt (by (with_reducible skip); exact (Kd.R_mono (Kd.R_far (p := ⟨gb1370, 2, none⟩) (Kd.R_far (p := ⟨gb1370, 1, none⟩) (Kd.R_far (p := ⟨gb1370, 0, none⟩) (Kd.R_types HO1361.out BK1370.out (by decide)) (fun _ hk => hk.2) (.int .i64 t1363)) (fun _ hk => hk.2) (.slice Ao38 t1364.length co38)) (fun _ hk => hk.2) (.slice Ao39 t1367.length co39)) (fun _ h_ => h_.1))))) (Kd.R_lt (by (with_reducible skip); exact (Kd.R_mono (Kd.R_far (p := ⟨gb1370, 2, none⟩) (Kd.R_far (p := ⟨gb1370, 1, none⟩) (Kd.R_far (p := ⟨gb1370, 0, none⟩) (Kd.R_types HO1366.out BK1370.out (by decide)) (fun _ hk => hk.2) (.int .i64 t1363)) (fun _ hk => hk.2) (.slice Ao38 t1364.length co38)) (fun _ hk => hk.2) (.slice Ao39 t1367.length co39)) (fun _ h_ => h_.1))))) (below_size (by repeat ((with_reducible first | exact HB.out | refine below_set ?_ GE1370.out))))); replace HO1352 := Aside0.mk (Kd.R_elder' (by (with_reducible skip); exact (Kd.R_mono (Kd.R_far (p := ⟨gb1370, 2, none⟩) (Kd.R_far (p := ⟨gb1370, 1, none⟩) (Kd.R_far (p := ⟨gb1370, 0, none⟩) (Kd.R_types HO1352.out BK1370.out (by decide)) (fun _ hk => hk.2) (.int .i64 t1363)) (fun _ hk => hk.2) (.slice Ao38 t1364.length co38)) (fun _ hk => hk.2) (.slice Ao39 t1367.length co39)) (fun _ h_ => h_.1))) (Kd.R_base ho0) hb); replace HO1358 := Aside0.mk (Kd.R_elder' (by (with_reducible skip); exact (Kd.R_mono (Kd.R_far (p := ⟨gb1370, 2, none⟩) (Kd.R_far (p := ⟨gb1370, 1, none⟩) (Kd.R_far (p := ⟨gb1370, 0, none⟩) (Kd.R_types HO1358.out BK1370.out (by decide)) (fun _ hk => hk.2) (.int .i64 t1363)) (fun _ hk => hk.2) (.slice Ao38 t1364.length co38)) (fun _ hk => hk.2) (.slice Ao39 t1367.length co39)) (fun _ h_ => h_.1))) (Kd.R_base ho0) hb); replace HO1361 := Aside0.mk (Kd.R_elder' (by (with_reducible skip); exact (Kd.R_mono (Kd.R_far (p := ⟨gb1370, 2, none⟩) (Kd.R_far (p := ⟨gb1370, 1, none⟩) (Kd.R_far (p := ⟨gb1370, 0, none⟩) (Kd.R_types HO1361.out BK1370.out (by decide)) (fun _ hk => hk.2) (.int .i64 t1363)) (fun _ hk => hk.2) (.slice Ao38 t1364.length co38)) (fun _ hk => hk.2) (.slice Ao39 t1367.length co39)) (fun _ h_ => h_.1))) (Kd.R_base ho0) hb); replace HO1366 := Aside0.mk (Kd.R_elder' (by (with_reducible skip); exact (Kd.R_mono (Kd.R_far (p := ⟨gb1370, 2, none⟩) (Kd.R_far (p := ⟨gb1370, 1, none⟩) (Kd.R_far (p := ⟨gb1370, 0, none⟩) (Kd.R_types HO1366.out BK1370.out (by decide)) (fun _ hk => hk.2) (.int .i64 t1363)) (fun _ hk => hk.2) (.slice Ao38 t1364.length co38)) (fun _ hk => hk.2) (.slice Ao39 t1367.length co39)) (fun _ h_ => h_.1))) (Kd.R_base ho0) hb); replace BK1347 := Aside0.mk (blk_below (g := gb1347) (o := .cells #[.int .i64 a0_0, .slice A0_1 l0_1.length c0_1, .slice A0_2 l0_2.length c0_2] 27 (0, 0)) (by (with_reducible skip); refine blk_far ?_ NB1347_1370.out _; (with_reducible skip); refine blk_far ?_ NB1347_1370.out _; (with_reducible skip); refine blk_far ?_ NB1347_1370.out _; (with_reducible skip); exact BK1347.out) hb); replace BK1370 := Aside0.mk (blk_below (g := gb1370) (o := .cells #[.int .i64 t1363, .slice Ao38 t1364.length co38, .slice Ao39 t1367.length co39] 35 (0, 0)) (by (with_reducible skip); refine blk_put (cs := #[.int .i64 t1363, .slice Ao38 t1364.length co38, .slice none 0 0]) ?_ 2 _ rfl; (with_reducible skip); refine blk_put (cs := #[.int .i64 t1363, .slice none 0 0, .slice none 0 0]) ?_ 1 _ rfl; (with_reducible skip); refine blk_put (cs := #[.int .i64 0, .slice none 0 0, .slice none 0 0]) ?_ 0 _ rfl; (with_reducible skip); exact BK1370.out) hb); replace HB := Aside0.mk (below_step (by repeat ((with_reducible first | exact HB.out | refine below_set ?_ GE1370.out))) hb); (try clear hb); (try clear ho0)) | ((with_reducible refine gate_callee (f := 21) rfl ?_); refine goesL_ (some 39) rfl rfl Try.func21 (by kernel_rfl) rfl #[.slice A2 l2.length c2] rfl Z.ar ?_; (with_reducible refine (laws_toIntS.calls kj10 _ _ l2 t1374 _ ?q1 ?q2 A21.out).mono ?_); (case q1 => exact Z.cc HR2 HB); (case q2 => exact HC2.out); rintro e w41 ⟨v1375, rfl, ho0, hb⟩; refine ⟨_, rfl, ?_⟩; replace HO1355 := Aside0.mk (Kd.R_below (by (with_reducible skip); exact HO1355.out) hb); replace HO1369 := Aside0.mk (Kd.R_below (by (with_reducible skip); exact HO1369.out) hb); have HO1376 := Aside0.mk (Kd.R_lower (Kd.R_new' (Kd.R_new' (Kd.R_new' (Kd.R_new' (Kd.R_new' ho0 (Kd.R_lt (by (with_reducible skip); exact HO1352.out))) (Kd.R_lt (by (with_reducible skip); exact HO1358.out))) (Kd.R_lt (by (with_reducible skip); exact HO1361.out))) (Kd.R_lt (by (with_reducible skip); exact HO1366.out))) (Kd.R_lt (by (with_reducible skip); exact HO1373.out))) (below_size (by repeat ((with_reducible exact HB.out))))); replace HO1352 := Aside0.mk (Kd.R_elder' (by (with_reducible skip); exact HO1352.out) (Kd.R_base ho0) hb); replace HO1358 := Aside0.mk (Kd.R_elder' (by (with_reducible skip); exact HO1358.out) (Kd.R_base ho0) hb); replace HO1361 := Aside0.mk (Kd.R_elder' (by (with_reducible skip); exact HO1361.out) (Kd.R_base ho0) hb); replace HO1366 := Aside0.mk (Kd.R_elder' (by (with_reducible skip); exact HO1366.out) (Kd.R_base ho0) hb); replace HO1373 := Aside0.mk (Kd.R_elder' (by (with_reducible skip); exact HO1373.out) (Kd.R_base ho0) hb); replace BK1347 := Z.bb BK1347 hb; replace BK1370 := Z.bb BK1370 hb; replace HB := Aside0.mk (below_step (by repeat ((with_reducible exact HB.out))) hb); (try clear hb); (try clear ho0); have hcz42 := Z.c3 BK1370.out; obtain ⟨Ao43, co43, eo43⟩ := Kd.R_slice HO1373.out; subst eo43; obtain ⟨Ao44, co44, eo44⟩ := Kd.R_slice HO1376.out; subst eo44) | ((with_reducible refine gate_callee (f := 50) rfl ?_); refine goesL_ (some 44) rfl rfl Try.func50 (by kernel_rfl) rfl #[.agg #[.int .i64 t1363, .slice Ao38 t1364.length co38, .slice Ao39 t1367.length co39], .slice Ao43 t1371.length co43, .slice Ao44 t1374.length co44, .int .i64 a3] rfl Z.ar ?_; (with_reducible refine (impl_SafeFor.calls kj10 t1363 _ _ t1364 _ _ t1367 _ _ t1371 _ _ t1374 a3 t1377 _ ?q1 ?q2 ?q3 ?q4 ?q5 ?q6 ?q7 ?q8 A22.out).mono ?_); (case q1 => repeat (exact (Kd.R_reads' HO1366.out).2.2)); (case q2 => exact (Kd.R_reads' HO1366.out).2.1); (case q3 => repeat (exact (Kd.R_reads' HO1369.out).2.2)); (case q4 => exact (Kd.R_reads' HO1369.out).2.1); (case q5 => repeat (exact (Kd.R_reads' HO1373.out).2.2)); (case q6 => exact (Kd.R_reads' HO1373.out).2.1); (case q7 => repeat (exact (Kd.R_reads' HO1376.out).2.2)); (case q8 => exact (Kd.R_reads' HO1376.out).2.1); rintro e w45 ⟨rfl, hb⟩; refine ⟨_, rfl, ?_⟩; replace HO1352 := Aside0.mk (Kd.R_below (by (with_reducible skip); exact HO1352.out) hb); replace HO1355 := Aside0.mk (Kd.R_below (by (with_reducible skip); exact HO1355.out) hb); replace HO1358 := Aside0.mk (Kd.R_below (by (with_reducible skip); exact HO1358.out) hb); replace HO1361 := Aside0.mk (Kd.R_below (by (with_reducible skip); exact HO1361.out) hb); replace HO1366 := Aside0.mk (Kd.R_below (by (with_reducible skip); exact HO1366.out) hb); replace HO1369 := Aside0.mk (Kd.R_below (by (with_reducible skip); exact HO1369.out) hb); replace HO1373 := Aside0.mk (Kd.R_below (by (with_reducible skip); exact HO1373.out) hb); replace HO1376 := Aside0.mk (Kd.R_below (by (with_reducible skip); exact HO1376.out) hb); replace BK1347 := Z.bb BK1347 hb; replace BK1370 := Z.bb BK1370 hb; replace HB := Aside0.mk (below_step (by repeat ((with_reducible exact HB.out))) hb); (try clear hb)))
       go_cut [] (fun wc => ∃ (kq : Nat), Aside0 (laws_FnExactSafeFor.j3 kq l1 l2 t1371 t1374 a0_0 l0_1 l0_2 t1363 t1364 t1367 = some r) ∧ Aside0 (kq ≤ kj10) ∧ Aside0 (Kd.R (Kd.int .i64) 3 wc w.heap.size (fun k_ => some k_ ≠ ((.slice Ao44 t1374.length co44) : Value).ownBlock ∧ some k_ ≠ ((.slice Ao38 t1364.length co38) : Value).ownBlock) (.slice Ao43 t1371.length co43) t1371) ∧ Aside0 (Kd.R (Kd.int .i64) 3 wc w.heap.size (fun k_ => some k_ ≠ ((.slice Ao43 t1371.length co43) : Value).ownBlock ∧ some k_ ≠ ((.slice Ao38 t1364.length co38) : Value).ownBlock) (.slice Ao44 t1374.length co44) t1374) ∧ Aside0 (Kd.R (Kd.int .i64) 3 wc w.heap.size (fun k_ => some k_ ≠ ((.slice Ao43 t1371.length co43) : Value).ownBlock ∧ some k_ ≠ ((.slice Ao44 t1374.length co44) : Value).ownBlock) (.slice Ao38 t1364.length co38) t1364) ∧ Aside0 (Kd.R (Kd.slice 86 k86) 83 wc w.heap.size (fun _ => True) (.slice Ao39 t1367.length co39) t1367) ∧ Aside0 (wc.heap[gb1347]? = some (.cells #[.int .i64 a0_0, (.slice A0_1 l0_1.length c0_1), (.slice A0_2 l0_2.length c0_2)] 27 (0, 0))) ∧ Aside0 (wc.heap[gb1370]? = some (.cells #[.int .i64 t1363, (.slice Ao38 t1364.length co38), (.slice Ao39 t1367.length co39)] 35 (0, 0))) ∧ Aside0 (Below w.heap.size w wc))
       case first =>
        have H := HC23.out
        clear HC23
        by_cases c46 : (t1377 != t1362) = true
        ·rw [if_pos c46] at H
         have c46b0 : (t1377 != t1362) = true := c46
         (try (have c46b4 : (!t1377 == t1362) = true := (by decide : ∀ a b : Bool, (a != b) = true → (!a == b) = true) _ _ c46b0))
         (try (have c46b1 : decide (t1377 = t1362) = false := by simpa using c46))
         (try (have c46b2 : (t1377 == t1362) = false := by simpa using c46))
         (try (have c46b3 : ¬ (t1377 = t1362) := by simpa using c46))
         clear c46
         (rw [c46b4])
         obtain rfl := Option.some.inj H
         go_wp2
         go_ret
         exact ⟨by rfl, by repeat ((with_reducible exact HB.out))⟩
        ·rw [if_neg c46] at H
         have c46b0 : (t1377 != t1362) = false := by simpa using c46
         (try (have c46b4 : (!t1377 == t1362) = false := (by decide : ∀ a b : Bool, (a != b) = false → (!a == b) = false) _ _ c46b0))
         (try (have c46b1 : decide (t1377 = t1362) = true := by simpa using c46))
         (try (have c46b2 : (t1377 == t1362) = true := by simpa using c46))
         clear c46
         (rw [c46b4])
         have H' := Aside0.mk H
         clear H
         go_wp2
         go_meet
         case rel => exact ⟨_, H', ⟨by have := HJ4.out; have := HJ7.out; have := HJ10.out; omega⟩, ⟨by (with_reducible skip); exact Kd.R_mono HO1373.out (fun _ hk => ⟨hk.2, hk.1.2⟩)⟩, ⟨by (with_reducible skip); exact Kd.R_mono HO1376.out (fun _ hk => ⟨hk.2, hk.1.2⟩)⟩, ⟨by (with_reducible skip); exact Kd.R_mono HO1366.out (fun _ hk => ⟨hk.1.2, hk.2⟩)⟩, ⟨by (with_reducible skip); exact Kd.R_mono HO1369.out (fun _ hk => trivial)⟩, ⟨by (with_reducible skip); exact BK1347.out⟩, ⟨by (with_reducible skip); exact BK1370.out⟩, ⟨by repeat ((with_reducible exact HB.out))⟩⟩
       case rest =>
        clear HC23
        obtain ⟨kq, HA, HJ22, HO_12, HO_13, HO_1371001, HO_1371002, BK1347, BK1370, HB⟩ := hcut
        cases kq with
        | zero => exact absurd HA.out (by simp [laws_FnExactSafeFor.j3])
        | succ kj22 =>
         have H := HA.out
         clear HA
         simp only [laws_FnExactSafeFor.j3] at H
         replace H := Option.bind_eq_some_iff.mp H
         obtain ⟨⟨t1378, t1379, t1382⟩, A470, H⟩ := H
         try dsimp only at H
         have A47 := Aside0.mk A470
         clear A470
         replace H := Option.bind_eq_some_iff.mp H
         obtain ⟨t1385, A480, H⟩ := H
         have A48 := Aside0.mk A480
         clear A480
         have HC49 := Aside0.mk H
         clear H
         try go_wp2
         replace HO_12 := Aside0.mk (Kd.R_drew HO_12.out)
         replace HO_13 := Aside0.mk (Kd.R_drew HO_13.out)
         replace HO_1371001 := Aside0.mk (Kd.R_drew HO_1371001.out)
         replace HO_1371002 := Aside0.mk (Kd.R_drew HO_1371002.out)
         replace BK1347 := Aside0.mk (blk_drew BK1347.out)
         replace BK1370 := Aside0.mk (blk_drew BK1370.out)
         replace HB := Aside0.mk (below_drew1 HB.out)
         refine start_ (n := 5) (S := fun w' => w'.cell? ⟨gb1370, 0, none⟩ = some (.int .i64 t1363) ∧ w'.cell? ⟨gb1370, 1, none⟩ = some (.slice Ao38 t1364.length co38) ∧ w'.cell? ⟨gb1370, 2, none⟩ = some (.slice Ao39 t1367.length co39) ∧ w'.cell? ⟨gb1347, 0, none⟩ = some (.int .i64 a0_0) ∧ w'.cell? ⟨gb1347, 1, none⟩ = some (.slice A0_1 l0_1.length c0_1) ∧ w'.cell? ⟨gb1347, 2, none⟩ = some (.slice A0_2 l0_2.length c0_2)) (ds := []) #[false, false, false, false, false] (by kernel_rfl) rfl rfl ⟨(blk_cell BK1370.out 0).trans rfl, (blk_cell BK1370.out 1).trans rfl, (blk_cell BK1370.out 2).trans rfl, (blk_cell BK1347.out 0).trans rfl, (blk_cell BK1347.out 1).trans rfl, (blk_cell BK1347.out 2).trans rfl⟩ (fun hHeld => ?_)
         generalize wc.drew = w50 at HO_12 HO_13 HO_1371001 HO_1371002 BK1347 BK1370 HB hHeld ⊢
         refine take_ (i := 0) (N := some 48) (v := ?_) (a' := ?_) #[true, false, false, false, false] rfl rfl (by kernel_rfl) (fun _ _ _ h => h) (Or.inl ⟨by rfl, ?_⟩) hHeld ?_ ?_
         rotate_left
         ·rintro w' ⟨s0, s1, s2, s3, s4, s5⟩
          go_simp
          with_reducible rfl
         rotate_left
         ·simp only [Act.put, List.setIfInBounds_toArray, List.set_cons_zero, List.set_cons_succ, i64_w, i32_w]
          rfl
         refine take_ (i := 1) (N := some 49) (v := ?_) (a' := ?_) #[true, true, false, false, false] rfl rfl (by kernel_rfl) (fun _ _ _ h => h) (Or.inl ⟨by rfl, ?_⟩) hHeld ?_ ?_
         rotate_left
         ·rintro w' ⟨s0, s1, s2, s3, s4, s5⟩
          go_simp
          with_reducible rfl
         rotate_left
         ·simp only [Act.put, List.setIfInBounds_toArray, List.set_cons_zero, List.set_cons_succ, i64_w, i32_w]
          rfl
         refine one_ (i := 2) (N := some 50) (Z.mb 5 7) rfl rfl (by kernel_rfl) (by decide) (fun K hK => ?_)
         refine goes_ Try.func20 (by kernel_rfl) rfl #[.agg #[.int .i64 a0_0, .slice A0_1 l0_1.length c0_1, .slice A0_2 l0_2.length c0_2]] (by rfl) rfl rfl Z.ar ?_
         with_reducible refine (laws_toCharter.calls kj22 a0_0 _ _ l0_1 _ _ l0_2 t1378 t1379 t1382 _ ?q1 ?q2 ?q3 ?q4 A47.out).mono ?_
         (case q1 => exact Z.cc HR0_1 HB)
         (case q2 => exact HC0_1.out)
         (case q3 => exact Z.cc HR0_2 HB)
         (case q4 => exact HC0_2.out)
         rintro e w51 ⟨v1380, v1383, rfl, ho0, ho1, hb⟩
         refine ⟨_, rfl, ?_⟩
         have HO1381 := Aside0.mk (Kd.R_lower (Kd.R_new' (Kd.R_new' (Kd.R_new' ho0 (Kd.R_lt (by (with_reducible skip); exact HO_12.out))) (Kd.R_lt (by (with_reducible skip); exact HO_13.out))) (Kd.R_lt (by (with_reducible skip); exact HO_1371001.out))) (below_size (by repeat ((with_reducible exact HB.out)))))
         replace HO_12 := Aside0.mk (Kd.R_elder' (by (with_reducible skip); exact HO_12.out) (Kd.R_base ho0) hb)
         replace HO_13 := Aside0.mk (Kd.R_elder' (by (with_reducible skip); exact HO_13.out) (Kd.R_base ho0) hb)
         replace HO_1371001 := Aside0.mk (Kd.R_elder' (by (with_reducible skip); exact HO_1371001.out) (Kd.R_base ho0) hb)
         have HO1384 := Aside0.mk (Kd.R_lower (Kd.R_new' ho1 (Kd.R_lt (by (with_reducible skip); exact HO_1371002.out))) (below_size (by repeat ((with_reducible exact HB.out)))))
         replace HO_1371002 := Aside0.mk (Kd.R_elder' (by (with_reducible skip); exact HO_1371002.out) (Kd.R_base ho1) hb)
         replace BK1347 := Z.bb BK1347 hb
         replace BK1370 := Z.bb BK1370 hb
         replace HB := Aside0.mk (below_step (by repeat ((with_reducible exact HB.out))) hb)
         (try clear hb)
         (try clear ho0)
         (try clear ho1)
         obtain ⟨Ao52, co52, eo52⟩ := Kd.R_slice HO1381.out
         (subst eo52)
         obtain ⟨Ao53, co53, eo53⟩ := Kd.R_slice HO1384.out
         (subst eo53)
         refine hK.out _ _ ⟨(blk_cell BK1370.out 0).trans rfl, (blk_cell BK1370.out 1).trans rfl, (blk_cell BK1370.out 2).trans rfl, (blk_cell BK1347.out 0).trans rfl, (blk_cell BK1347.out 1).trans rfl, (blk_cell BK1347.out 2).trans rfl⟩ (fun hHeld => ?_)
         clear hK K
         refine Z.nm ?_
         refine one_ (i := 3) (N := some 51) (Z.mb 5 15) rfl rfl (by kernel_rfl) (by decide) (fun K hK => ?_)
         refine goes_ Try.func24 (by kernel_rfl) rfl #[.agg #[.int .i64 t1363, .slice Ao38 t1364.length co38, .slice Ao39 t1367.length co39], .agg #[.int .i64 t1378, .slice Ao52 t1379.length co52, .slice Ao53 t1382.length co53]] (by rfl) rfl rfl Z.ar ?_
         with_reducible refine (laws_eqCharter.calls kj22 t1363 _ _ t1364 _ _ t1367 t1378 _ _ t1379 _ _ t1382 t1385 _ ?q1 ?q2 ?q3 ?q4 ?q5 ?q6 ?q7 ?q8 A48.out).mono ?_
         (case q1 => repeat (exact (Kd.R_reads' HO_1371001.out).2.2))
         (case q2 => exact (Kd.R_reads' HO_1371001.out).2.1)
         (case q3 => repeat (exact (Kd.R_reads' HO_1371002.out).2.2))
         (case q4 => exact (Kd.R_reads' HO_1371002.out).2.1)
         (case q5 => repeat (exact (Kd.R_reads' HO1381.out).2.2))
         (case q6 => exact (Kd.R_reads' HO1381.out).2.1)
         (case q7 => repeat (exact (Kd.R_reads' HO1384.out).2.2))
         (case q8 => exact (Kd.R_reads' HO1384.out).2.1)
         rintro e w54 ⟨rfl, hb⟩
         refine ⟨_, rfl, ?_⟩
         replace HO_12 := Aside0.mk (Kd.R_below (by (with_reducible skip); exact HO_12.out) hb)
         replace HO_13 := Aside0.mk (Kd.R_below (by (with_reducible skip); exact HO_13.out) hb)
         replace HO_1371001 := Aside0.mk (Kd.R_below (by (with_reducible skip); exact HO_1371001.out) hb)
         replace HO_1371002 := Aside0.mk (Kd.R_below (by (with_reducible skip); exact HO_1371002.out) hb)
         replace HO1381 := Aside0.mk (Kd.R_below (by (with_reducible skip); exact HO1381.out) hb)
         replace HO1384 := Aside0.mk (Kd.R_below (by (with_reducible skip); exact HO1384.out) hb)
         replace BK1347 := Z.bb BK1347 hb
         replace BK1370 := Z.bb BK1370 hb
         replace HB := Aside0.mk (below_step (by repeat ((with_reducible exact HB.out))) hb)
         (try clear hb)
         refine hK.out _ _ ⟨(blk_cell BK1370.out 0).trans rfl, (blk_cell BK1370.out 1).trans rfl, (blk_cell BK1370.out 2).trans rfl, (blk_cell BK1347.out 0).trans rfl, (blk_cell BK1347.out 1).trans rfl, (blk_cell BK1347.out 2).trans rfl⟩ (fun hHeld => ?_)
         clear hK K
         refine Z.nm ?_
         refine pure_ (i := 4) (N := some 52) (v := ?_) (a' := ?_) #[true, true, true, true, true] rfl rfl (by kernel_rfl) (fun _ _ _ h => h) (Or.inl ⟨by rfl, ?_⟩) ?_ ?_
         rotate_left
         ·intro w'
          go_simp
          with_reducible rfl
         rotate_left
         ·simp only [Act.put, List.setIfInBounds_toArray, List.set_cons_zero, List.set_cons_succ, i64_w, i32_w]
          rfl
         refine done_ (by kernel_rfl) ?_
         go_upto_if 52 with (fail)
         go_cut [] (fun wc => ∃ (kq : Nat), Aside0 (laws_FnExactSafeFor.j4 kq l1 l2 t1371 t1374 = some r) ∧ Aside0 (kq ≤ kj22) ∧ Aside0 (Kd.R (Kd.int .i64) 3 wc w.heap.size (fun k_ => some k_ ≠ ((.slice Ao44 t1374.length co44) : Value).ownBlock ∧ some k_ ≠ ((.slice Ao38 t1364.length co38) : Value).ownBlock) (.slice Ao43 t1371.length co43) t1371) ∧ Aside0 (Kd.R (Kd.int .i64) 3 wc w.heap.size (fun k_ => some k_ ≠ ((.slice Ao43 t1371.length co43) : Value).ownBlock ∧ some k_ ≠ ((.slice Ao38 t1364.length co38) : Value).ownBlock) (.slice Ao44 t1374.length co44) t1374) ∧ Aside0 (Kd.R (Kd.int .i64) 3 wc w.heap.size (fun k_ => some k_ ≠ ((.slice Ao43 t1371.length co43) : Value).ownBlock ∧ some k_ ≠ ((.slice Ao44 t1374.length co44) : Value).ownBlock) (.slice Ao38 t1364.length co38) t1364) ∧ Aside0 (Kd.R (Kd.slice 86 k86) 83 wc w.heap.size (fun _ => True) (.slice Ao39 t1367.length co39) t1367) ∧ Aside0 (wc.heap[gb1347]? = some (.cells #[.int .i64 a0_0, (.slice A0_1 l0_1.length c0_1), (.slice A0_2 l0_2.length c0_2)] 27 (0, 0))) ∧ Aside0 (wc.heap[gb1370]? = some (.cells #[.int .i64 t1363, (.slice Ao38 t1364.length co38), (.slice Ao39 t1367.length co39)] 35 (0, 0))) ∧ Aside0 (Below w.heap.size w wc))
         case first =>
          have H := HC49.out
          clear HC49
          by_cases c55 : t1385 = true
          ·subst c55
           rw [if_pos rfl] at H
           have H' := Aside0.mk H
           clear H
           go_wp2
           go_meet
           case rel => exact ⟨_, H', ⟨by have := HJ4.out; have := HJ7.out; have := HJ10.out; have := HJ22.out; omega⟩, ⟨by (with_reducible skip); exact Kd.R_mono HO_12.out (fun _ hk => ⟨hk.1.1, hk.1.2⟩)⟩, ⟨by (with_reducible skip); exact Kd.R_mono HO_13.out (fun _ hk => ⟨hk.1.1, hk.1.2⟩)⟩, ⟨by (with_reducible skip); exact Kd.R_mono HO_1371001.out (fun _ hk => ⟨hk.1.1, hk.1.2⟩)⟩, ⟨by (with_reducible skip); exact Kd.R_mono HO_1371002.out (fun _ hk => trivial)⟩, ⟨by (with_reducible skip); exact BK1347.out⟩, ⟨by (with_reducible skip); exact BK1370.out⟩, ⟨by repeat ((with_reducible exact HB.out))⟩⟩
          ·replace c55 := Bool.eq_false_iff.mpr c55
           subst c55
           rw [if_neg (show ¬ (false = true) by decide)] at H
           obtain rfl := Option.some.inj H
           go_wp2
           go_ret
           exact ⟨by rfl, by repeat ((with_reducible exact HB.out))⟩
         case rest =>
          clear HC49
          obtain ⟨kq, HA, HJ48, HO_12, HO_13, HO_1371001, HO_1371002, BK1347, BK1370, HB⟩ := hcut
          cases kq with
          | zero => exact absurd HA.out (by simp [laws_FnExactSafeFor.j4])
          | succ kj48 =>
           have H := HA.out
           clear HA
           simp only [laws_FnExactSafeFor.j4] at H
           replace H := Option.bind_eq_some_iff.mp H
           obtain ⟨t1386, A560, H⟩ := H
           have A56 := Aside0.mk A560
           clear A560
           replace H := Option.bind_eq_some_iff.mp H
           obtain ⟨t1389, A570, H⟩ := H
           have A57 := Aside0.mk A570
           clear A570
           have HC58 := Aside0.mk H
           clear H
           go_upto_if 57 with (first | ((with_reducible refine gate_callee (f := 21) rfl ?_); refine goesL_ (some 55) rfl rfl Try.func21 (by kernel_rfl) rfl #[.slice A1 l1.length c1] rfl Z.ar ?_; (with_reducible refine (laws_toIntS.calls kj48 _ _ l1 t1386 _ ?q1 ?q2 A56.out).mono ?_); (case q1 => exact Z.cc HR1 HB); (case q2 => exact HC1.out); rintro e w59 ⟨v1387, rfl, ho0, hb⟩; refine ⟨_, rfl, ?_⟩; replace HO_1371002 := Aside0.mk (Kd.R_below (by (with_reducible skip); exact HO_1371002.out) hb); have HO1388 := Aside0.mk (Kd.R_lower (Kd.R_new' (Kd.R_new' (Kd.R_new' ho0 (Kd.R_lt (by (with_reducible skip); exact HO_12.out))) (Kd.R_lt (by (with_reducible skip); exact HO_13.out))) (Kd.R_lt (by (with_reducible skip); exact HO_1371001.out))) (below_size (by repeat ((with_reducible exact HB.out))))); replace HO_12 := Aside0.mk (Kd.R_elder' (by (with_reducible skip); exact HO_12.out) (Kd.R_base ho0) hb); replace HO_13 := Aside0.mk (Kd.R_elder' (by (with_reducible skip); exact HO_13.out) (Kd.R_base ho0) hb); replace HO_1371001 := Aside0.mk (Kd.R_elder' (by (with_reducible skip); exact HO_1371001.out) (Kd.R_base ho0) hb); replace BK1347 := Z.bb BK1347 hb; replace BK1370 := Z.bb BK1370 hb; replace HB := Aside0.mk (below_step (by repeat ((with_reducible exact HB.out))) hb); (try clear hb); (try clear ho0); obtain ⟨Ao60, co60, eo60⟩ := Kd.R_slice HO1388.out; subst eo60) | ((with_reducible refine gate_callee (f := 25) rfl ?_); refine goesL_ (some 56) rfl rfl Try.func25 (by kernel_rfl) rfl #[.slice Ao43 t1371.length co43, .slice Ao60 t1386.length co60] rfl Z.ar ?_; (with_reducible refine (laws_eqIntS.calls kj48 _ _ t1371 _ _ t1386 t1389 _ ?q1 ?q2 ?q3 ?q4 A57.out).mono ?_); (case q1 => repeat (exact (Kd.R_reads' HO_12.out).2.2)); (case q2 => exact (Kd.R_reads' HO_12.out).2.1); (case q3 => repeat (exact (Kd.R_reads' HO1388.out).2.2)); (case q4 => exact (Kd.R_reads' HO1388.out).2.1); rintro e w' ⟨rfl, ⟨nd, rfl⟩⟩; refine ⟨_, rfl, ?_⟩))
           go_cut [] (fun wc => ∃ (kq : Nat), Aside0 (laws_FnExactSafeFor.j5 kq l2 t1374 = some r) ∧ Aside0 (kq ≤ kj48) ∧ Aside0 (Kd.R (Kd.int .i64) 3 wc w.heap.size (fun k_ => some k_ ≠ ((.slice Ao38 t1364.length co38) : Value).ownBlock) (.slice Ao44 t1374.length co44) t1374) ∧ Aside0 (Kd.R (Kd.int .i64) 3 wc w.heap.size (fun k_ => some k_ ≠ ((.slice Ao44 t1374.length co44) : Value).ownBlock) (.slice Ao38 t1364.length co38) t1364) ∧ Aside0 (Kd.R (Kd.slice 86 k86) 83 wc w.heap.size (fun _ => True) (.slice Ao39 t1367.length co39) t1367) ∧ Aside0 (wc.heap[gb1347]? = some (.cells #[.int .i64 a0_0, (.slice A0_1 l0_1.length c0_1), (.slice A0_2 l0_2.length c0_2)] 27 (0, 0))) ∧ Aside0 (wc.heap[gb1370]? = some (.cells #[.int .i64 t1363, (.slice Ao38 t1364.length co38), (.slice Ao39 t1367.length co39)] 35 (0, 0))) ∧ Aside0 (Below w.heap.size w wc))
           case first =>
            have H := HC58.out
            clear HC58
            by_cases c61 : t1389 = true
            ·subst c61
             rw [if_pos rfl] at H
             have H' := Aside0.mk H
             clear H
             go_wp2
             go_meet
             case rel => exact ⟨_, H', ⟨by have := HJ4.out; have := HJ7.out; have := HJ10.out; have := HJ22.out; have := HJ48.out; omega⟩, ⟨by (with_reducible repeat (apply Kd.R_drewN)); exact Kd.R_mono HO_13.out (fun _ hk => hk.1.2)⟩, ⟨by (with_reducible repeat (apply Kd.R_drewN)); exact Kd.R_mono HO_1371001.out (fun _ hk => hk.1.2)⟩, ⟨by (with_reducible repeat (apply Kd.R_drewN)); exact HO_1371002.out⟩, ⟨by (with_reducible repeat (refine blk_drewN ?_ _)); exact BK1347.out⟩, ⟨by (with_reducible repeat (refine blk_drewN ?_ _)); exact BK1370.out⟩, ⟨by repeat ((with_reducible first | exact HB.out | apply pw_below_drewN))⟩⟩
            ·replace c61 := Bool.eq_false_iff.mpr c61
             subst c61
             rw [if_neg (show ¬ (false = true) by decide)] at H
             obtain rfl := Option.some.inj H
             go_wp2
             go_ret
             exact ⟨by rfl, by repeat ((with_reducible first | exact HB.out | apply pw_below_drewN))⟩
           case rest =>
            clear HC58
            obtain ⟨kq, HA, HJ57, HO_13, HO_1371001, HO_1371002, BK1347, BK1370, HB⟩ := hcut
            cases kq with
            | zero => exact absurd HA.out (by simp [laws_FnExactSafeFor.j5])
            | succ kj57 =>
             have H := HA.out
             clear HA
             simp only [laws_FnExactSafeFor.j5] at H
             replace H := Option.bind_eq_some_iff.mp H
             obtain ⟨t1390, A620, H⟩ := H
             have A62 := Aside0.mk A620
             clear A620
             replace H := Option.bind_eq_some_iff.mp H
             obtain ⟨t1393, A630, H⟩ := H
             have A63 := Aside0.mk A630
             clear A630
             by_cases c64 : t1393 = true
             ·subst c64
              rw [if_pos rfl] at H
              obtain rfl := Option.some.inj H
              go_wp2_with (first | ((with_reducible refine gate_callee (f := 21) rfl ?_); refine goesL_ (some 60) rfl rfl Try.func21 (by kernel_rfl) rfl #[.slice A2 l2.length c2] rfl Z.ar ?_; (with_reducible refine (laws_toIntS.calls kj57 _ _ l2 t1390 _ ?q1 ?q2 A62.out).mono ?_); (case q1 => exact Z.cc HR2 HB); (case q2 => exact HC2.out); rintro e w65 ⟨v1391, rfl, ho0, hb⟩; refine ⟨_, rfl, ?_⟩; replace HO_1371002 := Aside0.mk (Kd.R_below (by (with_reducible skip); exact HO_1371002.out) hb); have HO1392 := Aside0.mk (Kd.R_lower (Kd.R_new' (Kd.R_new' ho0 (Kd.R_lt (by (with_reducible skip); exact HO_13.out))) (Kd.R_lt (by (with_reducible skip); exact HO_1371001.out))) (below_size (by repeat ((with_reducible exact HB.out))))); replace HO_13 := Aside0.mk (Kd.R_elder' (by (with_reducible skip); exact HO_13.out) (Kd.R_base ho0) hb); replace HO_1371001 := Aside0.mk (Kd.R_elder' (by (with_reducible skip); exact HO_1371001.out) (Kd.R_base ho0) hb); replace BK1347 := Z.bb BK1347 hb; replace BK1370 := Z.bb BK1370 hb; replace HB := Aside0.mk (below_step (by repeat ((with_reducible exact HB.out))) hb); (try clear hb); (try clear ho0); obtain ⟨Ao66, co66, eo66⟩ := Kd.R_slice HO1392.out; subst eo66) | ((with_reducible refine gate_callee (f := 25) rfl ?_); refine goesL_ (some 61) rfl rfl Try.func25 (by kernel_rfl) rfl #[.slice Ao44 t1374.length co44, .slice Ao66 t1390.length co66] rfl Z.ar ?_; (with_reducible refine (laws_eqIntS.calls kj57 _ _ t1374 _ _ t1390 true _ ?q1 ?q2 ?q3 ?q4 A63.out).mono ?_); (case q1 => repeat (exact (Kd.R_reads' HO_13.out).2.2)); (case q2 => exact (Kd.R_reads' HO_13.out).2.1); (case q3 => repeat (exact (Kd.R_reads' HO1392.out).2.2)); (case q4 => exact (Kd.R_reads' HO1392.out).2.1); rintro e w' ⟨rfl, ⟨nd, rfl⟩⟩; refine ⟨_, rfl, ?_⟩))
              go_ret
              exact ⟨by rfl, by repeat ((with_reducible first | exact HB.out | apply pw_below_drewN))⟩
             ·replace c64 := Bool.eq_false_iff.mpr c64
              subst c64
              rw [if_neg (show ¬ (false = true) by decide)] at H
              obtain rfl := Option.some.inj H
              go_wp2_with (first | ((with_reducible refine gate_callee (f := 21) rfl ?_); refine goesL_ (some 60) rfl rfl Try.func21 (by kernel_rfl) rfl #[.slice A2 l2.length c2] rfl Z.ar ?_; (with_reducible refine (laws_toIntS.calls kj57 _ _ l2 t1390 _ ?q1 ?q2 A62.out).mono ?_); (case q1 => exact Z.cc HR2 HB); (case q2 => exact HC2.out); rintro e w67 ⟨v1391, rfl, ho0, hb⟩; refine ⟨_, rfl, ?_⟩; replace HO_1371002 := Aside0.mk (Kd.R_below (by (with_reducible skip); exact HO_1371002.out) hb); have HO1392 := Aside0.mk (Kd.R_lower (Kd.R_new' (Kd.R_new' ho0 (Kd.R_lt (by (with_reducible skip); exact HO_13.out))) (Kd.R_lt (by (with_reducible skip); exact HO_1371001.out))) (below_size (by repeat ((with_reducible exact HB.out))))); replace HO_13 := Aside0.mk (Kd.R_elder' (by (with_reducible skip); exact HO_13.out) (Kd.R_base ho0) hb); replace HO_1371001 := Aside0.mk (Kd.R_elder' (by (with_reducible skip); exact HO_1371001.out) (Kd.R_base ho0) hb); replace BK1347 := Z.bb BK1347 hb; replace BK1370 := Z.bb BK1370 hb; replace HB := Aside0.mk (below_step (by repeat ((with_reducible exact HB.out))) hb); (try clear hb); (try clear ho0); obtain ⟨Ao68, co68, eo68⟩ := Kd.R_slice HO1392.out; subst eo68) | ((with_reducible refine gate_callee (f := 25) rfl ?_); refine goesL_ (some 61) rfl rfl Try.func25 (by kernel_rfl) rfl #[.slice Ao44 t1374.length co44, .slice Ao68 t1390.length co68] rfl Z.ar ?_; (with_reducible refine (laws_eqIntS.calls kj57 _ _ t1374 _ _ t1390 false _ ?q1 ?q2 ?q3 ?q4 A63.out).mono ?_); (case q1 => repeat (exact (Kd.R_reads' HO_13.out).2.2)); (case q2 => exact (Kd.R_reads' HO_13.out).2.1); (case q3 => repeat (exact (Kd.R_reads' HO1392.out).2.2)); (case q4 => exact (Kd.R_reads' HO1392.out).2.1); rintro e w' ⟨rfl, ⟨nd, rfl⟩⟩; refine ⟨_, rfl, ?_⟩))
              go_ret
              exact ⟨by rfl, by repeat ((with_reducible first | exact HB.out | apply pw_below_drewN))⟩

end Go.Proofs.Ytcafckapdgaogaa.PAll

/- Walks of functions that some laws of this seat reach, in the form of the print. -/
import Derived.Test.YtcafckapdgaogaaCAll0
import Derived.Test.YtcafckapdgaogaaCAll1
import Derived.Test.YtcafckapdgaogaaCAll2
import Derived.Test.YtcafckapdgaogaaCAll10
import Derived.Test.YtcafckapdgaogaaCAll17
import Derived.Test.YtcafckapdgaogaaCAll19
import Derived.Test.YtcafckapdgaogaaCAll23
import Derived.Test.YtcafckapdgaogaaCAll33
import Derived.Test.YtcafckapdgaogaaCAll48
import Derived.Test.YtcafckapdgaogaaCAll66
import Derived.Test.YtcafckapdgaogaaZ
import Derived.Test.YtcafckapdgaogaaV2
-- PRINTED
namespace Go.Proofs.Ytcafckapdgaogaa.PAll
open Go.RowKit Go.Proofs.YtcafckapdgaogaaW.PrintWords Go.Proofs.YtcafckapdgaogaaW.PrintLast Go.Proofs.YtcafckapdgaogaaW.PrintMore
attribute [local go_sem] max2_int min2_int max_two min_two max_three min_three max_four min_four
set_option linter.unusedVariables false
set_option linter.unusedSimpArgs false


/-! ### laws_FnExactReachOf: function 10 -/
mutual
def laws_FnExactReachOf.j0 : Nat → List Int → Int → Int → List Int → List (List (S128)) → Option (Bool)
 | 0, _, _, _, _, _ => none
 | k + 1, x1, x2, x1232000, x1232001, x1232002 => (laws_szCharter.f k x1232000 x1232001 x1232002 1048576).bind fun t1232 => (if t1232 < 0 then (some true) else (laws_FnExactReachOf.j1 k x1 x2 x1232000 x1232001 x1232002))
def laws_FnExactReachOf.j1 : Nat → List Int → Int → Int → List Int → List (List (S128)) → Option (Bool)
 | 0, _, _, _, _, _ => none
 | k + 1, x1, x2, x1232000, x1232001, x1232002 => (laws_toCharter.f k x1232000 x1232001 x1232002).bind fun bt1233 => ((laws_toIntS.f k x1).bind fun t1240 => ((spec_ReachOf.f k bt1233.1 bt1233.2.1 bt1233.2.2 t1240 x2).bind fun t1243 => ((laws_toCharter.f k x1232000 x1232001 x1232002).bind fun bt1246 => ((laws_toIntS.f k x1).bind fun t1254 => ((impl_ReachOf.f k bt1246.1 bt1246.2.1 bt1246.2.2 t1254 x2).bind fun t1257 => ((laws_eqIntS.f k t1257 t1243).bind fun t1260 => (if t1260 = true then (laws_FnExactReachOf.j2 k x1 x2 t1243 t1254 t1257 x1232000 x1232001 x1232002 bt1246.1 bt1246.2.1 bt1246.2.2) else (some false))))))))
def laws_FnExactReachOf.j2 : Nat → List Int → Int → List Int → List Int → List Int → Int → List Int → List (List (S128)) → Int → List Int → List (List (S86)) → Option (Bool)
 | 0, _, _, _, _, _, _, _, _, _, _, _ => none
 | k + 1, x1, x2, x8, x10, x11, x1232000, x1232001, x1232002, x1254000, x1254001, x1254002 => (laws_toCharter.f k x1232000 x1232001 x1232002).bind fun bt1261 => ((laws_eqCharter.f k x1254000 x1254001 x1254002 bt1261.1 bt1261.2.1 bt1261.2.2).bind fun t1268 => (if t1268 = true then (laws_FnExactReachOf.j3 k x1 x2 x8 x10 x11 x1232000 x1232001 x1232002 x1254000 x1254001 x1254002) else (some false)))
def laws_FnExactReachOf.j3 : Nat → List Int → Int → List Int → List Int → List Int → Int → List Int → List (List (S128)) → Int → List Int → List (List (S86)) → Option (Bool)
 | 0, _, _, _, _, _, _, _, _, _, _, _ => none
 | k + 1, x1, x2, x8, x10, x11, x1232000, x1232001, x1232002, x1254000, x1254001, x1254002 => (laws_toIntS.f k x1).bind fun t1269 => ((laws_eqIntS.f k x10 t1269).bind fun t1272 => (if t1272 = true then (laws_FnExactReachOf.j4 k x1 x2 x8 x10 x11 x1232000 x1232001 x1232002 x1254000 x1254001 x1254002) else (some false)))
def laws_FnExactReachOf.j4 : Nat → List Int → Int → List Int → List Int → List Int → Int → List Int → List (List (S128)) → Int → List Int → List (List (S86)) → Option (Bool)
 | 0, _, _, _, _, _, _, _, _, _, _, _ => none
 | k + 1, x1, x2, x8, x10, x11, x1232000, x1232001, x1232002, x1254000, x1254001, x1254002 => (laws_markCharter.f x1254000 x1254001 x1254002 1).bind fun t1273 => ((laws_markIntS.f k x10 t1273).bind fun bt1274 => (if bt1274.1 < 0 then (laws_FnExactReachOf.j5 k x1 x2 x8 x11 true x1232000 x1232001 x1232002) else ((laws_eqIntS.f k x11 x8).bind fun t1276 => (laws_FnExactReachOf.j5 k x1 x2 x8 x11 (!t1276) x1232000 x1232001 x1232002))))
def laws_FnExactReachOf.j5 : Nat → List Int → Int → List Int → List Int → Bool → Int → List Int → List (List (S128)) → Option (Bool)
 | 0, _, _, _, _, _, _, _, _ => none
 | k + 1, x1, x2, x8, x11, x65, x1232000, x1232001, x1232002 => if x65 = true then (some false) else (laws_FnExactReachOf.j6 k x1 x2 x8 x11 x1232000 x1232001 x1232002)
def laws_FnExactReachOf.j6 : Nat → List Int → Int → List Int → List Int → Int → List Int → List (List (S128)) → Option (Bool)
 | 0, _, _, _, _, _, _, _ => none
 | k + 1, x1, x2, x8, x11, x1232000, x1232001, x1232002 => (laws_markIntS.f k x11 1).bind fun bt1277 => ((laws_heldIntS.f k bt1277.2 1).bind fun t1279 => (if t1279 < 0 then (some false) else (laws_FnExactReachOf.j7 k x1 x2 x8 bt1277.2 bt1277.1 t1279 x1232000 x1232001 x1232002)))
def laws_FnExactReachOf.j7 : Nat → List Int → Int → List Int → List Int → Int → Int → Int → List Int → List (List (S128)) → Option (Bool)
 | 0, _, _, _, _, _, _, _, _, _ => none
 | k + 1, x1, x2, x8, x11, x13, x14, x1232000, x1232001, x1232002 => if x14 = x13 then (laws_FnExactReachOf.j8 k x1 x2 x8 x11 x13 x1232000 x1232001 x1232002) else (some false)
def laws_FnExactReachOf.j8 : Nat → List Int → Int → List Int → List Int → Int → Int → List Int → List (List (S128)) → Option (Bool)
 | 0, _, _, _, _, _, _, _, _ => none
 | k + 1, x1, x2, x8, x11, x13, x1232000, x1232001, x1232002 => (laws_toCharter.f k x1232000 x1232001 x1232002).bind fun bt1280 => ((laws_toIntS.f k x1).bind fun t1287 => ((impl_ReachOf.f k bt1280.1 bt1280.2.1 bt1280.2.2 t1287 x2).bind fun t1290 => ((laws_eqIntS.f k t1290 x8).bind fun t1293 => (if t1293 = true then (laws_FnExactReachOf.j9 k x11 x13) else (some false)))))
def laws_FnExactReachOf.j9 : Nat → List Int → Int → Option (Bool)
 | 0, _, _ => none
 | k + 1, x11, x13 => (laws_heldIntS.f k x11 1).bind fun t1294 => (if t1294 < 0 then (some false) else (if t1294 = x13 then (some true) else (some false)))
end
def laws_FnExactReachOf.f (k : Nat) (a0_0 : Int) (l0_1 : List Int) (l0_2 : List (List (S128))) (l1 : List Int) (a2 : Int) : Option (Bool) := if (l1.length : Int) > 1048576 then (some true) else (laws_FnExactReachOf.j0 k l1 a2 a0_0 l0_1 l0_2)
set_option maxHeartbeats 8000000 in
set_option maxRecDepth 100000 in
theorem laws_FnExactReachOf.calls (k : Nat) (a0_0 : Int) (A0_1 : Option Addr) (c0_1 : Nat) (l0_1 : List Int) (A0_2 : Option Addr) (c0_2 : Nat) (l0_2 : List (List (S128))) (A1 : Option Addr) (c1 : Nat) (l1 : List Int) (a2 : Int) (r : Bool) (w : World) (hr0_1 : Kd.C (Kd.int .i64) w A0_1 l0_1.length l0_1) (hc0_1 : l0_1.length ≤ c0_1) (hr0_2 : Kd.C (Kd.slice 128 k128) w A0_2 l0_2.length l0_2) (hc0_2 : l0_2.length ≤ c0_2) (hr1 : Kd.C (Kd.int .i64) w A1 l1.length l1) (hc1 : l1.length ≤ c1) (h : laws_FnExactReachOf.f k a0_0 l0_1 l0_2 l1 a2 = some r) :
  Calls Try.prog 10 #[.agg #[.int .i64 a0_0, .slice A0_1 l0_1.length c0_1, .slice A0_2 l0_2.length c0_2], .slice A1 l1.length c1, .int .i64 a2] w fun e w' => e = .returned (.bool r) ∧ Below w.heap.size w w' := by
 have hu27 := Try.underlying27
 have hu35 := Try.underlying35
 have HR0_1 := Aside0.mk hr0_1
 have HC0_1 := Aside0.mk hc0_1
 clear hr0_1 hc0_1
 have HR0_2 := Aside0.mk hr0_2
 have HC0_2 := Aside0.mk hc0_2
 clear hr0_2 hc0_2
 have HR1 := Aside0.mk hr1
 have HC1 := Aside0.mk hc1
 clear hr1 hc1
 have HB := Aside0.mk (Below.refl w.heap.size w)
 have H := h
 clear h
 unfold laws_FnExactReachOf.f at H
 have HC4 := Aside0.mk H
 clear H
 go_enter Try.func10, Try.ntmps10
 go_upto_if 18 with (((with_reducible refine gate_dst (N := 3) rfl ?_); refine Z.bx #[.int .i64 a0_0, .slice A0_1 l0_1.length c0_1, .slice A0_2 l0_2.length c0_2] 27 HB ?_; clear HB; intro gb1231 w5 BK1231 GE1231 HB hg hb; have GW1231 := GE1231; clear hb hg))
 go_cut [] (fun wc => ∃ (kq : Nat), Aside0 (laws_FnExactReachOf.j0 kq l1 a2 a0_0 l0_1 l0_2 = some r) ∧ Aside0 (kq ≤ k) ∧ Aside0 (wc.heap[gb1231]? = some (.cells #[.int .i64 a0_0, (.slice A0_1 l0_1.length c0_1), (.slice A0_2 l0_2.length c0_2)] 27 (0, 0))) ∧ Aside0 (Below w.heap.size w wc))
 case first =>
  have H := HC4.out
  clear HC4
  by_cases c6 : (l1.length : Int) > 1048576
  ·rw [if_pos c6] at H
   have c6b0 : decide (1048576 < (l1.length : Int)) = true := decide_eq_true c6
   have c6b1 : decide (1048576 < l1.length) = true := decide_eq_true (by omega)
   clear c6
   (rw [c6b0])
   obtain rfl := Option.some.inj H
   go_wp2
   go_ret
   exact ⟨by rfl, Z.bs HB.out GE1231.out⟩
  ·rw [if_neg c6] at H
   have c6b0 : decide (1048576 < (l1.length : Int)) = false := decide_eq_false c6
   have c6b1 : decide (1048576 < l1.length) = false := decide_eq_false (by omega)
   clear c6
   (rw [c6b0])
   have H' := Aside0.mk H
   clear H
   go_wp2
   go_meet
   case rel => exact ⟨_, H', ⟨by omega⟩, ⟨by (with_reducible skip); exact BK1231.out⟩, ⟨Z.bs HB.out GE1231.out⟩⟩
 case rest =>
  clear HC4
  obtain ⟨kq, HA, HJ3, BK1231, HB⟩ := hcut
  cases kq with
  | zero => exact absurd HA.out (by simp [laws_FnExactReachOf.j0])
  | succ kj3 =>
   have H := HA.out
   clear HA
   simp only [laws_FnExactReachOf.j0] at H
   replace H := Option.bind_eq_some_iff.mp H
   obtain ⟨t1232, A70, H⟩ := H
   have A7 := Aside0.mk A70
   clear A70
   have HC8 := Aside0.mk H
   clear H
   have hcz9 := Z.c3 BK1231.out
   go_upto_if 23 with (((with_reducible refine gate_callee (f := 17) rfl ?_); refine goesL_ (some 21) rfl rfl Try.func17 (by kernel_rfl) rfl #[.agg #[.int .i64 a0_0, .slice A0_1 l0_1.length c0_1, .slice A0_2 l0_2.length c0_2], .int .i64 1048576] rfl Z.ar ?_; (with_reducible refine (laws_szCharter.calls kj3 a0_0 _ _ l0_1 _ _ l0_2 1048576 t1232 _ ?q1 ?q2 ?q3 ?q4 A7.out).mono ?_); (case q1 => exact Z.cc HR0_1 HB); (case q2 => exact HC0_1.out); (case q3 => exact Z.cc HR0_2 HB); (case q4 => exact HC0_2.out); rintro e w10 ⟨rfl, hb⟩; refine ⟨_, rfl, ?_⟩; replace BK1231 := Z.bb BK1231 hb; replace HB := Z.st (Z.bs HB.out GE1231.out) hb; (try clear hb)))
   go_cut [] (fun wc => ∃ (kq : Nat), Aside0 (laws_FnExactReachOf.j1 kq l1 a2 a0_0 l0_1 l0_2 = some r) ∧ Aside0 (kq ≤ kj3) ∧ Aside0 (wc.heap[gb1231]? = some (.cells #[.int .i64 a0_0, (.slice A0_1 l0_1.length c0_1), (.slice A0_2 l0_2.length c0_2)] 27 (0, 0))) ∧ Aside0 (Below w.heap.size w wc))
   case first =>
    have H := HC8.out
    clear HC8
    by_cases c11 : t1232 < 0
    ·rw [if_pos c11] at H
     have c11b0 := decide_eq_true c11
     clear c11
     (rw [c11b0])
     obtain rfl := Option.some.inj H
     go_wp2
     go_ret
     exact ⟨by rfl, Z.bs HB.out GE1231.out⟩
    ·rw [if_neg c11] at H
     have c11b0 := decide_eq_false c11
     clear c11
     (rw [c11b0])
     have H' := Aside0.mk H
     clear H
     go_wp2
     go_meet
     case rel => exact ⟨_, H', ⟨by have := HJ3.out; omega⟩, ⟨by (with_reducible skip); exact BK1231.out⟩, ⟨Z.bs HB.out GE1231.out⟩⟩
   case rest =>
    clear HC8
    obtain ⟨kq, HA, HJ7, BK1231, HB⟩ := hcut
    cases kq with
    | zero => exact absurd HA.out (by simp [laws_FnExactReachOf.j1])
    | succ kj7 =>
     have H := HA.out
     clear HA
     simp only [laws_FnExactReachOf.j1] at H
     replace H := Option.bind_eq_some_iff.mp H
     obtain ⟨⟨t1233, t1234, t1237⟩, A120, H⟩ := H
     try dsimp only at H
     have A12 := Aside0.mk A120
     clear A120
     replace H := Option.bind_eq_some_iff.mp H
     obtain ⟨t1240, A130, H⟩ := H
     have A13 := Aside0.mk A130
     clear A130
     replace H := Option.bind_eq_some_iff.mp H
     obtain ⟨t1243, A140, H⟩ := H
     have A14 := Aside0.mk A140
     clear A140
     replace H := Option.bind_eq_some_iff.mp H
     obtain ⟨⟨t1246, t1247, t1250⟩, A150, H⟩ := H
     try dsimp only at H
     have A15 := Aside0.mk A150
     clear A150
     replace H := Option.bind_eq_some_iff.mp H
     obtain ⟨t1254, A160, H⟩ := H
     have A16 := Aside0.mk A160
     clear A160
     replace H := Option.bind_eq_some_iff.mp H
     obtain ⟨t1257, A170, H⟩ := H
     have A17 := Aside0.mk A170
     clear A170
     replace H := Option.bind_eq_some_iff.mp H
     obtain ⟨t1260, A180, H⟩ := H
     have A18 := Aside0.mk A180
     clear A180
     have HC19 := Aside0.mk H
     clear H
     have hcz20 := Z.c3 BK1231.out
     go_upto_if 41 with (first | ((with_reducible refine gate_callee (f := 20) rfl ?_); refine goesL_ (some 25) rfl rfl Try.func20 (by kernel_rfl) rfl #[.agg #[.int .i64 a0_0, .slice A0_1 l0_1.length c0_1, .slice A0_2 l0_2.length c0_2]] rfl Z.ar ?_; (with_reducible refine (laws_toCharter.calls kj7 a0_0 _ _ l0_1 _ _ l0_2 t1233 t1234 t1237 _ ?q1 ?q2 ?q3 ?q4 A12.out).mono ?_); (case q1 => exact Z.cc HR0_1 HB); (case q2 => exact HC0_1.out); (case q3 => exact Z.cc HR0_2 HB); (case q4 => exact HC0_2.out); rintro e w21 ⟨v1235, v1238, rfl, ho0, ho1, hb⟩; refine ⟨_, rfl, ?_⟩; have HO1236 := Aside0.mk (Kd.R_lower ho0 (below_size (Z.bs HB.out GE1231.out))); have HO1239 := Aside0.mk (Kd.R_lower ho1 (below_size (Z.bs HB.out GE1231.out))); replace BK1231 := Z.bb BK1231 hb; replace HB := Z.st (Z.bs HB.out GE1231.out) hb; (try clear hb); (try clear ho0); (try clear ho1)) | ((with_reducible refine gate_callee (f := 21) rfl ?_); refine goesL_ (some 27) rfl rfl Try.func21 (by kernel_rfl) rfl #[.slice A1 l1.length c1] rfl Z.ar ?_; (with_reducible refine (laws_toIntS.calls kj7 _ _ l1 t1240 _ ?q1 ?q2 A13.out).mono ?_); (case q1 => exact Z.cc HR1 HB); (case q2 => exact HC1.out); rintro e w22 ⟨v1241, rfl, ho0, hb⟩; refine ⟨_, rfl, ?_⟩; replace HO1239 := Aside0.mk (Kd.R_below (by (with_reducible skip); exact HO1239.out) hb); have HO1242 := Aside0.mk (Kd.R_lower (Kd.R_new' ho0 (Kd.R_lt (by (with_reducible skip); exact HO1236.out))) (below_size (Z.bs HB.out GE1231.out))); replace HO1236 := Aside0.mk (Kd.R_elder' (by (with_reducible skip); exact HO1236.out) (Kd.R_base ho0) hb); replace BK1231 := Z.bb BK1231 hb; replace HB := Z.st (Z.bs HB.out GE1231.out) hb; (try clear hb); (try clear ho0); obtain ⟨Ao23, co23, eo23⟩ := Kd.R_slice HO1236.out; subst eo23; obtain ⟨Ao24, co24, eo24⟩ := Kd.R_slice HO1239.out; subst eo24; obtain ⟨Ao25, co25, eo25⟩ := Kd.R_slice HO1242.out; subst eo25) | ((with_reducible refine gate_callee (f := 45) rfl ?_); refine goesL_ (some 29) rfl rfl Try.func45 (by kernel_rfl) rfl #[.agg #[.int .i64 t1233, .slice Ao23 t1234.length co23, .slice Ao24 t1237.length co24], .slice Ao25 t1240.length co25, .int .i64 a2] rfl Z.ar ?_; (with_reducible refine (spec_ReachOf.calls kj7 t1233 _ _ t1234 _ _ t1237 _ _ t1240 a2 t1243 _ ?q1 ?q2 ?q3 ?q4 ?q5 ?q6 A14.out).mono ?_); (case q1 => repeat (exact (Kd.R_reads' HO1236.out).2.2)); (case q2 => exact (Kd.R_reads' HO1236.out).2.1); (case q3 => repeat (exact (Kd.R_reads' HO1239.out).2.2)); (case q4 => exact (Kd.R_reads' HO1239.out).2.1); (case q5 => repeat (exact (Kd.R_reads' HO1242.out).2.2)); (case q6 => exact (Kd.R_reads' HO1242.out).2.1); rintro e w26 ⟨v1244, rfl, ho0, hb⟩; refine ⟨_, rfl, ?_⟩; replace HO1239 := Aside0.mk (Kd.R_below (by (with_reducible skip); exact HO1239.out) hb); have HO1245 := Aside0.mk (Kd.R_lower (Kd.R_new' (Kd.R_new' ho0 (Kd.R_lt (by (with_reducible skip); exact HO1236.out))) (Kd.R_lt (by (with_reducible skip); exact HO1242.out))) (below_size (Z.bs HB.out GE1231.out))); replace HO1236 := Aside0.mk (Kd.R_elder' (by (with_reducible skip); exact HO1236.out) (Kd.R_base ho0) hb); replace HO1242 := Aside0.mk (Kd.R_elder' (by (with_reducible skip); exact HO1242.out) (Kd.R_base ho0) hb); replace BK1231 := Z.bb BK1231 hb; replace HB := Z.st (Z.bs HB.out GE1231.out) hb; (try clear hb); (try clear ho0); have hcz27 := Z.c3 BK1231.out) | ((with_reducible refine gate_callee (f := 20) rfl ?_); refine goesL_ (some 31) rfl rfl Try.func20 (by kernel_rfl) rfl #[.agg #[.int .i64 a0_0, .slice A0_1 l0_1.length c0_1, .slice A0_2 l0_2.length c0_2]] rfl Z.ar ?_; (with_reducible refine (laws_toCharter.calls kj7 a0_0 _ _ l0_1 _ _ l0_2 t1246 t1247 t1250 _ ?q1 ?q2 ?q3 ?q4 A15.out).mono ?_); (case q1 => exact Z.cc HR0_1 HB); (case q2 => exact HC0_1.out); (case q3 => exact Z.cc HR0_2 HB); (case q4 => exact HC0_2.out); rintro e w28 ⟨v1248, v1251, rfl, ho0, ho1, hb⟩; refine ⟨_, rfl, ?_⟩; have HO1249 := Aside0.mk (Kd.R_lower (Kd.R_new' (Kd.R_new' (Kd.R_new' ho0 (Kd.R_lt (by (with_reducible skip); exact HO1236.out))) (Kd.R_lt (by (with_reducible skip); exact HO1242.out))) (Kd.R_lt (by (with_reducible skip); exact HO1245.out))) (below_size (Z.bs HB.out GE1231.out))); replace HO1236 := Aside0.mk (Kd.R_elder' (by (with_reducible skip); exact HO1236.out) (Kd.R_base ho0) hb); replace HO1242 := Aside0.mk (Kd.R_elder' (by (with_reducible skip); exact HO1242.out) (Kd.R_base ho0) hb); replace HO1245 := Aside0.mk (Kd.R_elder' (by (with_reducible skip); exact HO1245.out) (Kd.R_base ho0) hb); have HO1252 := Aside0.mk (Kd.R_lower (Kd.R_new' ho1 (Kd.R_lt (by (with_reducible skip); exact HO1239.out))) (below_size (Z.bs HB.out GE1231.out))); replace HO1239 := Aside0.mk (Kd.R_elder' (by (with_reducible skip); exact HO1239.out) (Kd.R_base ho1) hb); replace BK1231 := Z.bb BK1231 hb; replace HB := Z.st (Z.bs HB.out GE1231.out) hb; (try clear hb); (try clear ho0); (try clear ho1)) | ((with_reducible refine gate_dst (N := 9) rfl ?_); refine Z.bz #[.int .i64 0, .slice none 0 0, .slice none 0 0] 35 HB GE1231 ?_; clear HB; intro gb1253 w29 BK1253 GE1253 HB hg hb; have GW1253 := GE1253; replace HO1236 := Aside0.mk (Kd.R_below (by (with_reducible skip); exact HO1236.out) hb); replace HO1239 := Aside0.mk (Kd.R_below (by (with_reducible skip); exact HO1239.out) hb); replace HO1242 := Aside0.mk (Kd.R_below (by (with_reducible skip); exact HO1242.out) hb); replace HO1245 := Aside0.mk (Kd.R_below (by (with_reducible skip); exact HO1245.out) hb); replace HO1249 := Aside0.mk (Kd.R_below (by (with_reducible skip); exact HO1249.out) hb); replace HO1252 := Aside0.mk (Kd.R_below (by (with_reducible skip); exact HO1252.out) hb); have NB1231_1253 := Z.nl hg BK1231; have NB1253_1231 := Z.ng hg BK1231; replace BK1231 := Z.bb BK1231 hb; clear hb hg; have hnb30 := NB1253_1231.out; have hnc30 := NB1231_1253.out; have hcz31 := Z.c3 BK1253.out; obtain ⟨Ao32, co32, eo32⟩ := Kd.R_slice HO1249.out; subst eo32; obtain ⟨Ao33, co33, eo33⟩ := Kd.R_slice HO1252.out; subst eo33) | ((with_reducible refine gate_callee (f := 21) rfl ?_); refine goesL_ (some 33) rfl rfl Try.func21 (by kernel_rfl) rfl #[.slice A1 l1.length c1] rfl Z.ar ?_; (with_reducible refine (laws_toIntS.calls kj7 _ _ l1 t1254 _ ?q1 ?q2 A16.out).mono ?_); (case q1 => exact Kd.C_below HR1.out (by repeat ((with_reducible first | exact HB.out | refine below_set ?_ GE1253.out)))); (case q2 => exact HC1.out); rintro e w34 ⟨v1255, rfl, ho0, hb⟩; refine ⟨_, rfl, ?_⟩; replace HO1239 := Aside0.mk (Kd.R_below (by (with_reducible skip); exact (Kd.R_mono (Kd.R_far (p := ⟨gb1253, 2, none⟩) (Kd.R_far (p := ⟨gb1253, 1, none⟩) (Kd.R_far (p := ⟨gb1253, 0, none⟩) (Kd.R_types HO1239.out BK1253.out (by decide)) (fun _ hk => hk.2) (.int .i64 t1246)) (fun _ hk => hk.2) (.slice Ao32 t1247.length co32)) (fun _ hk => hk.2) (.slice Ao33 t1250.length co33)) (fun _ h_ => h_.1))) hb); replace HO1252 := Aside0.mk (Kd.R_below (by (with_reducible skip); exact (Kd.R_mono (Kd.R_far (p := ⟨gb1253, 2, none⟩) (Kd.R_far (p := ⟨gb1253, 1, none⟩) (Kd.R_far (p := ⟨gb1253, 0, none⟩) (Kd.R_types HO1252.out BK1253.out (by decide)) (fun _ hk => hk.2) (.int .i64 t1246)) (fun _ hk => hk.2) (.slice Ao32 t1247.length co32)) (fun _ hk => hk.2) (.slice Ao33 t1250.length co33)) (fun _ h_ => h_.1))) hb); have HO1256 := Aside0.mk (Kd.R_lower (Kd.R_new' (Kd.R_new' (Kd.R_new' (Kd.R_new' ho0 (Kd.R_lt (by (with_reducible skip); exact (Kd.R_mono (Kd.R_far (p := ⟨gb1253, 2, none⟩) (Kd.R_far (p := ⟨gb1253, 1, none⟩) (Kd.R_far (p := ⟨gb1253, 0, none⟩) (Kd.R_types HO1236.out BK1253.out (by decide)) (fun _ hk => hk.2) (.int .i64 t1246)) (fun _ hk => hk.2) (.slice Ao32 t1247.length co32)) (fun _ hk => hk.2) (.slice Ao33 t1250.length co33)) (fun _ h_ => h_.1))))) (Kd.R_lt (by (with_reducible skip); exact (Kd.R_mono (Kd.R_far (p := ⟨gb1253, 2, none⟩) (Kd.R_far (p := ⟨gb1253, 1, none⟩) (Kd.R_far (p := ⟨gb1253, 0, none⟩) (Kd.R_types HO1242.out BK1253.out (by decide)) (fun _ hk => hk.2) (.int .i64 t1246)) (fun _ hk => hk.2) (.slice Ao32 t1247.length co32)) (fun _ hk => hk.2) (.slice Ao33 t1250.length co33)) (fun _ h_ => h_.1))))) (Kd.R_lt (by (with_reducible skip); exact (Kd.R_mono (Kd.R_far (p := ⟨gb1253, 2, none⟩) (Kd.R_far (p := ⟨gb1253, 1, none⟩) (Kd.R_far (p := ⟨gb1253, 0, none⟩) (Kd.R_types HO1245.out BK1253.out (by decide)) (fun _ hk => hk.2) (.int .i64 t1246)) (fun _ hk => hk.2) (.slice Ao32 t1247.length co32)) (fun _ hk => hk.2) (.slice Ao33 t1250.length co33)) (fun _ h_ => h_.1))))) (Kd.R_lt (by (with_reducible skip); exact (Kd.R_mono (Kd.R_far (p := ⟨gb1253, 2, none⟩) (Kd.R_far (p := ⟨gb1253, 1, none⟩) (Kd.R_far (p := ⟨gb1253, 0, none⟩) (Kd.R_types HO1249.out BK1253.out (by decide)) (fun _ hk => hk.2) (.int .i64 t1246)) (fun _ hk => hk.2) (.slice Ao32 t1247.length co32)) (fun _ hk => hk.2) (.slice Ao33 t1250.length co33)) (fun _ h_ => h_.1))))) (below_size (by repeat ((with_reducible first | exact HB.out | refine below_set ?_ GE1253.out))))); replace HO1236 := Aside0.mk (Kd.R_elder' (by (with_reducible skip); exact (Kd.R_mono (Kd.R_far (p := ⟨gb1253, 2, none⟩) (Kd.R_far (p := ⟨gb1253, 1, none⟩) (Kd.R_far (p := ⟨gb1253, 0, none⟩) (Kd.R_types HO1236.out BK1253.out (by decide)) (fun _ hk => hk.2) (.int .i64 t1246)) (fun _ hk => hk.2) (.slice Ao32 t1247.length co32)) (fun _ hk => hk.2) (.slice Ao33 t1250.length co33)) (fun _ h_ => h_.1))) (Kd.R_base ho0) hb); replace HO1242 := Aside0.mk (Kd.R_elder' (by (with_reducible skip); exact (Kd.R_mono (Kd.R_far (p := ⟨gb1253, 2, none⟩) (Kd.R_far (p := ⟨gb1253, 1, none⟩) (Kd.R_far (p := ⟨gb1253, 0, none⟩) (Kd.R_types HO1242.out BK1253.out (by decide)) (fun _ hk => hk.2) (.int .i64 t1246)) (fun _ hk => hk.2) (.slice Ao32 t1247.length co32)) (fun _ hk => hk.2) (.slice Ao33 t1250.length co33)) (fun _ h_ => h_.1))) (Kd.R_base ho0) hb); replace HO1245 := Aside0.mk (Kd.R_elder' (by (with_reducible skip); exact (Kd.R_mono (Kd.R_far (p := ⟨gb1253, 2, none⟩) (Kd.R_far (p := ⟨gb1253, 1, none⟩) (Kd.R_far (p := ⟨gb1253, 0, none⟩) (Kd.R_types HO1245.out BK1253.out (by decide)) (fun _ hk => hk.2) (.int .i64 t1246)) (fun _ hk => hk.2) (.slice Ao32 t1247.length co32)) (fun _ hk => hk.2) (.slice Ao33 t1250.length co33)) (fun _ h_ => h_.1))) (Kd.R_base ho0) hb); replace HO1249 := Aside0.mk (Kd.R_elder' (by (with_reducible skip); exact (Kd.R_mono (Kd.R_far (p := ⟨gb1253, 2, none⟩) (Kd.R_far (p := ⟨gb1253, 1, none⟩) (Kd.R_far (p := ⟨gb1253, 0, none⟩) (Kd.R_types HO1249.out BK1253.out (by decide)) (fun _ hk => hk.2) (.int .i64 t1246)) (fun _ hk => hk.2) (.slice Ao32 t1247.length co32)) (fun _ hk => hk.2) (.slice Ao33 t1250.length co33)) (fun _ h_ => h_.1))) (Kd.R_base ho0) hb); replace BK1231 := Aside0.mk (blk_below (g := gb1231) (o := .cells #[.int .i64 a0_0, .slice A0_1 l0_1.length c0_1, .slice A0_2 l0_2.length c0_2] 27 (0, 0)) (by (with_reducible skip); refine blk_far ?_ NB1231_1253.out _; (with_reducible skip); refine blk_far ?_ NB1231_1253.out _; (with_reducible skip); refine blk_far ?_ NB1231_1253.out _; (with_reducible skip); exact BK1231.out) hb); replace BK1253 := Aside0.mk (blk_below (g := gb1253) (o := .cells #[.int .i64 t1246, .slice Ao32 t1247.length co32, .slice Ao33 t1250.length co33] 35 (0, 0)) (by (with_reducible skip); refine blk_put (cs := #[.int .i64 t1246, .slice Ao32 t1247.length co32, .slice none 0 0]) ?_ 2 _ rfl; (with_reducible skip); refine blk_put (cs := #[.int .i64 t1246, .slice none 0 0, .slice none 0 0]) ?_ 1 _ rfl; (with_reducible skip); refine blk_put (cs := #[.int .i64 0, .slice none 0 0, .slice none 0 0]) ?_ 0 _ rfl; (with_reducible skip); exact BK1253.out) hb); replace HB := Aside0.mk (below_step (by repeat ((with_reducible first | exact HB.out | refine below_set ?_ GE1253.out))) hb); (try clear hb); (try clear ho0); have hcz35 := Z.c3 BK1253.out; obtain ⟨Ao36, co36, eo36⟩ := Kd.R_slice HO1256.out; subst eo36) | ((with_reducible refine gate_callee (f := 46) rfl ?_); refine goesL_ (some 37) rfl rfl Try.func46 (by kernel_rfl) rfl #[.agg #[.int .i64 t1246, .slice Ao32 t1247.length co32, .slice Ao33 t1250.length co33], .slice Ao36 t1254.length co36, .int .i64 a2] rfl Z.ar ?_; (with_reducible refine (impl_ReachOf.calls kj7 t1246 _ _ t1247 _ _ t1250 _ _ t1254 a2 t1257 _ ?q1 ?q2 ?q3 ?q4 ?q5 ?q6 A17.out).mono ?_); (case q1 => repeat (exact (Kd.R_reads' HO1249.out).2.2)); (case q2 => exact (Kd.R_reads' HO1249.out).2.1); (case q3 => repeat (exact (Kd.R_reads' HO1252.out).2.2)); (case q4 => exact (Kd.R_reads' HO1252.out).2.1); (case q5 => repeat (exact (Kd.R_reads' HO1256.out).2.2)); (case q6 => exact (Kd.R_reads' HO1256.out).2.1); rintro e w37 ⟨v1258, rfl, ho0, hb⟩; refine ⟨_, rfl, ?_⟩; replace HO1239 := Aside0.mk (Kd.R_below (by (with_reducible skip); exact HO1239.out) hb); replace HO1252 := Aside0.mk (Kd.R_below (by (with_reducible skip); exact HO1252.out) hb); have HO1259 := Aside0.mk (Kd.R_lower (Kd.R_new' (Kd.R_new' (Kd.R_new' (Kd.R_new' (Kd.R_new' ho0 (Kd.R_lt (by (with_reducible skip); exact HO1236.out))) (Kd.R_lt (by (with_reducible skip); exact HO1242.out))) (Kd.R_lt (by (with_reducible skip); exact HO1245.out))) (Kd.R_lt (by (with_reducible skip); exact HO1249.out))) (Kd.R_lt (by (with_reducible skip); exact HO1256.out))) (below_size (by repeat ((with_reducible exact HB.out))))); replace HO1236 := Aside0.mk (Kd.R_elder' (by (with_reducible skip); exact HO1236.out) (Kd.R_base ho0) hb); replace HO1242 := Aside0.mk (Kd.R_elder' (by (with_reducible skip); exact HO1242.out) (Kd.R_base ho0) hb); replace HO1245 := Aside0.mk (Kd.R_elder' (by (with_reducible skip); exact HO1245.out) (Kd.R_base ho0) hb); replace HO1249 := Aside0.mk (Kd.R_elder' (by (with_reducible skip); exact HO1249.out) (Kd.R_base ho0) hb); replace HO1256 := Aside0.mk (Kd.R_elder' (by (with_reducible skip); exact HO1256.out) (Kd.R_base ho0) hb); replace BK1231 := Z.bb BK1231 hb; replace BK1253 := Z.bb BK1253 hb; replace HB := Aside0.mk (below_step (by repeat ((with_reducible exact HB.out))) hb); (try clear hb); (try clear ho0); obtain ⟨Ao38, co38, eo38⟩ := Kd.R_slice HO1259.out; subst eo38; obtain ⟨Ao39, co39, eo39⟩ := Kd.R_slice HO1245.out; subst eo39) | ((with_reducible refine gate_callee (f := 25) rfl ?_); refine goesL_ (some 40) rfl rfl Try.func25 (by kernel_rfl) rfl #[.slice Ao38 t1257.length co38, .slice Ao39 t1243.length co39] rfl Z.ar ?_; (with_reducible refine (laws_eqIntS.calls kj7 _ _ t1257 _ _ t1243 t1260 _ ?q1 ?q2 ?q3 ?q4 A18.out).mono ?_); (case q1 => repeat (exact (Kd.R_reads' HO1259.out).2.2)); (case q2 => exact (Kd.R_reads' HO1259.out).2.1); (case q3 => repeat (exact (Kd.R_reads' HO1245.out).2.2)); (case q4 => exact (Kd.R_reads' HO1245.out).2.1); rintro e w' ⟨rfl, ⟨nd, rfl⟩⟩; refine ⟨_, rfl, ?_⟩))
     go_cut [] (fun wc => ∃ (kq : Nat), Aside0 (laws_FnExactReachOf.j2 kq l1 a2 t1243 t1254 t1257 a0_0 l0_1 l0_2 t1246 t1247 t1250 = some r) ∧ Aside0 (kq ≤ kj7) ∧ Aside0 (Kd.R (Kd.int .i64) 3 wc w.heap.size (fun k_ => some k_ ≠ ((.slice Ao36 t1254.length co36) : Value).ownBlock ∧ some k_ ≠ ((.slice Ao38 t1257.length co38) : Value).ownBlock ∧ some k_ ≠ ((.slice Ao32 t1247.length co32) : Value).ownBlock) (.slice Ao39 t1243.length co39) t1243) ∧ Aside0 (Kd.R (Kd.int .i64) 3 wc w.heap.size (fun k_ => some k_ ≠ ((.slice Ao39 t1243.length co39) : Value).ownBlock ∧ some k_ ≠ ((.slice Ao38 t1257.length co38) : Value).ownBlock ∧ some k_ ≠ ((.slice Ao32 t1247.length co32) : Value).ownBlock) (.slice Ao36 t1254.length co36) t1254) ∧ Aside0 (Kd.R (Kd.int .i64) 3 wc w.heap.size (fun k_ => some k_ ≠ ((.slice Ao39 t1243.length co39) : Value).ownBlock ∧ some k_ ≠ ((.slice Ao36 t1254.length co36) : Value).ownBlock ∧ some k_ ≠ ((.slice Ao32 t1247.length co32) : Value).ownBlock) (.slice Ao38 t1257.length co38) t1257) ∧ Aside0 (Kd.R (Kd.int .i64) 3 wc w.heap.size (fun k_ => some k_ ≠ ((.slice Ao39 t1243.length co39) : Value).ownBlock ∧ some k_ ≠ ((.slice Ao36 t1254.length co36) : Value).ownBlock ∧ some k_ ≠ ((.slice Ao38 t1257.length co38) : Value).ownBlock) (.slice Ao32 t1247.length co32) t1247) ∧ Aside0 (Kd.R (Kd.slice 86 k86) 83 wc w.heap.size (fun _ => True) (.slice Ao33 t1250.length co33) t1250) ∧ Aside0 (wc.heap[gb1231]? = some (.cells #[.int .i64 a0_0, (.slice A0_1 l0_1.length c0_1), (.slice A0_2 l0_2.length c0_2)] 27 (0, 0))) ∧ Aside0 (wc.heap[gb1253]? = some (.cells #[.int .i64 t1246, (.slice Ao32 t1247.length co32), (.slice Ao33 t1250.length co33)] 35 (0, 0))) ∧ Aside0 (Below w.heap.size w wc))
     case first =>
      have H := HC19.out
      clear HC19
      by_cases c40 : t1260 = true
      ·subst c40
       rw [if_pos rfl] at H
       have H' := Aside0.mk H
       clear H
       go_wp2
       go_meet
       case rel => exact ⟨_, H', ⟨by have := HJ3.out; have := HJ7.out; omega⟩, ⟨by (with_reducible repeat (apply Kd.R_drewN)); exact Kd.R_mono HO1245.out (fun _ hk => ⟨hk.1.2, ⟨hk.2, hk.1.1.2⟩⟩)⟩, ⟨by (with_reducible repeat (apply Kd.R_drewN)); exact Kd.R_mono HO1256.out (fun _ hk => ⟨hk.1.1.2, ⟨hk.2, hk.1.2⟩⟩)⟩, ⟨by (with_reducible repeat (apply Kd.R_drewN)); exact Kd.R_mono HO1259.out (fun _ hk => ⟨hk.1.1.2, ⟨hk.2, hk.1.2⟩⟩)⟩, ⟨by (with_reducible repeat (apply Kd.R_drewN)); exact Kd.R_mono HO1249.out (fun _ hk => ⟨hk.1.1.2, ⟨hk.1.2, hk.2⟩⟩)⟩, ⟨by (with_reducible repeat (apply Kd.R_drewN)); exact Kd.R_mono HO1252.out (fun _ hk => trivial)⟩, ⟨by (with_reducible repeat (refine blk_drewN ?_ _)); exact BK1231.out⟩, ⟨by (with_reducible repeat (refine blk_drewN ?_ _)); exact BK1253.out⟩, ⟨by repeat ((with_reducible first | exact HB.out | apply pw_below_drewN))⟩⟩
      ·replace c40 := Bool.eq_false_iff.mpr c40
       subst c40
       rw [if_neg (show ¬ (false = true) by decide)] at H
       obtain rfl := Option.some.inj H
       go_wp2
       go_ret
       exact ⟨by rfl, by repeat ((with_reducible first | exact HB.out | apply pw_below_drewN))⟩
     case rest =>
      clear HC19
      obtain ⟨kq, HA, HJ18, HO_8, HO_10, HO_11, HO_1254001, HO_1254002, BK1231, BK1253, HB⟩ := hcut
      cases kq with
      | zero => exact absurd HA.out (by simp [laws_FnExactReachOf.j2])
      | succ kj18 =>
       have H := HA.out
       clear HA
       simp only [laws_FnExactReachOf.j2] at H
       replace H := Option.bind_eq_some_iff.mp H
       obtain ⟨⟨t1261, t1262, t1265⟩, A410, H⟩ := H
       try dsimp only at H
       have A41 := Aside0.mk A410
       clear A410
       replace H := Option.bind_eq_some_iff.mp H
       obtain ⟨t1268, A420, H⟩ := H
       have A42 := Aside0.mk A420
       clear A420
       have HC43 := Aside0.mk H
       clear H
       try go_wp2
       replace HO_8 := Aside0.mk (Kd.R_drew HO_8.out)
       replace HO_10 := Aside0.mk (Kd.R_drew HO_10.out)
       replace HO_11 := Aside0.mk (Kd.R_drew HO_11.out)
       replace HO_1254001 := Aside0.mk (Kd.R_drew HO_1254001.out)
       replace HO_1254002 := Aside0.mk (Kd.R_drew HO_1254002.out)
       replace BK1231 := Aside0.mk (blk_drew BK1231.out)
       replace BK1253 := Aside0.mk (blk_drew BK1253.out)
       replace HB := Aside0.mk (below_drew1 HB.out)
       refine start_ (n := 5) (S := fun w' => w'.cell? ⟨gb1253, 0, none⟩ = some (.int .i64 t1246) ∧ w'.cell? ⟨gb1253, 1, none⟩ = some (.slice Ao32 t1247.length co32) ∧ w'.cell? ⟨gb1253, 2, none⟩ = some (.slice Ao33 t1250.length co33) ∧ w'.cell? ⟨gb1231, 0, none⟩ = some (.int .i64 a0_0) ∧ w'.cell? ⟨gb1231, 1, none⟩ = some (.slice A0_1 l0_1.length c0_1) ∧ w'.cell? ⟨gb1231, 2, none⟩ = some (.slice A0_2 l0_2.length c0_2)) (ds := []) #[false, false, false, false, false] (by kernel_rfl) rfl rfl ⟨(blk_cell BK1253.out 0).trans rfl, (blk_cell BK1253.out 1).trans rfl, (blk_cell BK1253.out 2).trans rfl, (blk_cell BK1231.out 0).trans rfl, (blk_cell BK1231.out 1).trans rfl, (blk_cell BK1231.out 2).trans rfl⟩ (fun hHeld => ?_)
       generalize wc.drew = w44 at HO_8 HO_10 HO_11 HO_1254001 HO_1254002 BK1231 BK1253 HB hHeld ⊢
       refine take_ (i := 0) (N := some 42) (v := ?_) (a' := ?_) #[true, false, false, false, false] rfl rfl (by kernel_rfl) (fun _ _ _ h => h) (Or.inl ⟨by rfl, ?_⟩) hHeld ?_ ?_
       rotate_left
       ·rintro w' ⟨s0, s1, s2, s3, s4, s5⟩
        go_simp
        with_reducible rfl
       rotate_left
       ·simp only [Act.put, List.setIfInBounds_toArray, List.set_cons_zero, List.set_cons_succ, i64_w, i32_w]
        rfl
       refine take_ (i := 1) (N := some 43) (v := ?_) (a' := ?_) #[true, true, false, false, false] rfl rfl (by kernel_rfl) (fun _ _ _ h => h) (Or.inl ⟨by rfl, ?_⟩) hHeld ?_ ?_
       rotate_left
       ·rintro w' ⟨s0, s1, s2, s3, s4, s5⟩
        go_simp
        with_reducible rfl
       rotate_left
       ·simp only [Act.put, List.setIfInBounds_toArray, List.set_cons_zero, List.set_cons_succ, i64_w, i32_w]
        rfl
       refine one_ (i := 2) (N := some 44) (Z.mb 5 7) rfl rfl (by kernel_rfl) (by decide) (fun K hK => ?_)
       refine goes_ Try.func20 (by kernel_rfl) rfl #[.agg #[.int .i64 a0_0, .slice A0_1 l0_1.length c0_1, .slice A0_2 l0_2.length c0_2]] (by rfl) rfl rfl Z.ar ?_
       with_reducible refine (laws_toCharter.calls kj18 a0_0 _ _ l0_1 _ _ l0_2 t1261 t1262 t1265 _ ?q1 ?q2 ?q3 ?q4 A41.out).mono ?_
       (case q1 => exact Z.cc HR0_1 HB)
       (case q2 => exact HC0_1.out)
       (case q3 => exact Z.cc HR0_2 HB)
       (case q4 => exact HC0_2.out)
       rintro e w45 ⟨v1263, v1266, rfl, ho0, ho1, hb⟩
       refine ⟨_, rfl, ?_⟩
       have HO1264 := Aside0.mk (Kd.R_lower (Kd.R_new' (Kd.R_new' (Kd.R_new' (Kd.R_new' ho0 (Kd.R_lt (by (with_reducible skip); exact HO_8.out))) (Kd.R_lt (by (with_reducible skip); exact HO_10.out))) (Kd.R_lt (by (with_reducible skip); exact HO_11.out))) (Kd.R_lt (by (with_reducible skip); exact HO_1254001.out))) (below_size (by repeat ((with_reducible exact HB.out)))))
       replace HO_8 := Aside0.mk (Kd.R_elder' (by (with_reducible skip); exact HO_8.out) (Kd.R_base ho0) hb)
       replace HO_10 := Aside0.mk (Kd.R_elder' (by (with_reducible skip); exact HO_10.out) (Kd.R_base ho0) hb)
       replace HO_11 := Aside0.mk (Kd.R_elder' (by (with_reducible skip); exact HO_11.out) (Kd.R_base ho0) hb)
       replace HO_1254001 := Aside0.mk (Kd.R_elder' (by (with_reducible skip); exact HO_1254001.out) (Kd.R_base ho0) hb)
       have HO1267 := Aside0.mk (Kd.R_lower (Kd.R_new' ho1 (Kd.R_lt (by (with_reducible skip); exact HO_1254002.out))) (below_size (by repeat ((with_reducible exact HB.out)))))
       replace HO_1254002 := Aside0.mk (Kd.R_elder' (by (with_reducible skip); exact HO_1254002.out) (Kd.R_base ho1) hb)
       replace BK1231 := Z.bb BK1231 hb
       replace BK1253 := Z.bb BK1253 hb
       replace HB := Aside0.mk (below_step (by repeat ((with_reducible exact HB.out))) hb)
       (try clear hb)
       (try clear ho0)
       (try clear ho1)
       obtain ⟨Ao46, co46, eo46⟩ := Kd.R_slice HO1264.out
       (subst eo46)
       obtain ⟨Ao47, co47, eo47⟩ := Kd.R_slice HO1267.out
       (subst eo47)
       refine hK.out _ _ ⟨(blk_cell BK1253.out 0).trans rfl, (blk_cell BK1253.out 1).trans rfl, (blk_cell BK1253.out 2).trans rfl, (blk_cell BK1231.out 0).trans rfl, (blk_cell BK1231.out 1).trans rfl, (blk_cell BK1231.out 2).trans rfl⟩ (fun hHeld => ?_)
       clear hK K
       refine Z.nm ?_
       refine one_ (i := 3) (N := some 45) (Z.mb 5 15) rfl rfl (by kernel_rfl) (by decide) (fun K hK => ?_)
       refine goes_ Try.func24 (by kernel_rfl) rfl #[.agg #[.int .i64 t1246, .slice Ao32 t1247.length co32, .slice Ao33 t1250.length co33], .agg #[.int .i64 t1261, .slice Ao46 t1262.length co46, .slice Ao47 t1265.length co47]] (by rfl) rfl rfl Z.ar ?_
       with_reducible refine (laws_eqCharter.calls kj18 t1246 _ _ t1247 _ _ t1250 t1261 _ _ t1262 _ _ t1265 t1268 _ ?q1 ?q2 ?q3 ?q4 ?q5 ?q6 ?q7 ?q8 A42.out).mono ?_
       (case q1 => repeat (exact (Kd.R_reads' HO_1254001.out).2.2))
       (case q2 => exact (Kd.R_reads' HO_1254001.out).2.1)
       (case q3 => repeat (exact (Kd.R_reads' HO_1254002.out).2.2))
       (case q4 => exact (Kd.R_reads' HO_1254002.out).2.1)
       (case q5 => repeat (exact (Kd.R_reads' HO1264.out).2.2))
       (case q6 => exact (Kd.R_reads' HO1264.out).2.1)
       (case q7 => repeat (exact (Kd.R_reads' HO1267.out).2.2))
       (case q8 => exact (Kd.R_reads' HO1267.out).2.1)
       rintro e w48 ⟨rfl, hb⟩
       refine ⟨_, rfl, ?_⟩
       replace HO_8 := Aside0.mk (Kd.R_below (by (with_reducible skip); exact HO_8.out) hb)
       replace HO_10 := Aside0.mk (Kd.R_below (by (with_reducible skip); exact HO_10.out) hb)
       replace HO_11 := Aside0.mk (Kd.R_below (by (with_reducible skip); exact HO_11.out) hb)
       replace HO_1254001 := Aside0.mk (Kd.R_below (by (with_reducible skip); exact HO_1254001.out) hb)
       replace HO_1254002 := Aside0.mk (Kd.R_below (by (with_reducible skip); exact HO_1254002.out) hb)
       replace HO1264 := Aside0.mk (Kd.R_below (by (with_reducible skip); exact HO1264.out) hb)
       replace HO1267 := Aside0.mk (Kd.R_below (by (with_reducible skip); exact HO1267.out) hb)
       replace BK1231 := Z.bb BK1231 hb
       replace BK1253 := Z.bb BK1253 hb
       replace HB := Aside0.mk (below_step (by repeat ((with_reducible exact HB.out))) hb)
       (try clear hb)
       refine hK.out _ _ ⟨(blk_cell BK1253.out 0).trans rfl, (blk_cell BK1253.out 1).trans rfl, (blk_cell BK1253.out 2).trans rfl, (blk_cell BK1231.out 0).trans rfl, (blk_cell BK1231.out 1).trans rfl, (blk_cell BK1231.out 2).trans rfl⟩ (fun hHeld => ?_)
       clear hK K
       refine Z.nm ?_
       refine pure_ (i := 4) (N := some 46) (v := ?_) (a' := ?_) #[true, true, true, true, true] rfl rfl (by kernel_rfl) (fun _ _ _ h => h) (Or.inl ⟨by rfl, ?_⟩) ?_ ?_
       rotate_left
       ·intro w'
        go_simp
        with_reducible rfl
       rotate_left
       ·simp only [Act.put, List.setIfInBounds_toArray, List.set_cons_zero, List.set_cons_succ, i64_w, i32_w]
        rfl
       refine done_ (by kernel_rfl) ?_
       go_upto_if 46 with (fail)
       go_cut [] (fun wc => ∃ (kq : Nat), Aside0 (laws_FnExactReachOf.j3 kq l1 a2 t1243 t1254 t1257 a0_0 l0_1 l0_2 t1246 t1247 t1250 = some r) ∧ Aside0 (kq ≤ kj18) ∧ Aside0 (Kd.R (Kd.int .i64) 3 wc w.heap.size (fun k_ => some k_ ≠ ((.slice Ao36 t1254.length co36) : Value).ownBlock ∧ some k_ ≠ ((.slice Ao38 t1257.length co38) : Value).ownBlock ∧ some k_ ≠ ((.slice Ao32 t1247.length co32) : Value).ownBlock) (.slice Ao39 t1243.length co39) t1243) ∧ Aside0 (Kd.R (Kd.int .i64) 3 wc w.heap.size (fun k_ => some k_ ≠ ((.slice Ao39 t1243.length co39) : Value).ownBlock ∧ some k_ ≠ ((.slice Ao38 t1257.length co38) : Value).ownBlock ∧ some k_ ≠ ((.slice Ao32 t1247.length co32) : Value).ownBlock) (.slice Ao36 t1254.length co36) t1254) ∧ Aside0 (Kd.R (Kd.int .i64) 3 wc w.heap.size (fun k_ => some k_ ≠ ((.slice Ao39 t1243.length co39) : Value).ownBlock ∧ some k_ ≠ ((.slice Ao36 t1254.length co36) : Value).ownBlock ∧ some k_ ≠ ((.slice Ao32 t1247.length co32) : Value).ownBlock) (.slice Ao38 t1257.length co38) t1257) ∧ Aside0 (Kd.R (Kd.int .i64) 3 wc w.heap.size (fun k_ => some k_ ≠ ((.slice Ao39 t1243.length co39) : Value).ownBlock ∧ some k_ ≠ ((.slice Ao36 t1254.length co36) : Value).ownBlock ∧ some k_ ≠ ((.slice Ao38 t1257.length co38) : Value).ownBlock) (.slice Ao32 t1247.length co32) t1247) ∧ Aside0 (Kd.R (Kd.slice 86 k86) 83 wc w.heap.size (fun _ => True) (.slice Ao33 t1250.length co33) t1250) ∧ Aside0 (wc.heap[gb1231]? = some (.cells #[.int .i64 a0_0, (.slice A0_1 l0_1.length c0_1), (.slice A0_2 l0_2.length c0_2)] 27 (0, 0))) ∧ Aside0 (wc.heap[gb1253]? = some (.cells #[.int .i64 t1246, (.slice Ao32 t1247.length co32), (.slice Ao33 t1250.length co33)] 35 (0, 0))) ∧ Aside0 (Below w.heap.size w wc))
       case first =>
        have H := HC43.out
        clear HC43
        by_cases c49 : t1268 = true
        ·subst c49
         rw [if_pos rfl] at H
         have H' := Aside0.mk H
         clear H
         go_wp2
         go_meet
         case rel => exact ⟨_, H', ⟨by have := HJ3.out; have := HJ7.out; have := HJ18.out; omega⟩, ⟨by (with_reducible skip); exact Kd.R_mono HO_8.out (fun _ hk => ⟨hk.1.1, ⟨hk.1.2.1, hk.1.2.2⟩⟩)⟩, ⟨by (with_reducible skip); exact Kd.R_mono HO_10.out (fun _ hk => ⟨hk.1.1, ⟨hk.1.2.1, hk.1.2.2⟩⟩)⟩, ⟨by (with_reducible skip); exact Kd.R_mono HO_11.out (fun _ hk => ⟨hk.1.1, ⟨hk.1.2.1, hk.1.2.2⟩⟩)⟩, ⟨by (with_reducible skip); exact Kd.R_mono HO_1254001.out (fun _ hk => ⟨hk.1.1, ⟨hk.1.2.1, hk.1.2.2⟩⟩)⟩, ⟨by (with_reducible skip); exact Kd.R_mono HO_1254002.out (fun _ hk => trivial)⟩, ⟨by (with_reducible skip); exact BK1231.out⟩, ⟨by (with_reducible skip); exact BK1253.out⟩, ⟨by repeat ((with_reducible exact HB.out))⟩⟩
        ·replace c49 := Bool.eq_false_iff.mpr c49
         subst c49
         rw [if_neg (show ¬ (false = true) by decide)] at H
         obtain rfl := Option.some.inj H
         go_wp2
         go_ret
         exact ⟨by rfl, by repeat ((with_reducible exact HB.out))⟩
       case rest =>
        clear HC43
        obtain ⟨kq, HA, HJ42, HO_8, HO_10, HO_11, HO_1254001, HO_1254002, BK1231, BK1253, HB⟩ := hcut
        cases kq with
        | zero => exact absurd HA.out (by simp [laws_FnExactReachOf.j3])
        | succ kj42 =>
         have H := HA.out
         clear HA
         simp only [laws_FnExactReachOf.j3] at H
         replace H := Option.bind_eq_some_iff.mp H
         obtain ⟨t1269, A500, H⟩ := H
         have A50 := Aside0.mk A500
         clear A500
         replace H := Option.bind_eq_some_iff.mp H
         obtain ⟨t1272, A510, H⟩ := H
         have A51 := Aside0.mk A510
         clear A510
         have HC52 := Aside0.mk H
         clear H
         go_upto_if 51 with (first | ((with_reducible refine gate_callee (f := 21) rfl ?_); refine goesL_ (some 49) rfl rfl Try.func21 (by kernel_rfl) rfl #[.slice A1 l1.length c1] rfl Z.ar ?_; (with_reducible refine (laws_toIntS.calls kj42 _ _ l1 t1269 _ ?q1 ?q2 A50.out).mono ?_); (case q1 => exact Z.cc HR1 HB); (case q2 => exact HC1.out); rintro e w53 ⟨v1270, rfl, ho0, hb⟩; refine ⟨_, rfl, ?_⟩; replace HO_1254002 := Aside0.mk (Kd.R_below (by (with_reducible skip); exact HO_1254002.out) hb); have HO1271 := Aside0.mk (Kd.R_lower (Kd.R_new' (Kd.R_new' (Kd.R_new' (Kd.R_new' ho0 (Kd.R_lt (by (with_reducible skip); exact HO_8.out))) (Kd.R_lt (by (with_reducible skip); exact HO_10.out))) (Kd.R_lt (by (with_reducible skip); exact HO_11.out))) (Kd.R_lt (by (with_reducible skip); exact HO_1254001.out))) (below_size (by repeat ((with_reducible exact HB.out))))); replace HO_8 := Aside0.mk (Kd.R_elder' (by (with_reducible skip); exact HO_8.out) (Kd.R_base ho0) hb); replace HO_10 := Aside0.mk (Kd.R_elder' (by (with_reducible skip); exact HO_10.out) (Kd.R_base ho0) hb); replace HO_11 := Aside0.mk (Kd.R_elder' (by (with_reducible skip); exact HO_11.out) (Kd.R_base ho0) hb); replace HO_1254001 := Aside0.mk (Kd.R_elder' (by (with_reducible skip); exact HO_1254001.out) (Kd.R_base ho0) hb); replace BK1231 := Z.bb BK1231 hb; replace BK1253 := Z.bb BK1253 hb; replace HB := Aside0.mk (below_step (by repeat ((with_reducible exact HB.out))) hb); (try clear hb); (try clear ho0); obtain ⟨Ao54, co54, eo54⟩ := Kd.R_slice HO1271.out; subst eo54) | ((with_reducible refine gate_callee (f := 25) rfl ?_); refine goesL_ (some 50) rfl rfl Try.func25 (by kernel_rfl) rfl #[.slice Ao36 t1254.length co36, .slice Ao54 t1269.length co54] rfl Z.ar ?_; (with_reducible refine (laws_eqIntS.calls kj42 _ _ t1254 _ _ t1269 t1272 _ ?q1 ?q2 ?q3 ?q4 A51.out).mono ?_); (case q1 => repeat (exact (Kd.R_reads' HO_10.out).2.2)); (case q2 => exact (Kd.R_reads' HO_10.out).2.1); (case q3 => repeat (exact (Kd.R_reads' HO1271.out).2.2)); (case q4 => exact (Kd.R_reads' HO1271.out).2.1); rintro e w' ⟨rfl, ⟨nd, rfl⟩⟩; refine ⟨_, rfl, ?_⟩))
         go_cut [] (fun wc => ∃ (kq : Nat), Aside0 (laws_FnExactReachOf.j4 kq l1 a2 t1243 t1254 t1257 a0_0 l0_1 l0_2 t1246 t1247 t1250 = some r) ∧ Aside0 (kq ≤ kj42) ∧ Aside0 (Kd.R (Kd.int .i64) 3 wc w.heap.size (fun k_ => some k_ ≠ ((.slice Ao36 t1254.length co36) : Value).ownBlock ∧ some k_ ≠ ((.slice Ao38 t1257.length co38) : Value).ownBlock ∧ some k_ ≠ ((.slice Ao32 t1247.length co32) : Value).ownBlock) (.slice Ao39 t1243.length co39) t1243) ∧ Aside0 (Kd.R (Kd.int .i64) 3 wc w.heap.size (fun k_ => some k_ ≠ ((.slice Ao39 t1243.length co39) : Value).ownBlock ∧ some k_ ≠ ((.slice Ao38 t1257.length co38) : Value).ownBlock ∧ some k_ ≠ ((.slice Ao32 t1247.length co32) : Value).ownBlock) (.slice Ao36 t1254.length co36) t1254) ∧ Aside0 (Kd.R (Kd.int .i64) 3 wc w.heap.size (fun k_ => some k_ ≠ ((.slice Ao39 t1243.length co39) : Value).ownBlock ∧ some k_ ≠ ((.slice Ao36 t1254.length co36) : Value).ownBlock ∧ some k_ ≠ ((.slice Ao32 t1247.length co32) : Value).ownBlock) (.slice Ao38 t1257.length co38) t1257) ∧ Aside0 (Kd.R (Kd.int .i64) 3 wc w.heap.size (fun k_ => some k_ ≠ ((.slice Ao39 t1243.length co39) : Value).ownBlock ∧ some k_ ≠ ((.slice Ao36 t1254.length co36) : Value).ownBlock ∧ some k_ ≠ ((.slice Ao38 t1257.length co38) : Value).ownBlock) (.slice Ao32 t1247.length co32) t1247) ∧ Aside0 (Kd.R (Kd.slice 86 k86) 83 wc w.heap.size (fun _ => True) (.slice Ao33 t1250.length co33) t1250) ∧ Aside0 (wc.heap[gb1231]? = some (.cells #[.int .i64 a0_0, (.slice A0_1 l0_1.length c0_1), (.slice A0_2 l0_2.length c0_2)] 27 (0, 0))) ∧ Aside0 (wc.heap[gb1253]? = some (.cells #[.int .i64 t1246, (.slice Ao32 t1247.length co32), (.slice Ao33 t1250.length co33)] 35 (0, 0))) ∧ Aside0 (Below w.heap.size w wc))
         case first =>
          have H := HC52.out
          clear HC52
          by_cases c55 : t1272 = true
          ·subst c55
           rw [if_pos rfl] at H
           have H' := Aside0.mk H
           clear H
           go_wp2
           go_meet
           case rel => exact ⟨_, H', ⟨by have := HJ3.out; have := HJ7.out; have := HJ18.out; have := HJ42.out; omega⟩, ⟨by (with_reducible repeat (apply Kd.R_drewN)); exact Kd.R_mono HO_8.out (fun _ hk => ⟨hk.1.1, ⟨hk.1.2.1, hk.1.2.2⟩⟩)⟩, ⟨by (with_reducible repeat (apply Kd.R_drewN)); exact Kd.R_mono HO_10.out (fun _ hk => ⟨hk.1.1, ⟨hk.1.2.1, hk.1.2.2⟩⟩)⟩, ⟨by (with_reducible repeat (apply Kd.R_drewN)); exact Kd.R_mono HO_11.out (fun _ hk => ⟨hk.1.1, ⟨hk.1.2.1, hk.1.2.2⟩⟩)⟩, ⟨by (with_reducible repeat (apply Kd.R_drewN)); exact Kd.R_mono HO_1254001.out (fun _ hk => ⟨hk.1.1, ⟨hk.1.2.1, hk.1.2.2⟩⟩)⟩, ⟨by (with_reducible repeat (apply Kd.R_drewN)); exact HO_1254002.out⟩, ⟨by (with_reducible repeat (refine blk_drewN ?_ _)); exact BK1231.out⟩, ⟨by (with_reducible repeat (refine blk_drewN ?_ _)); exact BK1253.out⟩, ⟨by repeat ((with_reducible first | exact HB.out | apply pw_below_drewN))⟩⟩
          ·replace c55 := Bool.eq_false_iff.mpr c55
           subst c55
           rw [if_neg (show ¬ (false = true) by decide)] at H
           obtain rfl := Option.some.inj H
           go_wp2
           go_ret
           exact ⟨by rfl, by repeat ((with_reducible first | exact HB.out | apply pw_below_drewN))⟩
         case rest =>
          clear HC52
          obtain ⟨kq, HA, HJ51, HO_8, HO_10, HO_11, HO_1254001, HO_1254002, BK1231, BK1253, HB⟩ := hcut
          cases kq with
          | zero => exact absurd HA.out (by simp [laws_FnExactReachOf.j4])
          | succ kj51 =>
           have H := HA.out
           clear HA
           simp only [laws_FnExactReachOf.j4] at H
           replace H := Option.bind_eq_some_iff.mp H
           obtain ⟨t1273, A560, H⟩ := H
           have A56 := Aside0.mk A560
           clear A560
           replace H := Option.bind_eq_some_iff.mp H
           obtain ⟨⟨t1274, t1275⟩, A570, H⟩ := H
           try dsimp only at H
           have A57 := Aside0.mk A570
           clear A570
           have HC58 := Aside0.mk H
           clear H
           have hnb59 := NB1253_1231.out
           have hnc59 := NB1231_1253.out
           have hcz60 := Z.c3 BK1253.out
           go_upto_region 20 with (first | ((with_reducible refine gate_callee (f := 29) rfl ?_); refine goesL_ (some 54) rfl rfl Try.func29 (by kernel_rfl) rfl #[.agg #[.int .i64 t1246, .slice Ao32 t1247.length co32, .slice Ao33 t1250.length co33], .int .i64 1] rfl Z.ar ?_; (with_reducible refine (laws_markCharter.calls (b0 := w.heap.size) (ok1 := ?o1) (ok2 := ?o2) t1246 _ _ t1247 _ _ t1250 1 t1273 _ ?q1 ?q2 A56.out).mono ?_); (case q1 => exact HO_1254001.out); (case q2 => exact HO_1254002.out); rintro e w61 ⟨rfl, hk⟩; refine ⟨_, rfl, ?_⟩; replace HO_8 := Aside0.mk (Kd.R_mono (ok' := fun k_ => some k_ ≠ (.slice Ao36 t1254.length co36 : Value).ownBlock ∧ some k_ ≠ (.slice Ao38 t1257.length co38 : Value).ownBlock) (hk.ints (HO_8.out) (fun i_ hi_ => ((HO_8.out).1 i_ hi_).2.2)) (fun k_ hk_ => ⟨hk_.1, hk_.2.1⟩)); replace HO_10 := Aside0.mk (Kd.R_mono (ok' := fun k_ => some k_ ≠ (.slice Ao39 t1243.length co39 : Value).ownBlock ∧ some k_ ≠ (.slice Ao38 t1257.length co38 : Value).ownBlock) (hk.ints (HO_10.out) (fun i_ hi_ => ((HO_10.out).1 i_ hi_).2.2)) (fun k_ hk_ => ⟨hk_.1, hk_.2.1⟩)); replace HO_11 := Aside0.mk (Kd.R_mono (ok' := fun k_ => some k_ ≠ (.slice Ao39 t1243.length co39 : Value).ownBlock ∧ some k_ ≠ (.slice Ao36 t1254.length co36 : Value).ownBlock) (hk.ints (HO_11.out) (fun i_ hi_ => ((HO_11.out).1 i_ hi_).2.2)) (fun k_ hk_ => ⟨hk_.1, hk_.2.1⟩)); replace BK1231 := Aside0.mk (hk.far (Z.bk BK1231.out) (by decide)); replace BK1253 := Aside0.mk (hk.far (Z.bk BK1253.out) (by decide)); replace HB := Aside0.mk (hk.below (by repeat ((with_reducible exact HB.out)))); clear HO_1254001 HO_1254002; (try clear hk)) | ((with_reducible refine gate_callee (f := 30) rfl ?_); refine goesL_ (some 57) rfl rfl Try.func30 (by kernel_rfl) rfl #[.slice Ao36 t1254.length co36, .int .i64 t1273] rfl Z.ar ?_; (with_reducible refine (laws_markIntS.calls kj51 (fun k_ => some k_ = (.slice Ao36 t1254.length co36 : Value).ownBlock) (.slice Ao36 t1254.length co36) t1254 t1273 t1274 t1275 w _ ?q1 ?q2 A57.out).mono ?_); (case q1 => repeat ((with_reducible exact HB.out))); (case q2 => exact Kd.R_tight rfl HO_10.out); rintro e w62 ⟨rfl, hy0, hb, hkp⟩; refine ⟨_, rfl, ?_⟩; replace HO_8 := Aside0.mk (Kd.R_mono (ok' := fun k_ => some k_ ≠ (.slice Ao36 t1254.length co36 : Value).ownBlock ∧ some k_ ≠ (.slice Ao38 t1257.length co38 : Value).ownBlock) (Kd.R_keptB (HO_8.out) hkp (fun k_ hk_ hs_ => (hk_.1) hs_)) (fun k_ hk_ => ⟨hk_.1.1, hk_.1.2⟩)); replace HO_11 := Aside0.mk (Kd.R_mono (ok' := fun k_ => some k_ ≠ (.slice Ao39 t1243.length co39 : Value).ownBlock ∧ some k_ ≠ (.slice Ao36 t1254.length co36 : Value).ownBlock) (Kd.R_keptB (HO_11.out) hkp (fun k_ hk_ hs_ => (hk_.2) hs_)) (fun k_ hk_ => ⟨hk_.1.1, hk_.1.2⟩)); replace BK1231 := Aside0.mk (blk_kept (Z.bk BK1231.out) hkp (fun hs_ => (fun e_ => (Kd.R_ne HO_10.out BK1231.out (by decide)) e_) hs_)); replace BK1253 := Aside0.mk (blk_kept (Z.bk BK1253.out) hkp (fun hs_ => (fun e_ => (Kd.R_ne HO_10.out BK1253.out (by decide)) e_) hs_)); replace HO_10 := Aside0.mk (Kd.R_reok rfl hy0 (fun k_ e_ => HO_10.out.1 k_ e_)); replace HB := Aside0.mk (hb); (try clear hb); (try clear hkp); (try clear hy0)))
           go_cut [65] (fun v65 wc => ∃ (kq : Nat) (x65_57 : Bool), v65 = .bool x65_57 ∧ Aside0 (laws_FnExactReachOf.j5 kq l1 a2 t1243 t1257 x65_57 a0_0 l0_1 l0_2 = some r) ∧ Aside0 (kq ≤ kj51) ∧ Aside0 (Kd.R (Kd.int .i64) 3 wc w.heap.size (fun k_ => some k_ ≠ ((.slice Ao38 t1257.length co38) : Value).ownBlock) (.slice Ao39 t1243.length co39) t1243) ∧ Aside0 (Kd.R (Kd.int .i64) 3 wc w.heap.size (fun k_ => some k_ ≠ ((.slice Ao39 t1243.length co39) : Value).ownBlock) (.slice Ao38 t1257.length co38) t1257) ∧ Aside0 (wc.heap[gb1231]? = some (.cells #[.int .i64 a0_0, (.slice A0_1 l0_1.length c0_1), (.slice A0_2 l0_2.length c0_2)] 27 (0, 0))) ∧ Aside0 (Below w.heap.size w wc))
           case first =>
            have H := HC58.out
            clear HC58
            by_cases c63 : t1274 < 0
            ·rw [if_pos c63] at H
             have c63b0 := decide_eq_true c63
             clear c63
             have H' := Aside0.mk H
             clear H
             go_wp2
             go_meet
             case rel => exact ⟨_, (true), (by rfl), H', ⟨by have := HJ3.out; have := HJ7.out; have := HJ18.out; have := HJ42.out; have := HJ51.out; omega⟩, ⟨by (with_reducible skip); exact Kd.R_mono HO_8.out (fun _ hk => hk.2)⟩, ⟨by (with_reducible skip); exact Kd.R_mono HO_11.out (fun _ hk => hk.1)⟩, ⟨by (with_reducible skip); exact BK1231.out⟩, ⟨by repeat ((with_reducible exact HB.out))⟩⟩
            ·rw [if_neg c63] at H
             have c63b0 := decide_eq_false c63
             clear c63
             replace H := Option.bind_eq_some_iff.mp H
             obtain ⟨t1276, A640, H⟩ := H
             have A64 := Aside0.mk A640
             clear A640
             have H' := Aside0.mk H
             clear H
             go_wp2_with ((go_at_call 25; (with_reducible refine (laws_eqIntS.calls kj51 _ _ t1257 _ _ t1243 t1276 _ ?q1 ?q2 ?q3 ?q4 A64.out).mono ?_); (case q1 => repeat (exact (Kd.R_reads' HO_11.out).2.2)); (case q2 => exact (Kd.R_reads' HO_11.out).2.1); (case q3 => repeat (exact (Kd.R_reads' HO_8.out).2.2)); (case q4 => exact (Kd.R_reads' HO_8.out).2.1); rintro e w' ⟨rfl, ⟨nd, rfl⟩⟩))
             go_meet
             case rel => exact ⟨_, (!t1276), (by rfl), H', ⟨by have := HJ3.out; have := HJ7.out; have := HJ18.out; have := HJ42.out; have := HJ51.out; omega⟩, ⟨by (with_reducible repeat (apply Kd.R_drewN)); exact Kd.R_mono HO_8.out (fun _ hk => hk.2)⟩, ⟨by (with_reducible repeat (apply Kd.R_drewN)); exact Kd.R_mono HO_11.out (fun _ hk => hk.1)⟩, ⟨by (with_reducible repeat (refine blk_drewN ?_ _)); exact BK1231.out⟩, ⟨by repeat ((with_reducible first | exact HB.out | apply pw_below_drewN))⟩⟩
           case rest =>
            clear HC58
            obtain ⟨kq, x65_57, rfl, HA, HJ57, HO_8, HO_11, BK1231, HB⟩ := hcut
            cases kq with
            | zero => exact absurd HA.out (by simp [laws_FnExactReachOf.j5])
            | succ kj57 =>
             have H := HA.out
             clear HA
             simp only [laws_FnExactReachOf.j5] at H
             have HC65 := Aside0.mk H
             clear H
             go_upto_if 65 with (fail)
             go_cut [] (fun wc => ∃ (kq : Nat), Aside0 (laws_FnExactReachOf.j6 kq l1 a2 t1243 t1257 a0_0 l0_1 l0_2 = some r) ∧ Aside0 (kq ≤ kj57) ∧ Aside0 (Kd.R (Kd.int .i64) 3 wc w.heap.size (fun k_ => some k_ ≠ ((.slice Ao38 t1257.length co38) : Value).ownBlock) (.slice Ao39 t1243.length co39) t1243) ∧ Aside0 (Kd.R (Kd.int .i64) 3 wc w.heap.size (fun k_ => some k_ ≠ ((.slice Ao39 t1243.length co39) : Value).ownBlock) (.slice Ao38 t1257.length co38) t1257) ∧ Aside0 (wc.heap[gb1231]? = some (.cells #[.int .i64 a0_0, (.slice A0_1 l0_1.length c0_1), (.slice A0_2 l0_2.length c0_2)] 27 (0, 0))) ∧ Aside0 (Below w.heap.size w wc))
             case first =>
              have H := HC65.out
              clear HC65
              by_cases c66 : x65_57 = true
              ·subst c66
               rw [if_pos rfl] at H
               obtain rfl := Option.some.inj H
               go_wp2
               go_ret
               exact ⟨by rfl, Z.bs HB.out GE1231.out⟩
              ·replace c66 := Bool.eq_false_iff.mpr c66
               subst c66
               rw [if_neg (show ¬ (false = true) by decide)] at H
               have H' := Aside0.mk H
               clear H
               go_wp2
               go_meet
               case rel => exact ⟨_, H', ⟨by have := HJ3.out; have := HJ7.out; have := HJ18.out; have := HJ42.out; have := HJ51.out; have := HJ57.out; omega⟩, ⟨by (with_reducible skip); exact HO_8.out⟩, ⟨by (with_reducible skip); exact HO_11.out⟩, ⟨by (with_reducible skip); exact BK1231.out⟩, ⟨Z.bs HB.out GE1231.out⟩⟩
             case rest =>
              clear HC65
              obtain ⟨kq, HA, HJ64, HO_8, HO_11, BK1231, HB⟩ := hcut
              cases kq with
              | zero => exact absurd HA.out (by simp [laws_FnExactReachOf.j6])
              | succ kj64 =>
               have H := HA.out
               clear HA
               simp only [laws_FnExactReachOf.j6] at H
               replace H := Option.bind_eq_some_iff.mp H
               obtain ⟨⟨t1277, t1278⟩, A670, H⟩ := H
               try dsimp only at H
               have A67 := Aside0.mk A670
               clear A670
               replace H := Option.bind_eq_some_iff.mp H
               obtain ⟨t1279, A680, H⟩ := H
               have A68 := Aside0.mk A680
               clear A680
               have HC69 := Aside0.mk H
               clear H
               go_upto_if 73 with (first | ((with_reducible refine gate_callee (f := 30) rfl ?_); refine goesL_ (some 68) rfl rfl Try.func30 (by kernel_rfl) rfl #[.slice Ao38 t1257.length co38, .int .i64 1] rfl Z.ar ?_; (with_reducible refine (laws_markIntS.calls kj64 (fun k_ => some k_ = (.slice Ao38 t1257.length co38 : Value).ownBlock) (.slice Ao38 t1257.length co38) t1257 1 t1277 t1278 w _ ?q1 ?q2 A67.out).mono ?_); (case q1 => repeat ((with_reducible exact HB.out))); (case q2 => exact Kd.R_tight rfl HO_11.out); rintro e w70 ⟨rfl, hy0, hb, hkp⟩; refine ⟨_, rfl, ?_⟩; replace HO_8 := Aside0.mk (Kd.R_mono (ok' := fun k_ => some k_ ≠ (.slice Ao38 t1257.length co38 : Value).ownBlock) (Kd.R_keptB (HO_8.out) hkp (fun k_ hk_ hs_ => (hk_) hs_)) (fun k_ hk_ => hk_.1)); replace BK1231 := Aside0.mk (blk_kept (Z.bk BK1231.out) hkp (fun hs_ => (fun e_ => (Kd.R_ne HO_11.out BK1231.out (by decide)) e_) hs_)); replace HO_11 := Aside0.mk (Kd.R_reok rfl hy0 (fun k_ e_ => HO_11.out.1 k_ e_)); replace HB := Aside0.mk (hb); (try clear hb); (try clear hkp); (try clear hy0)) | ((with_reducible refine gate_callee (f := 32) rfl ?_); refine goesL_ (some 71) rfl rfl Try.func32 (by kernel_rfl) rfl #[.slice Ao38 t1278.length co38, .int .i64 1] rfl (by (try simp only [List.map_toArray, List.map_cons, List.map_nil]); (rw [show t1278.length = t1257.length from (Kd.R_reads' HO_11.out).1.symm] <;> rfl)) ?_; (with_reducible refine (laws_heldIntS.calls kj64 _ _ t1278 1 t1279 _ ?q1 ?q2 A68.out).mono ?_); (case q1 => repeat (exact (Kd.R_reads' HO_11.out).2.2)); (case q2 => rw [show t1278.length = t1257.length from (Kd.R_reads' HO_11.out).1.symm]; exact (Kd.R_reads' HO_11.out).2.1); rintro e w' ⟨rfl, ⟨nd, rfl⟩⟩; refine ⟨_, rfl, ?_⟩))
               go_cut [] (fun wc => ∃ (kq : Nat), Aside0 (laws_FnExactReachOf.j7 kq l1 a2 t1243 t1278 t1277 t1279 a0_0 l0_1 l0_2 = some r) ∧ Aside0 (kq ≤ kj64) ∧ Aside0 (Kd.R (Kd.int .i64) 3 wc w.heap.size (fun k_ => some k_ ≠ ((.slice Ao38 t1257.length co38) : Value).ownBlock) (.slice Ao39 t1243.length co39) t1243) ∧ Aside0 (Kd.R (Kd.int .i64) 3 wc w.heap.size (fun k_ => some k_ ≠ ((.slice Ao39 t1243.length co39) : Value).ownBlock) (.slice Ao38 t1257.length co38) t1278) ∧ Aside0 (wc.heap[gb1231]? = some (.cells #[.int .i64 a0_0, (.slice A0_1 l0_1.length c0_1), (.slice A0_2 l0_2.length c0_2)] 27 (0, 0))) ∧ Aside0 (Below w.heap.size w wc))
               case first =>
                have H := HC69.out
                clear HC69
                by_cases c71 : t1279 < 0
                ·rw [if_pos c71] at H
                 have c71b0 := decide_eq_true c71
                 clear c71
                 (rw [c71b0])
                 obtain rfl := Option.some.inj H
                 go_wp2
                 go_ret
                 exact ⟨by rfl, Z.bs HB.out GE1231.out⟩
                ·rw [if_neg c71] at H
                 have c71b0 := decide_eq_false c71
                 clear c71
                 (rw [c71b0])
                 have H' := Aside0.mk H
                 clear H
                 go_wp2
                 go_meet
                 case rel => exact ⟨_, H', ⟨by have := HJ3.out; have := HJ7.out; have := HJ18.out; have := HJ42.out; have := HJ51.out; have := HJ57.out; have := HJ64.out; omega⟩, ⟨by (with_reducible repeat (apply Kd.R_drewN)); exact HO_8.out⟩, ⟨by (with_reducible repeat (apply Kd.R_drewN)); exact HO_11.out⟩, ⟨by (with_reducible repeat (refine blk_drewN ?_ _)); exact BK1231.out⟩, ⟨Z.bs HB.out GE1231.out⟩⟩
               case rest =>
                clear HC69
                obtain ⟨kq, HA, HJ68, HO_8, HO_11, BK1231, HB⟩ := hcut
                have hl11_68 := (Kd.R_reads' HO_11.out).1
                rw [hl11_68] at HO_11
                (try simp only [hl11_68])
                (try simp only [hl11_68] at HO_8)
                cases kq with
                | zero => exact absurd HA.out (by simp [laws_FnExactReachOf.j7])
                | succ kj68 =>
                 have H := HA.out
                 clear HA
                 simp only [laws_FnExactReachOf.j7] at H
                 have HC72 := Aside0.mk H
                 clear H
                 go_upto_if 76 with (fail)
                 go_cut [] (fun wc => ∃ (kq : Nat), Aside0 (laws_FnExactReachOf.j8 kq l1 a2 t1243 t1278 t1277 a0_0 l0_1 l0_2 = some r) ∧ Aside0 (kq ≤ kj68) ∧ Aside0 (Kd.R (Kd.int .i64) 3 wc w.heap.size (fun k_ => some k_ ≠ ((.slice Ao38 t1278.length co38) : Value).ownBlock) (.slice Ao39 t1243.length co39) t1243) ∧ Aside0 (Kd.R (Kd.int .i64) 3 wc w.heap.size (fun k_ => some k_ ≠ ((.slice Ao39 t1243.length co39) : Value).ownBlock) (.slice Ao38 t1278.length co38) t1278) ∧ Aside0 (wc.heap[gb1231]? = some (.cells #[.int .i64 a0_0, (.slice A0_1 l0_1.length c0_1), (.slice A0_2 l0_2.length c0_2)] 27 (0, 0))) ∧ Aside0 (Below w.heap.size w wc))
                 case first =>
                  have H := HC72.out
                  clear HC72
                  by_cases c73 : t1279 = t1277
                  ·rw [if_pos c73] at H
                   have c73b0 : (t1279 == t1277) = true := beq_iff_eq.mpr c73
                   have c73b1 : (t1279 != t1277) = false := bne_eq_false_iff_eq.mpr c73
                   clear c73
                   have H' := Aside0.mk H
                   clear H
                   go_wp2
                   go_meet
                   case rel => exact ⟨_, H', ⟨by have := HJ3.out; have := HJ7.out; have := HJ18.out; have := HJ42.out; have := HJ51.out; have := HJ57.out; have := HJ64.out; have := HJ68.out; omega⟩, ⟨by (with_reducible skip); exact HO_8.out⟩, ⟨by (with_reducible skip); exact HO_11.out⟩, ⟨by (with_reducible skip); exact BK1231.out⟩, ⟨Z.bs HB.out GE1231.out⟩⟩
                  ·rw [if_neg c73] at H
                   have c73b0 : (t1279 == t1277) = false := beq_eq_false_iff_ne.mpr c73
                   have c73b1 : (t1279 != t1277) = true := bne_iff_ne.mpr c73
                   obtain rfl := Option.some.inj H
                   go_wp2
                   go_ret
                   exact ⟨by rfl, Z.bs HB.out GE1231.out⟩
                 case rest =>
                  clear HC72
                  obtain ⟨kq, HA, HJ71, HO_8, HO_11, BK1231, HB⟩ := hcut
                  cases kq with
                  | zero => exact absurd HA.out (by simp [laws_FnExactReachOf.j8])
                  | succ kj71 =>
                   have H := HA.out
                   clear HA
                   simp only [laws_FnExactReachOf.j8] at H
                   replace H := Option.bind_eq_some_iff.mp H
                   obtain ⟨⟨t1280, t1281, t1284⟩, A740, H⟩ := H
                   try dsimp only at H
                   have A74 := Aside0.mk A740
                   clear A740
                   replace H := Option.bind_eq_some_iff.mp H
                   obtain ⟨t1287, A750, H⟩ := H
                   have A75 := Aside0.mk A750
                   clear A750
                   replace H := Option.bind_eq_some_iff.mp H
                   obtain ⟨t1290, A760, H⟩ := H
                   have A76 := Aside0.mk A760
                   clear A760
                   replace H := Option.bind_eq_some_iff.mp H
                   obtain ⟨t1293, A770, H⟩ := H
                   have A77 := Aside0.mk A770
                   clear A770
                   have HC78 := Aside0.mk H
                   clear H
                   have hcz79 := Z.c3 BK1231.out
                   go_upto_if 86 with (first | ((with_reducible refine gate_callee (f := 20) rfl ?_); refine goesL_ (some 78) rfl rfl Try.func20 (by kernel_rfl) rfl #[.agg #[.int .i64 a0_0, .slice A0_1 l0_1.length c0_1, .slice A0_2 l0_2.length c0_2]] rfl Z.ar ?_; (with_reducible refine (laws_toCharter.calls kj71 a0_0 _ _ l0_1 _ _ l0_2 t1280 t1281 t1284 _ ?q1 ?q2 ?q3 ?q4 A74.out).mono ?_); (case q1 => exact Z.cc HR0_1 HB); (case q2 => exact HC0_1.out); (case q3 => exact Z.cc HR0_2 HB); (case q4 => exact HC0_2.out); rintro e w80 ⟨v1282, v1285, rfl, ho0, ho1, hb⟩; refine ⟨_, rfl, ?_⟩; have HO1283 := Aside0.mk (Kd.R_lower (Kd.R_new' (Kd.R_new' ho0 (Kd.R_lt (by (with_reducible skip); exact HO_8.out))) (Kd.R_lt (by (with_reducible skip); exact HO_11.out))) (below_size (Z.bs HB.out GE1231.out))); replace HO_8 := Aside0.mk (Kd.R_elder' (by (with_reducible skip); exact HO_8.out) (Kd.R_base ho0) hb); replace HO_11 := Aside0.mk (Kd.R_elder' (by (with_reducible skip); exact HO_11.out) (Kd.R_base ho0) hb); have HO1286 := Aside0.mk (Kd.R_lower ho1 (below_size (Z.bs HB.out GE1231.out))); replace BK1231 := Z.bb BK1231 hb; replace HB := Z.st (Z.bs HB.out GE1231.out) hb; (try clear hb); (try clear ho0); (try clear ho1)) | ((with_reducible refine gate_callee (f := 21) rfl ?_); refine goesL_ (some 80) rfl rfl Try.func21 (by kernel_rfl) rfl #[.slice A1 l1.length c1] rfl Z.ar ?_; (with_reducible refine (laws_toIntS.calls kj71 _ _ l1 t1287 _ ?q1 ?q2 A75.out).mono ?_); (case q1 => exact Z.cc HR1 HB); (case q2 => exact HC1.out); rintro e w81 ⟨v1288, rfl, ho0, hb⟩; refine ⟨_, rfl, ?_⟩; replace HO1286 := Aside0.mk (Kd.R_below (by (with_reducible skip); exact HO1286.out) hb); have HO1289 := Aside0.mk (Kd.R_lower (Kd.R_new' (Kd.R_new' (Kd.R_new' ho0 (Kd.R_lt (by (with_reducible skip); exact HO_8.out))) (Kd.R_lt (by (with_reducible skip); exact HO_11.out))) (Kd.R_lt (by (with_reducible skip); exact HO1283.out))) (below_size (Z.bs HB.out GE1231.out))); replace HO_8 := Aside0.mk (Kd.R_elder' (by (with_reducible skip); exact HO_8.out) (Kd.R_base ho0) hb); replace HO_11 := Aside0.mk (Kd.R_elder' (by (with_reducible skip); exact HO_11.out) (Kd.R_base ho0) hb); replace HO1283 := Aside0.mk (Kd.R_elder' (by (with_reducible skip); exact HO1283.out) (Kd.R_base ho0) hb); replace BK1231 := Z.bb BK1231 hb; replace HB := Z.st (Z.bs HB.out GE1231.out) hb; (try clear hb); (try clear ho0); obtain ⟨Ao82, co82, eo82⟩ := Kd.R_slice HO1283.out; subst eo82; obtain ⟨Ao83, co83, eo83⟩ := Kd.R_slice HO1286.out; subst eo83; obtain ⟨Ao84, co84, eo84⟩ := Kd.R_slice HO1289.out; subst eo84) | ((with_reducible refine gate_callee (f := 46) rfl ?_); refine goesL_ (some 82) rfl rfl Try.func46 (by kernel_rfl) rfl #[.agg #[.int .i64 t1280, .slice Ao82 t1281.length co82, .slice Ao83 t1284.length co83], .slice Ao84 t1287.length co84, .int .i64 a2] rfl Z.ar ?_; (with_reducible refine (impl_ReachOf.calls kj71 t1280 _ _ t1281 _ _ t1284 _ _ t1287 a2 t1290 _ ?q1 ?q2 ?q3 ?q4 ?q5 ?q6 A76.out).mono ?_); (case q1 => repeat (exact (Kd.R_reads' HO1283.out).2.2)); (case q2 => exact (Kd.R_reads' HO1283.out).2.1); (case q3 => repeat (exact (Kd.R_reads' HO1286.out).2.2)); (case q4 => exact (Kd.R_reads' HO1286.out).2.1); (case q5 => repeat (exact (Kd.R_reads' HO1289.out).2.2)); (case q6 => exact (Kd.R_reads' HO1289.out).2.1); rintro e w85 ⟨v1291, rfl, ho0, hb⟩; refine ⟨_, rfl, ?_⟩; replace HO1286 := Aside0.mk (Kd.R_below (by (with_reducible skip); exact HO1286.out) hb); have HO1292 := Aside0.mk (Kd.R_lower (Kd.R_new' (Kd.R_new' (Kd.R_new' (Kd.R_new' ho0 (Kd.R_lt (by (with_reducible skip); exact HO_8.out))) (Kd.R_lt (by (with_reducible skip); exact HO_11.out))) (Kd.R_lt (by (with_reducible skip); exact HO1283.out))) (Kd.R_lt (by (with_reducible skip); exact HO1289.out))) (below_size (Z.bs HB.out GE1231.out))); replace HO_8 := Aside0.mk (Kd.R_elder' (by (with_reducible skip); exact HO_8.out) (Kd.R_base ho0) hb); replace HO_11 := Aside0.mk (Kd.R_elder' (by (with_reducible skip); exact HO_11.out) (Kd.R_base ho0) hb); replace HO1283 := Aside0.mk (Kd.R_elder' (by (with_reducible skip); exact HO1283.out) (Kd.R_base ho0) hb); replace HO1289 := Aside0.mk (Kd.R_elder' (by (with_reducible skip); exact HO1289.out) (Kd.R_base ho0) hb); replace BK1231 := Z.bb BK1231 hb; replace HB := Z.st (Z.bs HB.out GE1231.out) hb; (try clear hb); (try clear ho0); obtain ⟨Ao86, co86, eo86⟩ := Kd.R_slice HO1292.out; subst eo86) | ((with_reducible refine gate_callee (f := 25) rfl ?_); refine goesL_ (some 85) rfl rfl Try.func25 (by kernel_rfl) rfl #[.slice Ao86 t1290.length co86, .slice Ao39 t1243.length co39] rfl Z.ar ?_; (with_reducible refine (laws_eqIntS.calls kj71 _ _ t1290 _ _ t1243 t1293 _ ?q1 ?q2 ?q3 ?q4 A77.out).mono ?_); (case q1 => repeat (exact (Kd.R_reads' HO1292.out).2.2)); (case q2 => exact (Kd.R_reads' HO1292.out).2.1); (case q3 => repeat (exact (Kd.R_reads' HO_8.out).2.2)); (case q4 => exact (Kd.R_reads' HO_8.out).2.1); rintro e w' ⟨rfl, ⟨nd, rfl⟩⟩; refine ⟨_, rfl, ?_⟩))
                   go_cut [] (fun wc => ∃ (kq : Nat), Aside0 (laws_FnExactReachOf.j9 kq t1278 t1277 = some r) ∧ Aside0 (kq ≤ kj71) ∧ Aside0 (Kd.R (Kd.int .i64) 3 wc w.heap.size (fun _ => True) (.slice Ao38 t1278.length co38) t1278) ∧ Aside0 (wc.heap[gb1231]? = some (.cells #[.int .i64 a0_0, (.slice A0_1 l0_1.length c0_1), (.slice A0_2 l0_2.length c0_2)] 27 (0, 0))) ∧ Aside0 (Below w.heap.size w wc))
                   case first =>
                    have H := HC78.out
                    clear HC78
                    by_cases c87 : t1293 = true
                    ·subst c87
                     rw [if_pos rfl] at H
                     have H' := Aside0.mk H
                     clear H
                     go_wp2
                     go_meet
                     case rel => exact ⟨_, H', ⟨by have := HJ3.out; have := HJ7.out; have := HJ18.out; have := HJ42.out; have := HJ51.out; have := HJ57.out; have := HJ64.out; have := HJ68.out; have := HJ71.out; omega⟩, ⟨by (with_reducible repeat (apply Kd.R_drewN)); exact Kd.R_mono HO_11.out (fun _ hk => trivial)⟩, ⟨by (with_reducible repeat (refine blk_drewN ?_ _)); exact BK1231.out⟩, ⟨Z.bs HB.out GE1231.out⟩⟩
                    ·replace c87 := Bool.eq_false_iff.mpr c87
                     subst c87
                     rw [if_neg (show ¬ (false = true) by decide)] at H
                     obtain rfl := Option.some.inj H
                     go_wp2
                     go_ret
                     exact ⟨by rfl, Z.bs HB.out GE1231.out⟩
                   case rest =>
                    clear HC78
                    obtain ⟨kq, HA, HJ77, HO_11, BK1231, HB⟩ := hcut
                    cases kq with
                    | zero => exact absurd HA.out (by simp [laws_FnExactReachOf.j9])
                    | succ kj77 =>
                     have H := HA.out
                     clear HA
                     simp only [laws_FnExactReachOf.j9] at H
                     replace H := Option.bind_eq_some_iff.mp H
                     obtain ⟨t1294, A880, H⟩ := H
                     have A88 := Aside0.mk A880
                     clear A880
                     by_cases c89 : t1294 < 0
                     ·rw [if_pos c89] at H
                      have c89b0 := decide_eq_true c89
                      clear c89
                      obtain rfl := Option.some.inj H
                      go_wp2_with (((with_reducible refine gate_callee (f := 32) rfl ?_); refine goesL_ (some 89) rfl rfl Try.func32 (by kernel_rfl) rfl #[.slice Ao38 t1278.length co38, .int .i64 1] rfl Z.ar ?_; (with_reducible refine (laws_heldIntS.calls kj77 _ _ t1278 1 t1294 _ ?q1 ?q2 A88.out).mono ?_); (case q1 => repeat (exact (Kd.R_reads' HO_11.out).2.2)); (case q2 => exact (Kd.R_reads' HO_11.out).2.1); rintro e w' ⟨rfl, ⟨nd, rfl⟩⟩; refine ⟨_, rfl, ?_⟩))
                      go_ret
                      exact ⟨by rfl, Z.bs HB.out GE1231.out⟩
                     ·rw [if_neg c89] at H
                      have c89b0 := decide_eq_false c89
                      clear c89
                      by_cases c90 : t1294 = t1277
                      ·rw [if_pos c90] at H
                       have c90b0 : (t1294 == t1277) = true := beq_iff_eq.mpr c90
                       have c90b1 : (t1294 != t1277) = false := bne_eq_false_iff_eq.mpr c90
                       clear c90
                       obtain rfl := Option.some.inj H
                       go_wp2_with (((with_reducible refine gate_callee (f := 32) rfl ?_); refine goesL_ (some 89) rfl rfl Try.func32 (by kernel_rfl) rfl #[.slice Ao38 t1278.length co38, .int .i64 1] rfl Z.ar ?_; (with_reducible refine (laws_heldIntS.calls kj77 _ _ t1278 1 t1294 _ ?q1 ?q2 A88.out).mono ?_); (case q1 => repeat (exact (Kd.R_reads' HO_11.out).2.2)); (case q2 => exact (Kd.R_reads' HO_11.out).2.1); rintro e w' ⟨rfl, ⟨nd, rfl⟩⟩; refine ⟨_, rfl, ?_⟩))
                       go_ret
                       exact ⟨by rfl, Z.bs HB.out GE1231.out⟩
                      ·rw [if_neg c90] at H
                       have c90b0 : (t1294 == t1277) = false := beq_eq_false_iff_ne.mpr c90
                       have c90b1 : (t1294 != t1277) = true := bne_iff_ne.mpr c90
                       obtain rfl := Option.some.inj H
                       go_wp2_with (((with_reducible refine gate_callee (f := 32) rfl ?_); refine goesL_ (some 89) rfl rfl Try.func32 (by kernel_rfl) rfl #[.slice Ao38 t1278.length co38, .int .i64 1] rfl Z.ar ?_; (with_reducible refine (laws_heldIntS.calls kj77 _ _ t1278 1 t1294 _ ?q1 ?q2 A88.out).mono ?_); (case q1 => repeat (exact (Kd.R_reads' HO_11.out).2.2)); (case q2 => exact (Kd.R_reads' HO_11.out).2.1); rintro e w' ⟨rfl, ⟨nd, rfl⟩⟩; refine ⟨_, rfl, ?_⟩))
                       go_ret
                       exact ⟨by rfl, Z.bs HB.out GE1231.out⟩

end Go.Proofs.Ytcafckapdgaogaa.PAll

/- Walks of functions that laws of this seat reach, in the form of the print. -/
import Derived.Test.YtkogboechfieeaaCAll0
import Derived.Test.YtkogboechfieeaaCAll1
import Derived.Test.YtkogboechfieeaaCAll27
import Derived.Test.YtkogboechfieeaaCAll28
import Derived.Test.YtkogboechfieeaaCAll3
import Derived.Test.YtkogboechfieeaaCAll6
import Derived.Test.YtkogboechfieeaaZ
import Derived.Maps.OwnSet
import Derived.Shelf.Abstract
-- PRINTED
namespace Go.Proofs.Ytkogboechfieeaa.PAll
open Go.RowKit Go.Proofs.YtkogboechfieeaaW.PrintWords Go.Proofs.YtkogboechfieeaaW.PrintLast Go.Proofs.YtkogboechfieeaaW.PrintMore
attribute [local go_sem] max2_int min2_int max_two min_two max_three min_three max_four min_four
set_option linter.unusedVariables false
set_option linter.unusedSimpArgs false

/-! ### spec_ChangesTo: function 41 -/
def spec_ChangesTo.j0 : Nat → List Int → List Int → Int → Bool → Int → List Int → List (List (S37)) → Option (Int)
 | 0, _, _, _, _, _, _, _ => none
 | k + 1, x1, x2, x3, x26, x899000, x899001, x899002 => if x26 = true then (some (-1)) else ((spec_l8Code.f k x1).bind fun t902 => ((spec_l8Reach.f k x899000 x899001 x899002 t902 x3).bind fun t903 => ((spec_l8Code.f k x2).bind fun t906 => (if 0 ≤ t906 then (if t906 < (t903.length : Int) then (some (rd t903 t906)) else (none)) else (none)))))
def spec_ChangesTo.f (k : Nat) (a0_0 : Int) (l0_1 : List Int) (l0_2 : List (List (S37))) (l1 : List Int) (l2 : List Int) (a3 : Int) : Option (Int) := (spec_StateOk.f k a0_0 l0_1 l0_2 l1).bind fun t899 => (if t899 = true then ((spec_StateOk.f k a0_0 l0_1 l0_2 l2).bind fun t900 => (if t900 = true then ((spec_CrowdOk.f a0_0 a3).bind fun t901 => (spec_ChangesTo.j0 k l1 l2 a3 (!t901) a0_0 l0_1 l0_2)) else (spec_ChangesTo.j0 k l1 l2 a3 true a0_0 l0_1 l0_2))) else (spec_ChangesTo.j0 k l1 l2 a3 true a0_0 l0_1 l0_2))
def spec_ChangesTo.T3 : Bool × List (List Nat × List Nat) := (true, [([], []), ([], []), ([1], [1]), ([], []), ([0, 2, 3, 2], [0, 2, 3]), ([], []), ([5, 4], [5]), ([4, 6], [4, 6]), ([7], [7]), ([8, 6, 0, 1, 2, 3, 4, 5, 6, 7, 8], [8])])
def spec_ChangesTo.B3 : List Nat := [0, 0, 2, 0, 15, 0, 63, 127, 255, 511]
theorem spec_ChangesTo.tab3 : rtab .any (opsOf Try.f41 3) = spec_ChangesTo.T3 := by kernel_rfl
theorem spec_ChangesTo.bits3 : waitsOk spec_ChangesTo.T3.2 spec_ChangesTo.B3 = true := by kernel_rfl
set_option maxHeartbeats 8000000 in
set_option maxRecDepth 100000 in
theorem spec_ChangesTo.calls (k : Nat) (a0_0 : Int) (A0_1 : Option Addr) (c0_1 : Nat) (l0_1 : List Int) (A0_2 : Option Addr) (c0_2 : Nat) (l0_2 : List (List (S37))) (A1 : Option Addr) (c1 : Nat) (l1 : List Int) (A2 : Option Addr) (c2 : Nat) (l2 : List Int) (a3 : Int) (r : Int) (w : World) (hr0_1 : Kd.C (Kd.int .i64) w A0_1 l0_1.length l0_1) (hc0_1 : l0_1.length ≤ c0_1) (hr0_2 : Kd.C (Kd.slice 37 k37) w A0_2 l0_2.length l0_2) (hc0_2 : l0_2.length ≤ c0_2) (hr1 : Kd.C (Kd.int .i64) w A1 l1.length l1) (hc1 : l1.length ≤ c1) (hr2 : Kd.C (Kd.int .i64) w A2 l2.length l2) (hc2 : l2.length ≤ c2) (h : spec_ChangesTo.f k a0_0 l0_1 l0_2 l1 l2 a3 = some r) :
  Calls Try.prog 41 #[.agg #[.int .i64 a0_0, .slice A0_1 l0_1.length c0_1, .slice A0_2 l0_2.length c0_2], .slice A1 l1.length c1, .slice A2 l2.length c2, .int .i64 a3] w fun e w' => e = .returned (.int .i64 r) ∧ Below w.heap.size w w' := by
 have hu35 := Try.underlying28
 have HR0_1 := Z.k hr0_1
 have HC0_1 := Z.k hc0_1
 clear hr0_1 hc0_1
 have HR0_2 := Z.k hr0_2
 have HC0_2 := Z.k hc0_2
 clear hr0_2 hc0_2
 have HR1 := Z.k hr1
 have HC1 := Z.k hc1
 clear hr1 hc1
 have HR2 := Z.k hr2
 have HC2 := Z.k hc2
 clear hr2 hc2
 have HB := Z.k (Below.refl w.heap.size w)
 have H := h
 clear h
 unfold spec_ChangesTo.f at H
 have HC5 := Z.k H
 clear H
 go_enter Try.func41, Try.ntmps41
 go_upto_region 1 with (((with_reducible refine gate_dst (N := 4) rfl ?_); refine Z.bx #[.int .i64 a0_0, .slice A0_1 l0_1.length c0_1, .slice A0_2 l0_2.length c0_2] 28 HB ?_; clear HB; intro gb898 w6 BK898 GE898 HB hg hb; have GW898 := GE898; clear hb hg))
 go_cut [26] (fun v26 wc => ∃ (kq : Nat) (x26_4 : Bool), v26 = .bool x26_4 ∧ Aside0 (spec_ChangesTo.j0 kq l1 l2 a3 x26_4 a0_0 l0_1 l0_2 = some r) ∧ Aside0 (kq ≤ k) ∧ Aside0 (wc.heap[gb898]? = some (.cells #[.int .i64 a0_0, (.slice A0_1 l0_1.length c0_1), (.slice A0_2 l0_2.length c0_2)] 28 (0, 0))) ∧ Aside0 (Below w.heap.size w wc))
 case first =>
  have H := HC5.out
  clear HC5
  replace H := Option.bind_eq_some_iff.mp H
  obtain ⟨t899, A70, H⟩ := H
  have A7 := Z.k A70
  clear A70
  by_cases c8 : t899 = true
  ·subst c8
   rw [if_pos rfl] at H
   replace H := Option.bind_eq_some_iff.mp H
   obtain ⟨t900, A90, H⟩ := H
   have A9 := Z.k A90
   clear A90
   by_cases c10 : t900 = true
   ·subst c10
    rw [if_pos rfl] at H
    replace H := Option.bind_eq_some_iff.mp H
    obtain ⟨t901, A110, H⟩ := H
    have A11 := Z.k A110
    clear A110
    have H' := Z.k H
    clear H
    have hcz12 := Z.c3 BK898.out
    go_wp2_with (first | ((with_reducible refine gate_callee (f := 16) rfl ?_); refine goesL_ (some 11) rfl rfl Try.func16 (by kernel_rfl) rfl #[.agg #[.int .i64 a0_0, .slice A0_1 l0_1.length c0_1, .slice A0_2 l0_2.length c0_2], .slice A1 l1.length c1] rfl Z.ar ?_; (with_reducible refine (spec_StateOk.calls k a0_0 _ _ l0_1 _ _ l0_2 _ _ l1 true _ ?q1 ?q2 ?q3 ?q4 ?q5 ?q6 A7.out).mono ?_); (case q1 => exact Z.cc HR0_1 HB); (case q2 => exact HC0_1.out); (case q3 => exact Z.cc HR0_2 HB); (case q4 => exact HC0_2.out); (case q5 => exact Z.cc HR1 HB); (case q6 => exact HC1.out); rintro e w13 ⟨rfl, hb⟩; refine ⟨_, rfl, ?_⟩; replace BK898 := Z.bb BK898 hb; replace HB := Z.st (Z.bs HB.out GE898.out) hb; (try clear hb); have hcz14 := Z.c3 BK898.out) | (go_at_call 16; (with_reducible refine (spec_StateOk.calls k a0_0 _ _ l0_1 _ _ l0_2 _ _ l2 true _ ?q1 ?q2 ?q3 ?q4 ?q5 ?q6 A9.out).mono ?_); (case q1 => exact Z.cc HR0_1 HB); (case q2 => exact HC0_1.out); (case q3 => exact Z.cc HR0_2 HB); (case q4 => exact HC0_2.out); (case q5 => exact Z.cc HR2 HB); (case q6 => exact HC2.out); rintro e w15 ⟨rfl, hb⟩; replace BK898 := Z.bb BK898 hb; replace HB := Z.st (Z.bs HB.out GE898.out) hb; (try clear hb); have hcz16 := Z.c3 BK898.out) | (go_at_call 17; (with_reducible refine (spec_CrowdOk.calls a0_0 a3 t901 _ A11.out).mono ?_); rintro e w' ⟨rfl, ⟨nd, rfl⟩⟩))
    go_meet
    case rel => exact ⟨_, (!t901), (by rfl), H', ⟨by omega⟩, ⟨by (with_reducible repeat (refine blk_drewN ?_ _)); exact BK898.out⟩, ⟨Z.bs HB.out GE898.out⟩⟩
   ·replace c10 := Bool.eq_false_iff.mpr c10
    subst c10
    rw [if_neg (show ¬ (false = true) by decide)] at H
    have H' := Z.k H
    clear H
    have hcz17 := Z.c3 BK898.out
    go_wp2_with (first | ((with_reducible refine gate_callee (f := 16) rfl ?_); refine goesL_ (some 11) rfl rfl Try.func16 (by kernel_rfl) rfl #[.agg #[.int .i64 a0_0, .slice A0_1 l0_1.length c0_1, .slice A0_2 l0_2.length c0_2], .slice A1 l1.length c1] rfl Z.ar ?_; (with_reducible refine (spec_StateOk.calls k a0_0 _ _ l0_1 _ _ l0_2 _ _ l1 true _ ?q1 ?q2 ?q3 ?q4 ?q5 ?q6 A7.out).mono ?_); (case q1 => exact Z.cc HR0_1 HB); (case q2 => exact HC0_1.out); (case q3 => exact Z.cc HR0_2 HB); (case q4 => exact HC0_2.out); (case q5 => exact Z.cc HR1 HB); (case q6 => exact HC1.out); rintro e w18 ⟨rfl, hb⟩; refine ⟨_, rfl, ?_⟩; replace BK898 := Z.bb BK898 hb; replace HB := Z.st (Z.bs HB.out GE898.out) hb; (try clear hb); have hcz19 := Z.c3 BK898.out) | (go_at_call 16; (with_reducible refine (spec_StateOk.calls k a0_0 _ _ l0_1 _ _ l0_2 _ _ l2 false _ ?q1 ?q2 ?q3 ?q4 ?q5 ?q6 A9.out).mono ?_); (case q1 => exact Z.cc HR0_1 HB); (case q2 => exact HC0_1.out); (case q3 => exact Z.cc HR0_2 HB); (case q4 => exact HC0_2.out); (case q5 => exact Z.cc HR2 HB); (case q6 => exact HC2.out); rintro e w20 ⟨rfl, hb⟩; replace BK898 := Z.bb BK898 hb; replace HB := Z.st (Z.bs HB.out GE898.out) hb; (try clear hb)))
    go_meet
    case rel => exact ⟨_, (true), (by rfl), H', ⟨by omega⟩, ⟨by (with_reducible skip); exact BK898.out⟩, ⟨Z.bs HB.out GE898.out⟩⟩
  ·replace c8 := Bool.eq_false_iff.mpr c8
   subst c8
   rw [if_neg (show ¬ (false = true) by decide)] at H
   have H' := Z.k H
   clear H
   have hcz21 := Z.c3 BK898.out
   go_wp2_with (((with_reducible refine gate_callee (f := 16) rfl ?_); refine goesL_ (some 11) rfl rfl Try.func16 (by kernel_rfl) rfl #[.agg #[.int .i64 a0_0, .slice A0_1 l0_1.length c0_1, .slice A0_2 l0_2.length c0_2], .slice A1 l1.length c1] rfl Z.ar ?_; (with_reducible refine (spec_StateOk.calls k a0_0 _ _ l0_1 _ _ l0_2 _ _ l1 false _ ?q1 ?q2 ?q3 ?q4 ?q5 ?q6 A7.out).mono ?_); (case q1 => exact Z.cc HR0_1 HB); (case q2 => exact HC0_1.out); (case q3 => exact Z.cc HR0_2 HB); (case q4 => exact HC0_2.out); (case q5 => exact Z.cc HR1 HB); (case q6 => exact HC1.out); rintro e w22 ⟨rfl, hb⟩; refine ⟨_, rfl, ?_⟩; replace BK898 := Z.bb BK898 hb; replace HB := Z.st (Z.bs HB.out GE898.out) hb; (try clear hb)))
   go_meet
   case rel => exact ⟨_, (true), (by rfl), H', ⟨by omega⟩, ⟨by (with_reducible skip); exact BK898.out⟩, ⟨Z.bs HB.out GE898.out⟩⟩
 case rest =>
  clear HC5
  obtain ⟨kq, x26_4, rfl, HA, HJ4, BK898, HB⟩ := hcut
  cases kq with
  | zero => exact absurd HA.out (by simp [spec_ChangesTo.j0])
  | succ kj4 =>
   have H := HA.out
   clear HA
   simp only [spec_ChangesTo.j0] at H
   by_cases c23 : x26_4 = true
   ·subst c23
    rw [if_pos rfl] at H
    obtain rfl := Option.some.inj H
    go_wp2
    go_ret
    exact ⟨by rfl, Z.bs HB.out GE898.out⟩
   ·replace c23 := Bool.eq_false_iff.mpr c23
    subst c23
    rw [if_neg (show ¬ (false = true) by decide)] at H
    replace H := Option.bind_eq_some_iff.mp H
    obtain ⟨t902, A240, H⟩ := H
    have A24 := Z.k A240
    clear A240
    replace H := Option.bind_eq_some_iff.mp H
    obtain ⟨t903, A250, H⟩ := H
    have A25 := Z.k A250
    clear A250
    replace H := Option.bind_eq_some_iff.mp H
    obtain ⟨t906, A260, H⟩ := H
    have A26 := Z.k A260
    clear A260
    obtain ⟨c27, H⟩ := Z.ifp H
    have c27b0 : decide (0 ≤ t906) = true := decide_eq_true c27
    clear c27
    obtain ⟨c28, H⟩ := Z.ifp H
    have c28b0 : decide (t906 < (t903.length : Int)) = true := decide_eq_true c28
    clear c28
    obtain rfl := Option.some.inj H
    try go_wp2
    replace BK898 := Z.k (blk_drew BK898.out)
    replace HB := Z.k (below_drew1 HB.out)
    refine start_ (n := 10) (S := fun w' => w'.cell? ⟨gb898, 0, none⟩ = some (.int .i64 a0_0) ∧ w'.cell? ⟨gb898, 1, none⟩ = some (.slice A0_1 l0_1.length c0_1) ∧ w'.cell? ⟨gb898, 2, none⟩ = some (.slice A0_2 l0_2.length c0_2)) (ds := []) #[false, false, false, false, false, false, false, false, false, false] (by kernel_rfl) rfl rfl ⟨(blk_cell BK898.out 0).trans rfl, (blk_cell BK898.out 1).trans rfl, (blk_cell BK898.out 2).trans rfl⟩ (fun hHeld => ?_); refine with_tabW spec_ChangesTo.tab3 spec_ChangesTo.bits3 (fun HT_ HW_ => ?_)
    generalize wc.drew = w29 at BK898 HB hHeld ⊢
    refine Z.pv 1 28 10 2 HT_.out ?_
    refine Z.pv 3 30 10 10 HT_.out ?_
    refine Z.pv 5 32 10 42 HT_.out ?_
    refine Z.t3 0 27 10 43 HT_.out HW_.out hHeld ?_
    refine one_ (i := 2) (N := some 29) (Z.mb 10 47) rfl rfl (one_of HT_.out (by kernel_rfl)) (by decide) (fun K hK => ?_)
    refine goes_ Try.func80 (by kernel_rfl) rfl #[.slice A1 l1.length c1] (by rfl) rfl rfl Z.ar ?_
    with_reducible refine (spec_l8Code.calls kj4 _ _ l1 t902 _ ?q1 ?q2 A24.out).mono ?_
    (case q1 => exact Z.cc HR1 HB)
    (case q2 => exact HC1.out)
    rintro e w' ⟨rfl, ⟨nd, rfl⟩⟩
    refine ⟨_, rfl, ?_⟩
    refine hK.out _ _ ⟨(blk_cell BK898.out 0).trans rfl, (blk_cell BK898.out 1).trans rfl, (blk_cell BK898.out 2).trans rfl⟩ (fun hHeld => ?_)
    clear hK K
    refine Z.nm ?_
    refine one_ (i := 4) (N := some 31) (Z.mb 10 63) rfl rfl (one_of HT_.out (by kernel_rfl)) (by decide) (fun K hK => ?_)
    refine goes_ Try.func79 (by kernel_rfl) rfl #[.agg #[.int .i64 a0_0, .slice A0_1 l0_1.length c0_1, .slice A0_2 l0_2.length c0_2], .int .i64 t902, .int .i64 a3] (by rfl) rfl rfl Z.ar ?_
    with_reducible refine (spec_l8Reach.calls kj4 a0_0 _ _ l0_1 _ _ l0_2 t902 a3 t903 _ ?q1 ?q2 ?q3 ?q4 A25.out).mono ?_
    (case q1 => repeat (exact (Kd.C_below HR0_1.out (Z.bs HB.out GE898.out))))
    (case q2 => exact HC0_1.out)
    (case q3 => repeat (exact (Kd.C_below HR0_2.out (Z.bs HB.out GE898.out))))
    (case q4 => exact HC0_2.out)
    rintro e w30 ⟨v904, rfl, ho0, hb⟩
    refine ⟨_, rfl, ?_⟩
    have HO905 := Z.k (Kd.R_lower ho0 (below_size (Z.bs HB.out GE898.out)))
    replace BK898 := Z.bb BK898 hb
    replace HB := Z.st (Z.bs HB.out GE898.out) hb
    (try clear hb)
    (try clear ho0)
    refine hK.out _ _ ⟨(blk_cell BK898.out 0).trans rfl, (blk_cell BK898.out 1).trans rfl, (blk_cell BK898.out 2).trans rfl⟩ (fun hHeld => ?_)
    clear hK K
    refine Z.nm ?_
    refine one_ (i := 6) (N := some 33) (Z.mb 10 127) rfl rfl (one_of HT_.out (by kernel_rfl)) (by decide) (fun K hK => ?_)
    refine goes_ Try.func80 (by kernel_rfl) rfl #[.slice A2 l2.length c2] (by rfl) rfl rfl Z.ar ?_
    with_reducible refine (spec_l8Code.calls kj4 _ _ l2 t906 _ ?q1 ?q2 A26.out).mono ?_
    (case q1 => exact Z.cc HR2 HB)
    (case q2 => exact HC2.out)
    rintro e w' ⟨rfl, ⟨nd, rfl⟩⟩
    refine ⟨_, rfl, ?_⟩
    replace HO905 := Z.k (Kd.R_drewN HO905.out nd)
    obtain ⟨Ao31, co31, eo31⟩ := Kd.R_slice HO905.out
    (subst eo31)
    have p907 : 0 ≤ (t906 : Int) := Z.od
    have q907 : t906 < (t903.length : Int) := Z.od
    obtain ⟨ad907, e907, hx907_0⟩ := Kd.at_int (Kd.R_reads' HO905.out).2.2 t906 p907 q907
    cases e907
    replace p907 := eq_true p907
    replace q907 := eq_true q907
    refine hK.out _ _ ⟨(blk_cell BK898.out 0).trans rfl, (blk_cell BK898.out 1).trans rfl, (blk_cell BK898.out 2).trans rfl⟩ (fun hHeld => ?_)
    clear hK K
    refine Z.nm ?_
    refine Z.pv 7 34 10 255 HT_.out ?_
    refine one_ (i := 8) (N := some 35) (Z.mb 10 511) rfl rfl (one_of HT_.out (by kernel_rfl)) (by decide) (fun K hK => ?_)
    refine value_ (v := .int .i64 (rd t903 t906)) rfl rfl (by go_simp; with_reducible rfl) ?_
    refine hK.out _ _ ⟨(blk_cell BK898.out 0).trans rfl, (blk_cell BK898.out 1).trans rfl, (blk_cell BK898.out 2).trans rfl⟩ (fun hHeld => ?_)
    clear hK K
    refine Z.nm ?_
    refine Z.pv 9 8 10 1023 HT_.out ?_
    refine done_ (done_of HT_.out (by kernel_rfl)) ?_
    try go_wp2
    go_ret
    exact ⟨by rfl, Z.bs HB.out GE898.out⟩
-- NOT PRINTED: function 88 (impl_reach)

-- NOT PRINTED: function 30 (impl_ChangesTo)

-- NOT PRINTED: function 9 (laws_FnExactChangesTo)

/-! ### spec_l11Ok: function 81 -/
def spec_l11Ok.l0 : Nat → List Int → List Int → Int → Int → List Int → List (List (S37)) → Option (Bool)
 | 0, _, _, _, _, _, _ => none
 | k + 1, x1, x2, x7, x1169000, x1169001, x1169002 => if x7 < (x2.length : Int) then (if 0 ≤ x7 then ((spec_l1In.f (rd x2 x7) 0 26).bind fun t1170 => (if t1170 = true then (spec_l11Ok.l0 k x1 x2 (wrap64 (x7 + 1)) x1169000 x1169001 x1169002) else (some false))) else (none)) else ((spec_StateOk.f k x1169000 x1169001 x1169002 x1).bind fun t1171 => (if t1171 = true then (some (decide ((x2.length : Int) ≤ 27))) else (some false)))
def spec_l11Ok.f (k : Nat) (a0_0 : Int) (l0_1 : List Int) (l0_2 : List (List (S37))) (l1 : List Int) (l2 : List Int) : Option (Bool) := spec_l11Ok.l0 k l1 l2 0 a0_0 l0_1 l0_2
/-! ### spec_l11Breaks: function 82 -/
def spec_l11Breaks.l0 : Nat → List Int → List Int → Int → Option (Bool)
 | 0, _, _, _ => none
 | k + 1, x2, x9, x10 => if x10 < (x2.length : Int) then (if 0 ≤ x10 then (if 0 ≤ (rd x2 x10) then (if (rd x2 x10) < (x9.length : Int) then (if (rd x9 (rd x2 x10)) ≥ 0 then (some true) else (spec_l11Breaks.l0 k x2 x9 (wrap64 (x10 + 1)))) else (none)) else (none)) else (none)) else (some false)
def spec_l11Breaks.f (k : Nat) (a0_0 : Int) (l0_1 : List Int) (l0_2 : List (List (S37))) (l1 : List Int) (l2 : List Int) (a3 : Int) : Option (Bool) := (spec_l8Code.f k l1).bind fun t1177 => ((spec_l8Reach.f k a0_0 l0_1 l0_2 t1177 a3).bind fun t1178 => (spec_l11Breaks.l0 k l2 t1178 0))
end Go.Proofs.Ytkogboechfieeaa.PAll

/- Walks of functions that All reaches, in the form of the print. -/
-- PRINTED
import Derived.Test.YtcafckapdgaogaaCAll0
import Derived.Test.YtcafckapdgaogaaCAll29
import Derived.Test.YtcafckapdgaogaaCAll43
import Derived.Test.YtcafckapdgaogaaCAll45
import Derived.Test.YtcafckapdgaogaaZ
namespace Go.Proofs.Ytcafckapdgaogaa.PAll
open Go.RowKit Go.Proofs.YtcafckapdgaogaaW.PrintWords Go.Proofs.YtcafckapdgaogaaW.PrintLast Go.Proofs.YtcafckapdgaogaaW.PrintMore
attribute [local go_sem] max2_int min2_int max_two min_two max_three min_three max_four min_four
set_option linter.unusedVariables false
set_option linter.unusedSimpArgs false

/-! ### spec_GuardsOf: function 57 -/
def spec_GuardsOf.l0 : Nat → List Int → List Int → List Int → Int → Int → List Int → List (List (S86)) → Option (List Int)
 | 0, _, _, _, _, _, _, _ => none
 | k + 1, x1, x2, x7, x8, x1401000, x1401001, x1401002 => if 0 ≤ x1401000 then (if x8 < (shl .i64 1 x1401000) then ((spec_l11Breaks.f k x1401000 x1401001 x1401002 x1 x2 (wrap64 ((wrap64 ((shl .i64 1 x1401000) - 1)) - x8))).bind fun t1405 => (if t1405 = true then (spec_GuardsOf.l0 k x1 x2 x7 (wrap64 (x8 + 1)) x1401000 x1401001 x1401002) else (if x7.length < 17592186044416 then (spec_GuardsOf.l0 k x1 x2 (x7 ++ [x8]) (wrap64 (x8 + 1)) x1401000 x1401001 x1401002) else (none)))) else ((spec_l1Least.f k x1401000 x7).bind fun t1409 => (some t1409))) else (none)
def spec_GuardsOf.f (k : Nat) (a0_0 : Int) (l0_1 : List Int) (l0_2 : List (List (S86))) (l1 : List Int) (l2 : List Int) : Option (List Int) := (some (([] : List Int) : List Int)).bind fun y1401 => ((spec_l11Ok.f k a0_0 l0_1 l0_2 l1 l2).bind fun t1404 => (if t1404 = true then (spec_GuardsOf.l0 k l1 l2 y1401 0 a0_0 l0_1 l0_2) else (some y1401)))
def spec_GuardsOf.T7 : Bool × List (List Nat × List Nat) := (true, [([], []), ([], []), ([], []), ([], []), ([3], [3]), ([4], [4]), ([5], [5]), ([6], [6]), ([], []), ([7, 8], [7, 8]), ([0, 1, 2, 9], [0, 1, 2, 9]), ([10], [10])])
def spec_GuardsOf.B7 : List Nat := [0, 0, 0, 0, 8, 24, 56, 120, 0, 504, 1023, 2047]
theorem spec_GuardsOf.tab7 : rtab .any (opsOf Try.f57 7) = spec_GuardsOf.T7 := by kernel_rfl
theorem spec_GuardsOf.bits7 : waitsOk spec_GuardsOf.T7.2 spec_GuardsOf.B7 = true := by kernel_rfl
set_option maxHeartbeats 8000000 in
set_option maxRecDepth 100000 in
theorem spec_GuardsOf.calls (k : Nat) (a0_0 : Int) (A0_1 : Option Addr) (c0_1 : Nat) (l0_1 : List Int) (A0_2 : Option Addr) (c0_2 : Nat) (l0_2 : List (List (S86))) (A1 : Option Addr) (c1 : Nat) (l1 : List Int) (A2 : Option Addr) (c2 : Nat) (l2 : List Int) (r : List Int) (w : World) (hr0_1 : Kd.C (Kd.int .i64) w A0_1 l0_1.length l0_1) (hc0_1 : l0_1.length ≤ c0_1) (hr0_2 : Kd.C (Kd.slice 86 k86) w A0_2 l0_2.length l0_2) (hc0_2 : l0_2.length ≤ c0_2) (hr1 : Kd.C (Kd.int .i64) w A1 l1.length l1) (hc1 : l1.length ≤ c1) (hr2 : Kd.C (Kd.int .i64) w A2 l2.length l2) (hc2 : l2.length ≤ c2) (h : spec_GuardsOf.f k a0_0 l0_1 l0_2 l1 l2 = some r) :
  Calls Try.prog 57 #[.agg #[.int .i64 a0_0, .slice A0_1 l0_1.length c0_1, .slice A0_2 l0_2.length c0_2], .slice A1 l1.length c1, .slice A2 l2.length c2] w fun e w' => ∃ v0_ : Value, e = .returned (v0_) ∧ Kd.R (Kd.int .i64) 3 w' w.heap.size (fun _ => True) v0_ r ∧ Below w.heap.size w w' := by
 have hu35 := Try.underlying35
 have HR0_1 := Aside0.mk hr0_1
 have HC0_1 := Aside0.mk hc0_1
 clear hr0_1 hc0_1
 have HR0_2 := Aside0.mk hr0_2
 have HC0_2 := Aside0.mk hc0_2
 clear hr0_2 hc0_2
 have HR1 := Aside0.mk hr1
 have HC1 := Aside0.mk hc1
 clear hr1 hc1
 have HR2 := Aside0.mk hr2
 have HC2 := Aside0.mk hc2
 clear hr2 hc2
 have HB := Aside0.mk (Below.refl w.heap.size w)
 have H := h
 clear h
 unfold spec_GuardsOf.f at H
 obtain ⟨y1401, hy1401⟩ : ∃ y_ : List Int, y_ = (([] : List Int)) := ⟨_, rfl⟩
 replace H : ((spec_l11Ok.f k a0_0 l0_1 l0_2 l1 l2).bind fun t1404 => (if t1404 = true then (spec_GuardsOf.l0 k l1 l2 y1401 0 a0_0 l0_1 l0_2) else (some y1401))) = some r := by (have H2_ := (Option.bind_some _ _).symm.trans H; rw [hy1401]; with_reducible exact H2_)
 have Ny1401 := Aside0.mk hy1401
 clear hy1401
 replace H := Option.bind_eq_some_iff.mp H
 obtain ⟨t1404, A40, H⟩ := H
 have A4 := Aside0.mk A40
 clear A40
 by_cases c5 : t1404 = true
 ·subst c5
  rw [if_pos rfl] at H
  have H' := Aside0.mk H
  clear H
  go_enter Try.func57, Try.ntmps57
  go_wp2_with (first | ((with_reducible refine gate_dst (N := 3) rfl ?_); refine Z.bx #[.int .i64 a0_0, .slice A0_1 l0_1.length c0_1, .slice A0_2 l0_2.length c0_2] 35 HB ?_; clear HB; intro gb1400 w6 BK1400 GE1400 HB hg hb; have GW1400 := GE1400; clear hb hg) | ((with_reducible refine gate_dst (N := 9) rfl ?_); refine Kd.R_lit (Kd.int .i64) _ 3 ?hg (N := 9) ?hd (xs := ([] : List Int)) (inner := []) (ok := fun _ => True) (okp := fun _ => True) ?hr ?hp (fun _ hk => hk) trivial (Below.refl _ _) (Nat.le_refl _) (by simp) ?_; (case hd | hg => rfl); (case hr => (go_simp; done)); (case hp => exact (Reps.none _ _)); intro v1402 w7 ho8 hb hg_ hnew_; clear hg_ hnew_; (rw [← Ny1401.out] at ho8); have HO1403 := Aside0.mk (Kd.R_lower ho8 (below_size (Z.bs HB.out GE1400.out))); replace BK1400 := Z.bb BK1400 hb; replace HB := Z.st (Z.bs HB.out GE1400.out) hb; clear hb ho8; have hcz9 := Z.c3 BK1400.out) | ((with_reducible refine gate_callee (f := 79) rfl ?_); refine goesL_ (some 13) rfl rfl Try.func79 (by kernel_rfl) rfl #[.agg #[.int .i64 a0_0, .slice A0_1 l0_1.length c0_1, .slice A0_2 l0_2.length c0_2], .slice A1 l1.length c1, .slice A2 l2.length c2] rfl Z.ar ?_; (with_reducible refine (spec_l11Ok.calls k a0_0 _ _ l0_1 _ _ l0_2 _ _ l1 _ _ l2 true _ ?q1 ?q2 ?q3 ?q4 ?q5 ?q6 ?q7 ?q8 A4.out).mono ?_); (case q1 => exact Z.cc HR0_1 HB); (case q2 => exact HC0_1.out); (case q3 => exact Z.cc HR0_2 HB); (case q4 => exact HC0_2.out); (case q5 => exact Z.cc HR1 HB); (case q6 => exact HC1.out); (case q7 => exact Z.cc HR2 HB); (case q8 => exact HC2.out); rintro e w10 ⟨rfl, hb⟩; refine ⟨_, rfl, ?_⟩; replace HO1403 := Aside0.mk (Kd.R_below (by (with_reducible skip); exact HO1403.out) hb); replace BK1400 := Z.bb BK1400 hb; replace HB := Z.st (Z.bs HB.out GE1400.out) hb; (try clear hb)))
  go_loopg [7, 8] k (fun kq v7 v8 w' => ∃ (x7_1 : List Int) (x8_1 : Int), v8 = .int .i64 x8_1 ∧ Aside0 (spec_GuardsOf.l0 kq l1 l2 x7_1 x8_1 a0_0 l0_1 l0_2 = some r) ∧ Aside0 (kq ≤ k) ∧ Aside0 (Kd.R (Kd.int .i64) 3 w' w.heap.size (fun _ => True) v7 x7_1) ∧ Aside0 (w'.heap[gb1400]? = some (.cells #[.int .i64 a0_0, (.slice A0_1 l0_1.length c0_1), (.slice A0_2 l0_2.length c0_2)] 35 (0, 0))) ∧ Aside0 (Below w.heap.size w w'))
  case atStart => exact ⟨(y1401), (0), (by rfl), H', ⟨Nat.le_refl _⟩, ⟨by (with_reducible skip); exact HO1403.out⟩, ⟨by (with_reducible skip); exact BK1400.out⟩, ⟨Z.bs HB.out GE1400.out⟩⟩
  case round =>
   clear H'
   obtain ⟨x7_1, x8_1, rfl, HA, HK1, HO_7, BK1400, HB⟩ := hrel
   cases gk with
   | zero => exact absurd HA.out (by simp [spec_GuardsOf.l0])
   | succ k1 =>
    have H := HA.out
    clear HA
    simp only [spec_GuardsOf.l0] at H
    obtain ⟨c11, H⟩ := Z.ifp H
    have c11b0 := eq_true c11
    have c11b1 : decide (0 ≤ a0_0) = true := decide_eq_true c11
    clear c11
    obtain ⟨ji12, hji12⟩ : ∃ j_ : Int, (shl .i64 1 a0_0) = j_ := ⟨_, rfl⟩
    replace H : (if x8_1 < (ji12) then ((spec_l11Breaks.f k1 a0_0 l0_1 l0_2 l1 l2 (wrap64 ((wrap64 ((ji12) - 1)) - x8_1))).bind fun t1405 => (if t1405 = true then (spec_GuardsOf.l0 k1 l1 l2 x7_1 (wrap64 (x8_1 + 1)) a0_0 l0_1 l0_2) else (if x7_1.length < 17592186044416 then (spec_GuardsOf.l0 k1 l1 l2 (x7_1 ++ [x8_1]) (wrap64 (x8_1 + 1)) a0_0 l0_1 l0_2) else (none)))) else ((spec_l1Least.f k1 a0_0 x7_1).bind fun t1409 => (some t1409))) = some r := by (rw [hji12] at H; exact H)
    have hji12_ : (IntKind.i64.wrap (1 * 2 ^ min a0_0.toNat 64)) = ji12 := hji12
    have hji12z : a0_0 ≤ 64 → (IntKind.i64.wrap (1 * 2 ^ a0_0.toNat)) = ji12 := shl_small hji12
    have hji12u : (IntKind.i64.wrap (2 ^ min a0_0.toNat 64)) = ji12 := by have h_ := hji12_; rw [Int.one_mul] at h_; exact h_
    have hji12v : a0_0 ≤ 64 → (IntKind.i64.wrap (2 ^ a0_0.toNat)) = ji12 := fun hle_ => by have h_ := hji12z hle_; rw [Int.one_mul] at h_; exact h_
    have hji12y : (wrap64 (1 * 2 ^ min a0_0.toNat 64)) = ji12 := (i64_w _).symm.trans hji12_
    have hji12x : a0_0 ≤ 64 → (wrap64 (1 * 2 ^ a0_0.toNat)) = ji12 := fun h_ => (i64_w _).symm.trans (hji12z h_)
    by_cases c13 : x8_1 < (ji12)
    ·rw [if_pos c13] at H
     have c13b0 := decide_eq_true c13
     clear c13
     have c14b0 := eq_true (Z.od : 0 ≤ a0_0)
     replace H := Option.bind_eq_some_iff.mp H
     obtain ⟨t1405, A160, H⟩ := H
     have A16 := Aside0.mk A160
     clear A160
     by_cases c17 : t1405 = true
     ·subst c17
      rw [if_pos rfl] at H
      have H' := Aside0.mk H
      clear H
      have hcz18 := Z.c3 BK1400.out
      try go_wp2
      replace HO_7 := Aside0.mk (Kd.R_drew HO_7.out)
      replace BK1400 := Aside0.mk (blk_drew BK1400.out)
      replace HB := Aside0.mk (below_drew1 HB.out)
      refine start_ (n := 12) (S := fun w' => w'.cell? ⟨gb1400, 0, none⟩ = some (.int .i64 a0_0) ∧ w'.cell? ⟨gb1400, 1, none⟩ = some (.slice A0_1 l0_1.length c0_1) ∧ w'.cell? ⟨gb1400, 2, none⟩ = some (.slice A0_2 l0_2.length c0_2)) (ds := []) #[false, false, false, false, false, false, false, false, false, false, false, false] (by kernel_rfl) rfl rfl ⟨(blk_cell BK1400.out 0).trans rfl, (blk_cell BK1400.out 1).trans rfl, (blk_cell BK1400.out 2).trans rfl⟩ (fun hHeld => ?_); refine with_tabW spec_GuardsOf.tab7 spec_GuardsOf.bits7 (fun HT_ HW_ => ?_)
      generalize wr.drew = w19 at HO_7 BK1400 HB hHeld ⊢
      refine Z.pv 1 25 12 2 HT_.out ?_
      refine Z.pv 2 26 12 6 HT_.out ?_
      refine Z.pv 3 27 12 14 HT_.out ?_
      refine Z.pv 4 28 12 30 HT_.out ?_
      refine Z.pv 8 32 12 286 HT_.out ?_
      refine Z.t3 0 24 12 287 HT_.out HW_.out hHeld ?_
      refine Z.t3 5 29 12 319 HT_.out HW_.out hHeld ?_
      refine Z.pv 6 30 12 383 HT_.out ?_
      refine Z.pv 7 31 12 511 HT_.out ?_
      refine Z.pv 9 33 12 1023 HT_.out ?_
      refine one_ (i := 10) (N := some 34) (Z.mb 12 2047) rfl rfl (one_of HT_.out (by kernel_rfl)) (by decide) (fun K hK => ?_)
      refine goes_ Try.func93 (by kernel_rfl) rfl #[.agg #[.int .i64 a0_0, .slice A0_1 l0_1.length c0_1, .slice A0_2 l0_2.length c0_2], .slice A1 l1.length c1, .slice A2 l2.length c2, .int .i64 (wrap64 ((wrap64 ((ji12) - 1)) - x8_1))] (by rfl) rfl rfl (by (try simp only [List.map_toArray, List.map_cons, List.map_nil]); rfl) ?_
      with_reducible refine (spec_l11Breaks.calls k1 a0_0 _ _ l0_1 _ _ l0_2 _ _ l1 _ _ l2 (wrap64 ((wrap64 ((ji12) - 1)) - x8_1)) true _ ?q1 ?q2 ?q3 ?q4 ?q5 ?q6 ?q7 ?q8 A16.out).mono ?_
      (case q1 => exact Z.cc HR0_1 HB)
      (case q2 => exact HC0_1.out)
      (case q3 => exact Z.cc HR0_2 HB)
      (case q4 => exact HC0_2.out)
      (case q5 => exact Z.cc HR1 HB)
      (case q6 => exact HC1.out)
      (case q7 => exact Z.cc HR2 HB)
      (case q8 => exact HC2.out)
      rintro e w20 ⟨rfl, hb⟩
      refine ⟨_, rfl, ?_⟩
      replace HO_7 := Aside0.mk (Kd.R_below (by (with_reducible skip); exact HO_7.out) hb)
      replace BK1400 := Z.bb BK1400 hb
      replace HB := Z.st (Z.bs HB.out GE1400.out) hb
      (try clear hb)
      refine hK.out _ _ ⟨(blk_cell BK1400.out 0).trans rfl, (blk_cell BK1400.out 1).trans rfl, (blk_cell BK1400.out 2).trans rfl⟩ (fun hHeld => ?_)
      clear hK K
      refine Z.nm ?_
      refine Z.pv 11 35 12 4095 HT_.out ?_
      refine done_ (done_of HT_.out (by kernel_rfl)) ?_
      try go_wp2
      go_roundg k1
      case measure => have := HK1.out; omega
      case rel => exact ⟨(x7_1), (wrap64 (x8_1 + 1)), (by rfl), H', ⟨by have := HK1.out; omega⟩, ⟨by (with_reducible skip); exact HO_7.out⟩, ⟨by (with_reducible skip); exact BK1400.out⟩, ⟨Z.bs HB.out GE1400.out⟩⟩
     ·replace c17 := Bool.eq_false_iff.mpr c17
      subst c17
      rw [if_neg (show ¬ (false = true) by decide)] at H
      obtain ⟨c21, H⟩ := Z.ifp H
      have LMc21 := Aside0.mk c21
      clear c21
      obtain ⟨y1406, hy1406⟩ : ∃ y_ : List Int, y_ = (x7_1 ++ [x8_1]) := ⟨_, rfl⟩
      replace H : (spec_GuardsOf.l0 k1 l1 l2 y1406 (wrap64 (x8_1 + 1)) a0_0 l0_1 l0_2) = some r := by (rw [hy1406]; with_reducible exact H)
      have Ny1406 := Aside0.mk hy1406
      clear hy1406
      have H' := Aside0.mk H
      clear H
      have hcz22 := Z.c3 BK1400.out
      try go_wp2
      replace HO_7 := Aside0.mk (Kd.R_drew HO_7.out)
      replace BK1400 := Aside0.mk (blk_drew BK1400.out)
      replace HB := Aside0.mk (below_drew1 HB.out)
      refine start_ (n := 12) (S := fun w' => w'.cell? ⟨gb1400, 0, none⟩ = some (.int .i64 a0_0) ∧ w'.cell? ⟨gb1400, 1, none⟩ = some (.slice A0_1 l0_1.length c0_1) ∧ w'.cell? ⟨gb1400, 2, none⟩ = some (.slice A0_2 l0_2.length c0_2)) (ds := []) #[false, false, false, false, false, false, false, false, false, false, false, false] (by kernel_rfl) rfl rfl ⟨(blk_cell BK1400.out 0).trans rfl, (blk_cell BK1400.out 1).trans rfl, (blk_cell BK1400.out 2).trans rfl⟩ (fun hHeld => ?_); refine with_tabW spec_GuardsOf.tab7 spec_GuardsOf.bits7 (fun HT_ HW_ => ?_)
      generalize wr.drew = w23 at HO_7 BK1400 HB hHeld ⊢
      refine Z.pv 1 25 12 2 HT_.out ?_
      refine Z.pv 2 26 12 6 HT_.out ?_
      refine Z.pv 3 27 12 14 HT_.out ?_
      refine Z.pv 4 28 12 30 HT_.out ?_
      refine Z.pv 8 32 12 286 HT_.out ?_
      refine Z.t3 0 24 12 287 HT_.out HW_.out hHeld ?_
      refine Z.t3 5 29 12 319 HT_.out HW_.out hHeld ?_
      refine Z.pv 6 30 12 383 HT_.out ?_
      refine Z.pv 7 31 12 511 HT_.out ?_
      refine Z.pv 9 33 12 1023 HT_.out ?_
      refine one_ (i := 10) (N := some 34) (Z.mb 12 2047) rfl rfl (one_of HT_.out (by kernel_rfl)) (by decide) (fun K hK => ?_)
      refine goes_ Try.func93 (by kernel_rfl) rfl #[.agg #[.int .i64 a0_0, .slice A0_1 l0_1.length c0_1, .slice A0_2 l0_2.length c0_2], .slice A1 l1.length c1, .slice A2 l2.length c2, .int .i64 (wrap64 ((wrap64 ((ji12) - 1)) - x8_1))] (by rfl) rfl rfl (by (try simp only [List.map_toArray, List.map_cons, List.map_nil]); rfl) ?_
      with_reducible refine (spec_l11Breaks.calls k1 a0_0 _ _ l0_1 _ _ l0_2 _ _ l1 _ _ l2 (wrap64 ((wrap64 ((ji12) - 1)) - x8_1)) false _ ?q1 ?q2 ?q3 ?q4 ?q5 ?q6 ?q7 ?q8 A16.out).mono ?_
      (case q1 => exact Z.cc HR0_1 HB)
      (case q2 => exact HC0_1.out)
      (case q3 => exact Z.cc HR0_2 HB)
      (case q4 => exact HC0_2.out)
      (case q5 => exact Z.cc HR1 HB)
      (case q6 => exact HC1.out)
      (case q7 => exact Z.cc HR2 HB)
      (case q8 => exact HC2.out)
      rintro e w24 ⟨rfl, hb⟩
      refine ⟨_, rfl, ?_⟩
      replace HO_7 := Aside0.mk (Kd.R_below (by (with_reducible skip); exact HO_7.out) hb)
      replace BK1400 := Z.bb BK1400 hb
      replace HB := Z.st (Z.bs HB.out GE1400.out) hb
      (try clear hb)
      refine hK.out _ _ ⟨(blk_cell BK1400.out 0).trans rfl, (blk_cell BK1400.out 1).trans rfl, (blk_cell BK1400.out 2).trans rfl⟩ (fun hHeld => ?_)
      clear hK K
      refine Z.nm ?_
      refine Z.pv 11 35 12 4095 HT_.out ?_
      refine done_ (done_of HT_.out (by kernel_rfl)) ?_
      try go_wp2_with (((with_reducible refine gate_builtin (b := .append) (xs := #[.tmp 36, .tmp 38]) rfl ?_); at_builtin; refine Kd.R_append (Kd.int .i64) (w0 := w) w.heap.size rfl (.tmp 36) (.tmp 38) 22 3 (.int .i64 0) 8 rfl Try.underlying22 info3 rfl (by decide) (by omega) u7 x7_1 x8_1 [.int .i64 x8_1] (fun _ => True) (fun _ => False) rfl rfl ?aP (fun _ hk => hk.elim) ?aF ?aO ?aB ?aS ?aL ?_; (case aP => exact rfl); (case aB => exact (Z.bs HB.out GE1400.out)); (case aF => exact (fun _ _ => trivial)); (case aO => exact (by (with_reducible skip); exact HO_7.out)); (case aS => exact (below_size (Z.bs HB.out GE1400.out))); (case aL => have := LMc21.out; omega); intro v1407 w25 ho hb hg hat; rw [← Ny1406.out] at ho; replace BK1400 := Aside0.mk (blk_grown (g := gb1400) (o := .cells #[.int .i64 a0_0, .slice A0_1 l0_1.length c0_1, .slice A0_2 l0_2.length c0_2] 35 (0, 0)) (Z.bk BK1400.out) hg (Kd.R_ne HO_7.out BK1400.out (by decide))); replace HB := Aside0.mk (hb); have HO1408 := Aside0.mk (ho); clear HO_7; clear ho hb hg hat))
      go_roundg k1
      case measure => have := HK1.out; omega
      case rel => exact ⟨(y1406), (wrap64 (x8_1 + 1)), (by rfl), H', ⟨by have := HK1.out; omega⟩, ⟨by (with_reducible skip); exact HO1408.out⟩, ⟨by (with_reducible skip); exact BK1400.out⟩, ⟨Z.bs HB.out GE1400.out⟩⟩
    ·rw [if_neg c13] at H
     have c13b0 := decide_eq_false c13
     clear c13
     replace H := Option.bind_eq_some_iff.mp H
     obtain ⟨t1409, A260, H⟩ := H
     have A26 := Aside0.mk A260
     clear A260
     obtain rfl := Option.some.inj H
     have hcz27 := Z.c3 BK1400.out
     obtain ⟨Ao28, co28, eo28⟩ := Kd.R_slice HO_7.out
     subst eo28
     go_wp2_with (((with_reducible refine gate_callee (f := 96) rfl ?_); refine goesL_ (some 44) rfl rfl Try.func96 (by kernel_rfl) rfl #[.int .i64 a0_0, .slice Ao28 x7_1.length co28] rfl Z.ar ?_; (with_reducible refine (spec_l1Least.calls k1 a0_0 _ _ x7_1 t1409 _ ?q1 ?q2 A26.out).mono ?_); (case q1 => repeat (exact (Kd.R_reads' HO_7.out).2.2)); (case q2 => exact (Kd.R_reads' HO_7.out).2.1); rintro e w29 ⟨v1410, rfl, ho0, hb⟩; refine ⟨_, rfl, ?_⟩; have HO1411 := Aside0.mk (Kd.R_lower (Kd.R_new' ho0 (Kd.R_lt (by (with_reducible skip); exact HO_7.out))) (below_size (Z.bs HB.out GE1400.out))); replace HO_7 := Aside0.mk (Kd.R_elder' (by (with_reducible skip); exact HO_7.out) (Kd.R_base ho0) hb); replace BK1400 := Z.bb BK1400 hb; replace HB := Z.st (Z.bs HB.out GE1400.out) hb; (try clear hb); (try clear ho0)))
     go_ret
     exact ⟨_, by rfl, by (with_reducible skip); exact Kd.R_mono HO1411.out (fun _ hk => trivial), Z.bs HB.out GE1400.out⟩
 ·replace c5 := Bool.eq_false_iff.mpr c5
  subst c5
  rw [if_neg (show ¬ (false = true) by decide)] at H
  obtain rfl := Option.some.inj H
  go_enter Try.func57, Try.ntmps57
  go_wp2_with (first | ((with_reducible refine gate_dst (N := 3) rfl ?_); refine Z.bx #[.int .i64 a0_0, .slice A0_1 l0_1.length c0_1, .slice A0_2 l0_2.length c0_2] 35 HB ?_; clear HB; intro gb1400 w30 BK1400 GE1400 HB hg hb; have GW1400 := GE1400; clear hb hg) | ((with_reducible refine gate_dst (N := 9) rfl ?_); refine Kd.R_lit (Kd.int .i64) _ 3 ?hg (N := 9) ?hd (xs := ([] : List Int)) (inner := []) (ok := fun _ => True) (okp := fun _ => True) ?hr ?hp (fun _ hk => hk) trivial (Below.refl _ _) (Nat.le_refl _) (by simp) ?_; (case hd | hg => rfl); (case hr => (go_simp; done)); (case hp => exact (Reps.none _ _)); intro v1402 w31 ho32 hb hg_ hnew_; clear hg_ hnew_; (rw [← Ny1401.out] at ho32); have HO1403 := Aside0.mk (Kd.R_lower ho32 (below_size (Z.bs HB.out GE1400.out))); replace BK1400 := Z.bb BK1400 hb; replace HB := Z.st (Z.bs HB.out GE1400.out) hb; clear hb ho32; have hcz33 := Z.c3 BK1400.out) | ((with_reducible refine gate_callee (f := 79) rfl ?_); refine goesL_ (some 13) rfl rfl Try.func79 (by kernel_rfl) rfl #[.agg #[.int .i64 a0_0, .slice A0_1 l0_1.length c0_1, .slice A0_2 l0_2.length c0_2], .slice A1 l1.length c1, .slice A2 l2.length c2] rfl Z.ar ?_; (with_reducible refine (spec_l11Ok.calls k a0_0 _ _ l0_1 _ _ l0_2 _ _ l1 _ _ l2 false _ ?q1 ?q2 ?q3 ?q4 ?q5 ?q6 ?q7 ?q8 A4.out).mono ?_); (case q1 => exact Z.cc HR0_1 HB); (case q2 => exact HC0_1.out); (case q3 => exact Z.cc HR0_2 HB); (case q4 => exact HC0_2.out); (case q5 => exact Z.cc HR1 HB); (case q6 => exact HC1.out); (case q7 => exact Z.cc HR2 HB); (case q8 => exact HC2.out); rintro e w34 ⟨rfl, hb⟩; refine ⟨_, rfl, ?_⟩; replace HO1403 := Aside0.mk (Kd.R_below (by (with_reducible skip); exact HO1403.out) hb); replace BK1400 := Z.bb BK1400 hb; replace HB := Z.st (Z.bs HB.out GE1400.out) hb; (try clear hb)))
  go_ret
  exact ⟨_, by rfl, by (with_reducible skip); exact HO1403.out, Z.bs HB.out GE1400.out⟩

-- NOT PRINTED: function 58 (impl_GuardsOf)

-- NOT PRINTED: function 16 (laws_FnExactGuardsOf)

end Go.Proofs.Ytcafckapdgaogaa.PAll

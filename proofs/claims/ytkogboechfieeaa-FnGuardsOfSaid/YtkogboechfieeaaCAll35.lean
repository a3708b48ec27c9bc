/- Walks of functions that laws of this seat reach, in the form of the print. -/
import Derived.Test.YtkogboechfieeaaCAll30
import Derived.Test.YtkogboechfieeaaCAll33
-- PRINTED
namespace Go.Proofs.Ytkogboechfieeaa.PAll
open Go.RowKit Go.Proofs.YtkogboechfieeaaW.PrintWords Go.Proofs.YtkogboechfieeaaW.PrintLast Go.Proofs.YtkogboechfieeaaW.PrintMore
attribute [local go_sem] max2_int min2_int max_two min_two max_three min_three max_four min_four
set_option linter.unusedVariables false
set_option linter.unusedSimpArgs false

/-! ### spec_BreakersOf: function 50 -/
def spec_BreakersOf.l0 : Nat → List Int → List Int → List Int → Int → Int → List Int → List (List (S37)) → Option (List Int)
 | 0, _, _, _, _, _, _, _ => none
 | k + 1, x1, x2, x7, x8, x45, x51, x53 => if 0 ≤ x45 then (if x8 < (shl .i64 1 x45) then ((spec_l11Breaks.f k x45 x51 x53 x1 x2 x8).bind fun t57 => (if t57 = true then (if x7.length < 17592186044416 then (spec_BreakersOf.l0 k x1 x2 (x7 ++ [x8]) (wrap64 (x8 + 1)) x45 x51 x53) else (none)) else (spec_BreakersOf.l0 k x1 x2 x7 (wrap64 (x8 + 1)) x45 x51 x53))) else ((spec_l1Least.f k x45 x7).bind fun t58 => (some t58))) else (none)
def spec_BreakersOf.f (k : Nat) (a0_0 : Int) (l0_1 : List Int) (l0_2 : List (List (S37))) (l1 : List Int) (l2 : List Int) : Option (List Int) := (some (([] : List Int) : List Int)).bind fun y41 => ((spec_l11Ok.f k a0_0 l0_1 l0_2 l1 l2).bind fun t59 => (if t59 = true then (spec_BreakersOf.l0 k l1 l2 y41 0 a0_0 l0_1 l0_2) else (some y41)))
-- NOT PRINTED: function 21 (impl_BreakersOf)

-- NOT PRINTED: function 15 (laws_FnExactBreakersOf)

/-! ### spec_GuardsOf: function 52 -/
def spec_GuardsOf.l0 : Nat → List Int → List Int → List Int → Int → Int → List Int → List (List (S37)) → Option (List Int)
 | 0, _, _, _, _, _, _, _ => none
 | k + 1, x1, x2, x7, x8, x42, x54, x55 => if 0 ≤ x42 then (if x8 < (shl .i64 1 x42) then ((spec_l11Breaks.f k x42 x54 x55 x1 x2 (wrap64 ((wrap64 ((shl .i64 1 x42) - 1)) - x8))).bind fun t60 => (if t60 = true then (spec_GuardsOf.l0 k x1 x2 x7 (wrap64 (x8 + 1)) x42 x54 x55) else (if x7.length < 17592186044416 then (spec_GuardsOf.l0 k x1 x2 (x7 ++ [x8]) (wrap64 (x8 + 1)) x42 x54 x55) else (none)))) else ((spec_l1Least.f k x42 x7).bind fun t61 => (some t61))) else (none)
def spec_GuardsOf.f (k : Nat) (a0_0 : Int) (l0_1 : List Int) (l0_2 : List (List (S37))) (l1 : List Int) (l2 : List Int) : Option (List Int) := (some (([] : List Int) : List Int)).bind fun y43 => ((spec_l11Ok.f k a0_0 l0_1 l0_2 l1 l2).bind fun t62 => (if t62 = true then (spec_GuardsOf.l0 k l1 l2 y43 0 a0_0 l0_1 l0_2) else (some y43)))
def spec_GuardsOf.T7 : Bool × List (List Nat × List Nat) := (true, [([], []), ([], []), ([], []), ([], []), ([3], [3]), ([4], [4]), ([5], [5]), ([6], [6]), ([], []), ([7, 8], [7, 8]), ([0, 1, 2, 9], [0, 1, 2, 9]), ([10], [10])])
def spec_GuardsOf.B7 : List Nat := [0, 0, 0, 0, 8, 24, 56, 120, 0, 504, 1023, 2047]
theorem spec_GuardsOf.tab7 : rtab .any (opsOf Try.f52 7) = spec_GuardsOf.T7 := by kernel_rfl
theorem spec_GuardsOf.bits7 : waitsOk spec_GuardsOf.T7.2 spec_GuardsOf.B7 = true := by kernel_rfl
set_option maxHeartbeats 8000000 in
set_option maxRecDepth 100000 in
theorem spec_GuardsOf.calls (k : Nat) (a0_0 : Int) (A0_1 : Option Addr) (c0_1 : Nat) (l0_1 : List Int) (A0_2 : Option Addr) (c0_2 : Nat) (l0_2 : List (List (S37))) (A1 : Option Addr) (c1 : Nat) (l1 : List Int) (A2 : Option Addr) (c2 : Nat) (l2 : List Int) (r : List Int) (w : World) (hr0_1 : Kd.C (Kd.int .i64) w A0_1 l0_1.length l0_1) (hc0_1 : l0_1.length ≤ c0_1) (hr0_2 : Kd.C (Kd.slice 37 k37) w A0_2 l0_2.length l0_2) (hc0_2 : l0_2.length ≤ c0_2) (hr1 : Kd.C (Kd.int .i64) w A1 l1.length l1) (hc1 : l1.length ≤ c1) (hr2 : Kd.C (Kd.int .i64) w A2 l2.length l2) (hc2 : l2.length ≤ c2) (h : spec_GuardsOf.f k a0_0 l0_1 l0_2 l1 l2 = some r) :
  Calls Try.prog 52 #[.agg #[.int .i64 a0_0, .slice A0_1 l0_1.length c0_1, .slice A0_2 l0_2.length c0_2], .slice A1 l1.length c1, .slice A2 l2.length c2] w fun e w' => ∃ v0_ : Value, e = .returned (v0_) ∧ Kd.R (Kd.int .i64) 3 w' w.heap.size (fun _ => True) v0_ r ∧ Below w.heap.size w w' := by
 have hu35 := Try.underlying28
 have HR0_1 := Z.k hr0_1
 have HC0_1 := Z.k hc0_1
 clear hr0_1 hc0_1
 have HR0_2 := Z.k hr0_2
 have HC0_2 := Z.k hc0_2
 clear hr0_2 hc0_2
 have HR1 := Z.k hr1
 have HC1 := Z.k hc1
 clear hr1 hc1
 have HR2 := Z.k hr2
 have HC2 := Z.k hc2
 clear hr2 hc2
 have HB := Z.k (Below.refl w.heap.size w)
 have H := h
 clear h
 unfold spec_GuardsOf.f at H
 obtain ⟨y43, hy43⟩ : ∃ y_ : List Int, y_ = (([] : List Int)) := ⟨_, rfl⟩
 replace H : ((spec_l11Ok.f k a0_0 l0_1 l0_2 l1 l2).bind fun t62 => (if t62 = true then (spec_GuardsOf.l0 k l1 l2 y43 0 a0_0 l0_1 l0_2) else (some y43))) = some r := by (have H2_ := (Option.bind_some _ _).symm.trans H; rw [hy43]; with_reducible exact H2_)
 have Ny43 := Z.k hy43
 clear hy43
 revert H; refine Z.bd ?_; rintro t62 A4 H
 by_cases c5 : t62 = true
 rotate_left
 ·replace c5 := Bool.eq_false_iff.mpr c5
  subst c5
  rw [if_neg (show ¬ (false = true) by decide)] at H
  obtain rfl := Option.some.inj H
  go_enter Try.func52, Try.ntmps52
  go_wp2_with (first | ((with_reducible refine gate_dst (N := 3) rfl ?_); refine Z.bx #[.int .i64 a0_0, .slice A0_1 l0_1.length c0_1, .slice A0_2 l0_2.length c0_2] 28 HB ?_; clear HB; intro gb39 w30 BK39 GE39 HB hg hb; have GW39 := GE39; clear hb hg) | ((with_reducible refine gate_dst (N := 9) rfl ?_); refine Kd.R_lit (Kd.int .i64) _ 3 ?hg (N := 9) ?hd (xs := ([] : List Int)) (inner := []) (ok := fun _ => True) (okp := fun _ => True) ?hr ?hp (fun _ hk => hk) trivial (Below.refl _ _) (Nat.le_refl _) (by simp) ?_; (case hd | hg => rfl); (case hr => (go_simp; done)); (case hp => exact (Reps.none _ _)); intro v67 w31 ho32 hb hg_ hnew_; clear hg_ hnew_; (rw [← Ny43.out] at ho32); have HO49 := Z.k (Kd.R_lower ho32 (below_size (Z.bs HB.out GE39.out))); replace BK39 := Z.bb BK39 hb; replace HB := Z.st (Z.bs HB.out GE39.out) hb; clear hb ho32; have hcz33 := Z.c3 BK39.out) | ((with_reducible refine gate_callee (f := 81) rfl ?_); refine goesL_ (some 13) rfl rfl Try.func81 (by kernel_rfl) rfl #[.agg #[.int .i64 a0_0, .slice A0_1 l0_1.length c0_1, .slice A0_2 l0_2.length c0_2], .slice A1 l1.length c1, .slice A2 l2.length c2] rfl Z.ar ?_; (with_reducible refine (spec_l11Ok.calls k a0_0 _ _ l0_1 _ _ l0_2 _ _ l1 _ _ l2 false _ ?q1 ?q2 ?q3 ?q4 ?q5 ?q6 ?q7 ?q8 A4.out).mono ?_); (case q1 => exact Z.cc HR0_1 HB); (case q2 => exact HC0_1.out); (case q3 => exact Z.cc HR0_2 HB); (case q4 => exact HC0_2.out); (case q5 => exact Z.cc HR1 HB); (case q6 => exact HC1.out); (case q7 => exact Z.cc HR2 HB); (case q8 => exact HC2.out); rintro e w34 ⟨rfl, hb⟩; refine ⟨_, rfl, ?_⟩; replace HO49 := Z.rb HO49 hb; replace BK39 := Z.bb BK39 hb; replace HB := Z.st (Z.bs HB.out GE39.out) hb; (try clear hb)))
  go_ret
  exact ⟨_, by rfl, by (with_reducible skip); exact HO49.out, Z.bs HB.out GE39.out⟩

 subst c5
 rw [if_pos rfl] at H
 have H' := Z.k H
 clear H
 go_enter Try.func52, Try.ntmps52
 go_wp2_with (first | ((with_reducible refine gate_dst (N := 3) rfl ?_); refine Z.bx #[.int .i64 a0_0, .slice A0_1 l0_1.length c0_1, .slice A0_2 l0_2.length c0_2] 28 HB ?_; clear HB; intro gb39 w6 BK39 GE39 HB hg hb; have GW39 := GE39; clear hb hg) | ((with_reducible refine gate_dst (N := 9) rfl ?_); refine Kd.R_lit (Kd.int .i64) _ 3 ?hg (N := 9) ?hd (xs := ([] : List Int)) (inner := []) (ok := fun _ => True) (okp := fun _ => True) ?hr ?hp (fun _ hk => hk) trivial (Below.refl _ _) (Nat.le_refl _) (by simp) ?_; (case hd | hg => rfl); (case hr => (go_simp; done)); (case hp => exact (Reps.none _ _)); intro v67 w7 ho8 hb hg_ hnew_; clear hg_ hnew_; (rw [← Ny43.out] at ho8); have HO49 := Z.k (Kd.R_lower ho8 (below_size (Z.bs HB.out GE39.out))); replace BK39 := Z.bb BK39 hb; replace HB := Z.st (Z.bs HB.out GE39.out) hb; clear hb ho8; have hcz9 := Z.c3 BK39.out) | ((with_reducible refine gate_callee (f := 81) rfl ?_); refine goesL_ (some 13) rfl rfl Try.func81 (by kernel_rfl) rfl #[.agg #[.int .i64 a0_0, .slice A0_1 l0_1.length c0_1, .slice A0_2 l0_2.length c0_2], .slice A1 l1.length c1, .slice A2 l2.length c2] rfl Z.ar ?_; (with_reducible refine (spec_l11Ok.calls k a0_0 _ _ l0_1 _ _ l0_2 _ _ l1 _ _ l2 true _ ?q1 ?q2 ?q3 ?q4 ?q5 ?q6 ?q7 ?q8 A4.out).mono ?_); (case q1 => exact Z.cc HR0_1 HB); (case q2 => exact HC0_1.out); (case q3 => exact Z.cc HR0_2 HB); (case q4 => exact HC0_2.out); (case q5 => exact Z.cc HR1 HB); (case q6 => exact HC1.out); (case q7 => exact Z.cc HR2 HB); (case q8 => exact HC2.out); rintro e w10 ⟨rfl, hb⟩; refine ⟨_, rfl, ?_⟩; replace HO49 := Z.rb HO49 hb; replace BK39 := Z.bb BK39 hb; replace HB := Z.st (Z.bs HB.out GE39.out) hb; (try clear hb)))
 go_loopg [7, 8] k (fun kq v7 v8 w' => ∃ (x7_1 : List Int) (x8_1 : Int), v8 = .int .i64 x8_1 ∧ Aside0 (spec_GuardsOf.l0 kq l1 l2 x7_1 x8_1 a0_0 l0_1 l0_2 = some r) ∧ Aside0 (kq ≤ k) ∧ Aside0 (Kd.R (Kd.int .i64) 3 w' w.heap.size (fun _ => True) v7 x7_1) ∧ Aside0 (w'.heap[gb39]? = some (.cells #[.int .i64 a0_0, (.slice A0_1 l0_1.length c0_1), (.slice A0_2 l0_2.length c0_2)] 28 (0, 0))) ∧ Aside0 (Below w.heap.size w w'))
 case atStart => exact ⟨(y43), (0), (by rfl), H', ⟨Nat.le_refl _⟩, ⟨by (with_reducible skip); exact HO49.out⟩, ⟨by (with_reducible skip); exact BK39.out⟩, ⟨Z.bs HB.out GE39.out⟩⟩
 clear H'
 obtain ⟨x7_1, x8_1, rfl, HA, HK1, HO_7, BK39, HB⟩ := hrel
 cases gk with
 | zero => exact absurd HA.out (by simp [spec_GuardsOf.l0])
 | succ k1 =>
  have H := HA.out
  clear HA
  simp only [spec_GuardsOf.l0] at H
  obtain ⟨c11, H⟩ := Z.ifp H
  have c11b0 := eq_true c11
  have c11b1 : decide (0 ≤ a0_0) = true := decide_eq_true c11
  clear c11
  obtain ⟨ji12, hji12⟩ : ∃ j_ : Int, (shl .i64 1 a0_0) = j_ := ⟨_, rfl⟩
  replace H : (if x8_1 < (ji12) then ((spec_l11Breaks.f k1 a0_0 l0_1 l0_2 l1 l2 (wrap64 ((wrap64 ((ji12) - 1)) - x8_1))).bind fun t60 => (if t60 = true then (spec_GuardsOf.l0 k1 l1 l2 x7_1 (wrap64 (x8_1 + 1)) a0_0 l0_1 l0_2) else (if x7_1.length < 17592186044416 then (spec_GuardsOf.l0 k1 l1 l2 (x7_1 ++ [x8_1]) (wrap64 (x8_1 + 1)) a0_0 l0_1 l0_2) else (none)))) else ((spec_l1Least.f k1 a0_0 x7_1).bind fun t61 => (some t61))) = some r := by (rw [hji12] at H; exact H)
  have hji12_ : (IntKind.i64.wrap (1 * 2 ^ min a0_0.toNat 64)) = ji12 := hji12
  have hji12z : a0_0 ≤ 64 → (IntKind.i64.wrap (1 * 2 ^ a0_0.toNat)) = ji12 := shl_small hji12
  have hji12u : (IntKind.i64.wrap (2 ^ min a0_0.toNat 64)) = ji12 := by have h_ := hji12_; rw [Int.one_mul] at h_; exact h_
  have hji12v : a0_0 ≤ 64 → (IntKind.i64.wrap (2 ^ a0_0.toNat)) = ji12 := fun hle_ => by have h_ := hji12z hle_; rw [Int.one_mul] at h_; exact h_
  have hji12y : (wrap64 (1 * 2 ^ min a0_0.toNat 64)) = ji12 := (i64_w _).symm.trans hji12_
  have hji12x : a0_0 ≤ 64 → (wrap64 (1 * 2 ^ a0_0.toNat)) = ji12 := fun h_ => (i64_w _).symm.trans (hji12z h_)
  revert H; refine Z.fm ?_ ?_ <;> intro c13b0 H
  ·revert H; refine Z.bd ?_; rintro t61 A26 H
   obtain rfl := Option.some.inj H
   have hcz27 := Z.c3 BK39.out
   obtain ⟨Ao28, co28, eo28⟩ := Kd.R_slice HO_7.out
   subst eo28
   go_wp2_with (((with_reducible refine gate_callee (f := 86) rfl ?_); refine goesL_ (some 44) rfl rfl Try.func86 (by kernel_rfl) rfl #[.int .i64 a0_0, .slice Ao28 x7_1.length co28] rfl Z.ar ?_; (with_reducible refine (spec_l1Least.calls k1 a0_0 _ _ x7_1 t61 _ ?q1 ?q2 A26.out).mono ?_); (case q1 => repeat (exact (Kd.R_reads' HO_7.out).2.2)); (case q2 => exact (Kd.R_reads' HO_7.out).2.1); rintro e w29 ⟨v72, rfl, ho0, hb⟩; refine ⟨_, rfl, ?_⟩; have HO68 := Z.k (Kd.R_lower (Kd.R_new' ho0 (Kd.R_lt (by (with_reducible skip); exact HO_7.out))) (below_size (Z.bs HB.out GE39.out))); replace HO_7 := Z.k (Kd.R_elder' (by (with_reducible skip); exact HO_7.out) (Kd.R_base ho0) hb); replace BK39 := Z.bb BK39 hb; replace HB := Z.st (Z.bs HB.out GE39.out) hb; (try clear hb); (try clear ho0)))
   go_ret
   exact ⟨_, by rfl, by (with_reducible skip); exact Kd.R_mono HO68.out (fun _ hk => trivial), Z.bs HB.out GE39.out⟩
  have c14b0 := eq_true (Z.od : 0 ≤ a0_0)
  revert H; refine Z.bd ?_; rintro t60 A16 H
  by_cases c17 : t60 = true
  ·subst c17
   rw [if_pos rfl] at H
   have H' := Z.k H
   clear H
   have hcz18 := Z.c3 BK39.out
   try go_wp2
   replace HO_7 := Z.k (Kd.R_drew HO_7.out)
   replace BK39 := Z.k (blk_drew BK39.out)
   replace HB := Z.k (below_drew1 HB.out)
   refine start_ (n := 12) (S := fun w' => w'.cell? ⟨gb39, 0, none⟩ = some (.int .i64 a0_0) ∧ w'.cell? ⟨gb39, 1, none⟩ = some (.slice A0_1 l0_1.length c0_1) ∧ w'.cell? ⟨gb39, 2, none⟩ = some (.slice A0_2 l0_2.length c0_2)) (ds := []) (Z.mb 12 0) (by kernel_rfl) rfl rfl ⟨Z.b BK39 0, Z.b BK39 1, Z.b BK39 2⟩ (fun hHeld => ?_); refine with_tabW spec_GuardsOf.tab7 spec_GuardsOf.bits7 (fun HT_ HW_ => ?_)
   generalize wr.drew = w19 at HO_7 BK39 HB hHeld ⊢
   refine Z.pv 1 25 12 2 HT_.out ?_
   refine Z.pv 2 26 12 6 HT_.out ?_
   refine Z.pv 3 27 12 14 HT_.out ?_
   refine Z.pv 4 28 12 30 HT_.out ?_
   refine Z.pv 8 32 12 286 HT_.out ?_
   refine Z.t3 0 24 12 287 HT_.out HW_.out hHeld ?_
   refine Z.t3 5 29 12 319 HT_.out HW_.out hHeld ?_
   refine Z.pv 6 30 12 383 HT_.out ?_
   refine Z.pv 7 31 12 511 HT_.out ?_
   refine Z.pv 9 33 12 1023 HT_.out ?_
   refine one_ (i := 10) (N := some 34) (Z.mb 12 2047) rfl rfl (one_of HT_.out (by kernel_rfl)) (by decide) (fun K hK => ?_)
   refine goes_ Try.func82 (by kernel_rfl) rfl #[.agg #[.int .i64 a0_0, .slice A0_1 l0_1.length c0_1, .slice A0_2 l0_2.length c0_2], .slice A1 l1.length c1, .slice A2 l2.length c2, .int .i64 (wrap64 ((wrap64 ((ji12) - 1)) - x8_1))] (by rfl) rfl rfl (by (try simp only [List.map_toArray, List.map_cons, List.map_nil]); rfl) ?_
   with_reducible refine (spec_l11Breaks.calls k1 a0_0 _ _ l0_1 _ _ l0_2 _ _ l1 _ _ l2 (wrap64 ((wrap64 ((ji12) - 1)) - x8_1)) true _ ?q1 ?q2 ?q3 ?q4 ?q5 ?q6 ?q7 ?q8 A16.out).mono ?_
   (case q1 => exact Z.cc HR0_1 HB)
   (case q2 => exact HC0_1.out)
   (case q3 => exact Z.cc HR0_2 HB)
   (case q4 => exact HC0_2.out)
   (case q5 => exact Z.cc HR1 HB)
   (case q6 => exact HC1.out)
   (case q7 => exact Z.cc HR2 HB)
   (case q8 => exact HC2.out)
   rintro e w20 ⟨rfl, hb⟩
   refine ⟨_, rfl, ?_⟩
   replace HO_7 := Z.rb HO_7 hb
   replace BK39 := Z.bb BK39 hb
   replace HB := Z.st (Z.bs HB.out GE39.out) hb
   (try clear hb)
   refine hK.out _ _ ⟨Z.b BK39 0, Z.b BK39 1, Z.b BK39 2⟩ (fun hHeld => ?_)
   clear hK K
   refine Z.nm ?_
   refine Z.pv 11 35 12 4095 HT_.out ?_
   refine done_ (done_of HT_.out (by kernel_rfl)) ?_
   try go_wp2
   go_roundg k1
   case measure => have := HK1.out; omega
   case rel => exact ⟨(x7_1), (wrap64 (x8_1 + 1)), (by rfl), H', ⟨by have := HK1.out; omega⟩, ⟨by (with_reducible skip); exact HO_7.out⟩, ⟨by (with_reducible skip); exact BK39.out⟩, ⟨Z.bs HB.out GE39.out⟩⟩
  replace c17 := Bool.eq_false_iff.mpr c17
  subst c17
  rw [if_neg (show ¬ (false = true) by decide)] at H
  obtain ⟨c21, H⟩ := Z.ifp H
  have LMc21 := Z.k c21
  clear c21
  obtain ⟨y47, hy47⟩ : ∃ y_ : List Int, y_ = (x7_1 ++ [x8_1]) := ⟨_, rfl⟩
  replace H : (spec_GuardsOf.l0 k1 l1 l2 y47 (wrap64 (x8_1 + 1)) a0_0 l0_1 l0_2) = some r := by (rw [hy47]; with_reducible exact H)
  have Ny47 := Z.k hy47
  clear hy47
  have H' := Z.k H
  clear H
  have hcz22 := Z.c3 BK39.out
  try go_wp2
  replace HO_7 := Z.k (Kd.R_drew HO_7.out)
  replace BK39 := Z.k (blk_drew BK39.out)
  replace HB := Z.k (below_drew1 HB.out)
  refine start_ (n := 12) (S := fun w' => w'.cell? ⟨gb39, 0, none⟩ = some (.int .i64 a0_0) ∧ w'.cell? ⟨gb39, 1, none⟩ = some (.slice A0_1 l0_1.length c0_1) ∧ w'.cell? ⟨gb39, 2, none⟩ = some (.slice A0_2 l0_2.length c0_2)) (ds := []) (Z.mb 12 0) (by kernel_rfl) rfl rfl ⟨Z.b BK39 0, Z.b BK39 1, Z.b BK39 2⟩ (fun hHeld => ?_); refine with_tabW spec_GuardsOf.tab7 spec_GuardsOf.bits7 (fun HT_ HW_ => ?_)
  generalize wr.drew = w23 at HO_7 BK39 HB hHeld ⊢
  refine Z.pv 1 25 12 2 HT_.out ?_
  refine Z.pv 2 26 12 6 HT_.out ?_
  refine Z.pv 3 27 12 14 HT_.out ?_
  refine Z.pv 4 28 12 30 HT_.out ?_
  refine Z.pv 8 32 12 286 HT_.out ?_
  refine Z.t3 0 24 12 287 HT_.out HW_.out hHeld ?_
  refine Z.t3 5 29 12 319 HT_.out HW_.out hHeld ?_
  refine Z.pv 6 30 12 383 HT_.out ?_
  refine Z.pv 7 31 12 511 HT_.out ?_
  refine Z.pv 9 33 12 1023 HT_.out ?_
  refine one_ (i := 10) (N := some 34) (Z.mb 12 2047) rfl rfl (one_of HT_.out (by kernel_rfl)) (by decide) (fun K hK => ?_)
  refine goes_ Try.func82 (by kernel_rfl) rfl #[.agg #[.int .i64 a0_0, .slice A0_1 l0_1.length c0_1, .slice A0_2 l0_2.length c0_2], .slice A1 l1.length c1, .slice A2 l2.length c2, .int .i64 (wrap64 ((wrap64 ((ji12) - 1)) - x8_1))] (by rfl) rfl rfl (by (try simp only [List.map_toArray, List.map_cons, List.map_nil]); rfl) ?_
  with_reducible refine (spec_l11Breaks.calls k1 a0_0 _ _ l0_1 _ _ l0_2 _ _ l1 _ _ l2 (wrap64 ((wrap64 ((ji12) - 1)) - x8_1)) false _ ?q1 ?q2 ?q3 ?q4 ?q5 ?q6 ?q7 ?q8 A16.out).mono ?_
  (case q1 => exact Z.cc HR0_1 HB)
  (case q2 => exact HC0_1.out)
  (case q3 => exact Z.cc HR0_2 HB)
  (case q4 => exact HC0_2.out)
  (case q5 => exact Z.cc HR1 HB)
  (case q6 => exact HC1.out)
  (case q7 => exact Z.cc HR2 HB)
  (case q8 => exact HC2.out)
  rintro e w24 ⟨rfl, hb⟩
  refine ⟨_, rfl, ?_⟩
  replace HO_7 := Z.rb HO_7 hb
  replace BK39 := Z.bb BK39 hb
  replace HB := Z.st (Z.bs HB.out GE39.out) hb
  (try clear hb)
  refine hK.out _ _ ⟨Z.b BK39 0, Z.b BK39 1, Z.b BK39 2⟩ (fun hHeld => ?_)
  clear hK K
  refine Z.nm ?_
  refine Z.pv 11 35 12 4095 HT_.out ?_
  refine done_ (done_of HT_.out (by kernel_rfl)) ?_
  try go_wp2_with (((with_reducible refine gate_builtin (b := .append) (xs := #[.tmp 36, .tmp 38]) rfl ?_); at_builtin; refine Kd.R_append (Kd.int .i64) (w0 := w) w.heap.size rfl (.tmp 36) (.tmp 38) 23 3 (.int .i64 0) 8 rfl Try.underlying23 info3 rfl (by decide) (by omega) u7 x7_1 x8_1 [.int .i64 x8_1] (fun _ => True) (fun _ => False) rfl rfl ?aP (fun _ hk => hk.elim) ?aF ?aO ?aB ?aS ?aL ?_; (case aP => exact rfl); (case aB => exact (Z.bs HB.out GE39.out)); (case aF => exact (fun _ _ => trivial)); (case aO => exact (by (with_reducible skip); exact HO_7.out)); (case aS => exact (below_size (Z.bs HB.out GE39.out))); (case aL => have := LMc21.out; omega); intro v73 w25 ho hb hg hat; rw [← Ny47.out] at ho; replace BK39 := Z.k (blk_grown (g := gb39) (o := .cells #[.int .i64 a0_0, .slice A0_1 l0_1.length c0_1, .slice A0_2 l0_2.length c0_2] 28 (0, 0)) (Z.bk BK39.out) hg (Kd.R_ne HO_7.out BK39.out (by decide))); replace HB := Z.k (hb); have HO69 := Z.k (ho); clear HO_7; clear ho hb hg hat))
  go_roundg k1
  case measure => have := HK1.out; omega
  case rel => exact ⟨(y47), (wrap64 (x8_1 + 1)), (by rfl), H', ⟨by have := HK1.out; omega⟩, ⟨by (with_reducible skip); exact HO69.out⟩, ⟨by (with_reducible skip); exact BK39.out⟩, ⟨Z.bs HB.out GE39.out⟩⟩
-- NOT PRINTED: function 23 (impl_GuardsOf)

-- NOT PRINTED: function 16 (laws_FnExactGuardsOf)

end Go.Proofs.Ytkogboechfieeaa.PAll

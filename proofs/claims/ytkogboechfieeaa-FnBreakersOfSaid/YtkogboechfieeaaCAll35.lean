/- Walks of functions that laws of this seat reach, in the form of the print. -/
import Derived.Test.YtkogboechfieeaaCAll30
import Derived.Test.YtkogboechfieeaaCAll33
-- PRINTED
namespace Go.Proofs.Ytkogboechfieeaa.PAll
open Go.RowKit Go.Proofs.YtkogboechfieeaaW.PrintWords Go.Proofs.YtkogboechfieeaaW.PrintLast Go.Proofs.YtkogboechfieeaaW.PrintMore
attribute [local go_sem] max2_int min2_int max_two min_two max_three min_three max_four min_four
set_option linter.unusedVariables false
set_option linter.unusedSimpArgs false

/-! ### spec_BreakersOf: function 50 -/
def spec_BreakersOf.l0 : Nat → List Int → List Int → List Int → Int → Int → List Int → List (List (S37)) → Option (List Int)
 | 0, _, _, _, _, _, _, _ => none
 | k + 1, x1, x2, x7, x8, x45, x51, x53 => if 0 ≤ x45 then (if x8 < (shl .i64 1 x45) then ((spec_l11Breaks.f k x45 x51 x53 x1 x2 x8).bind fun t57 => (if t57 = true then (if x7.length < 17592186044416 then (spec_BreakersOf.l0 k x1 x2 (x7 ++ [x8]) (wrap64 (x8 + 1)) x45 x51 x53) else (none)) else (spec_BreakersOf.l0 k x1 x2 x7 (wrap64 (x8 + 1)) x45 x51 x53))) else ((spec_l1Least.f k x45 x7).bind fun t58 => (some t58))) else (none)
def spec_BreakersOf.f (k : Nat) (a0_0 : Int) (l0_1 : List Int) (l0_2 : List (List (S37))) (l1 : List Int) (l2 : List Int) : Option (List Int) := (some (([] : List Int) : List Int)).bind fun y41 => ((spec_l11Ok.f k a0_0 l0_1 l0_2 l1 l2).bind fun t59 => (if t59 = true then (spec_BreakersOf.l0 k l1 l2 y41 0 a0_0 l0_1 l0_2) else (some y41)))
set_option maxHeartbeats 8000000 in
set_option maxRecDepth 100000 in
theorem spec_BreakersOf.calls (k : Nat) (a0_0 : Int) (A0_1 : Option Addr) (c0_1 : Nat) (l0_1 : List Int) (A0_2 : Option Addr) (c0_2 : Nat) (l0_2 : List (List (S37))) (A1 : Option Addr) (c1 : Nat) (l1 : List Int) (A2 : Option Addr) (c2 : Nat) (l2 : List Int) (r : List Int) (w : World) (hr0_1 : Kd.C (Kd.int .i64) w A0_1 l0_1.length l0_1) (hc0_1 : l0_1.length ≤ c0_1) (hr0_2 : Kd.C (Kd.slice 37 k37) w A0_2 l0_2.length l0_2) (hc0_2 : l0_2.length ≤ c0_2) (hr1 : Kd.C (Kd.int .i64) w A1 l1.length l1) (hc1 : l1.length ≤ c1) (hr2 : Kd.C (Kd.int .i64) w A2 l2.length l2) (hc2 : l2.length ≤ c2) (h : spec_BreakersOf.f k a0_0 l0_1 l0_2 l1 l2 = some r) :
  Calls Try.prog 50 #[.agg #[.int .i64 a0_0, .slice A0_1 l0_1.length c0_1, .slice A0_2 l0_2.length c0_2], .slice A1 l1.length c1, .slice A2 l2.length c2] w fun e w' => ∃ v0_ : Value, e = .returned (v0_) ∧ Kd.R (Kd.int .i64) 3 w' w.heap.size (fun _ => True) v0_ r ∧ Below w.heap.size w w' := by
 have hu35 := Try.underlying28
 have HR0_1 := Z.k hr0_1
 have HC0_1 := Z.k hc0_1
 clear hr0_1 hc0_1
 have HR0_2 := Z.k hr0_2
 have HC0_2 := Z.k hc0_2
 clear hr0_2 hc0_2
 have HR1 := Z.k hr1
 have HC1 := Z.k hc1
 clear hr1 hc1
 have HR2 := Z.k hr2
 have HC2 := Z.k hc2
 clear hr2 hc2
 have HB := Z.k (Below.refl w.heap.size w)
 have H := h
 clear h
 unfold spec_BreakersOf.f at H
 obtain ⟨y41, hy41⟩ : ∃ y_ : List Int, y_ = (([] : List Int)) := ⟨_, rfl⟩
 replace H : ((spec_l11Ok.f k a0_0 l0_1 l0_2 l1 l2).bind fun t59 => (if t59 = true then (spec_BreakersOf.l0 k l1 l2 y41 0 a0_0 l0_1 l0_2) else (some y41))) = some r := by (have H2_ := (Option.bind_some _ _).symm.trans H; rw [hy41]; with_reducible exact H2_)
 have Ny41 := Z.k hy41
 clear hy41
 revert H; refine Z.bd ?_; rintro t59 A4 H
 by_cases c5 : t59 = true
 rotate_left
 ·replace c5 := Bool.eq_false_iff.mpr c5
  subst c5
  rw [if_neg (show ¬ (false = true) by decide)] at H
  obtain rfl := Option.some.inj H
  go_enter Try.func50, Try.ntmps50
  go_wp2_with (first | ((with_reducible refine gate_dst (N := 3) rfl ?_); refine Z.bx #[.int .i64 a0_0, .slice A0_1 l0_1.length c0_1, .slice A0_2 l0_2.length c0_2] 28 HB ?_; clear HB; intro gb40 w26 BK40 GE40 HB hg hb; have GW40 := GE40; clear hb hg) | ((with_reducible refine gate_dst (N := 9) rfl ?_); refine Kd.R_lit (Kd.int .i64) _ 3 ?hg (N := 9) ?hd (xs := ([] : List Int)) (inner := []) (ok := fun _ => True) (okp := fun _ => True) ?hr ?hp (fun _ hk => hk) trivial (Below.refl _ _) (Nat.le_refl _) (by simp) ?_; (case hd | hg => rfl); (case hr => (go_simp; done)); (case hp => exact (Reps.none _ _)); intro v63 w27 ho28 hb hg_ hnew_; clear hg_ hnew_; (rw [← Ny41.out] at ho28); have HO48 := Z.k (Kd.R_lower ho28 (below_size (Z.bs HB.out GE40.out))); replace BK40 := Z.bb BK40 hb; replace HB := Z.st (Z.bs HB.out GE40.out) hb; clear hb ho28; have hcz29 := Z.c3 BK40.out) | ((with_reducible refine gate_callee (f := 81) rfl ?_); refine goesL_ (some 13) rfl rfl Try.func81 (by kernel_rfl) rfl #[.agg #[.int .i64 a0_0, .slice A0_1 l0_1.length c0_1, .slice A0_2 l0_2.length c0_2], .slice A1 l1.length c1, .slice A2 l2.length c2] rfl Z.ar ?_; (with_reducible refine (spec_l11Ok.calls k a0_0 _ _ l0_1 _ _ l0_2 _ _ l1 _ _ l2 false _ ?q1 ?q2 ?q3 ?q4 ?q5 ?q6 ?q7 ?q8 A4.out).mono ?_); (case q1 => exact Z.cc HR0_1 HB); (case q2 => exact HC0_1.out); (case q3 => exact Z.cc HR0_2 HB); (case q4 => exact HC0_2.out); (case q5 => exact Z.cc HR1 HB); (case q6 => exact HC1.out); (case q7 => exact Z.cc HR2 HB); (case q8 => exact HC2.out); rintro e w30 ⟨rfl, hb⟩; refine ⟨_, rfl, ?_⟩; replace HO48 := Z.rb HO48 hb; replace BK40 := Z.bb BK40 hb; replace HB := Z.st (Z.bs HB.out GE40.out) hb; (try clear hb)))
  go_ret
  exact ⟨_, by rfl, by (with_reducible skip); exact HO48.out, Z.bs HB.out GE40.out⟩

 subst c5
 rw [if_pos rfl] at H
 have H' := Z.k H
 clear H
 go_enter Try.func50, Try.ntmps50
 go_wp2_with (first | ((with_reducible refine gate_dst (N := 3) rfl ?_); refine Z.bx #[.int .i64 a0_0, .slice A0_1 l0_1.length c0_1, .slice A0_2 l0_2.length c0_2] 28 HB ?_; clear HB; intro gb40 w6 BK40 GE40 HB hg hb; have GW40 := GE40; clear hb hg) | ((with_reducible refine gate_dst (N := 9) rfl ?_); refine Kd.R_lit (Kd.int .i64) _ 3 ?hg (N := 9) ?hd (xs := ([] : List Int)) (inner := []) (ok := fun _ => True) (okp := fun _ => True) ?hr ?hp (fun _ hk => hk) trivial (Below.refl _ _) (Nat.le_refl _) (by simp) ?_; (case hd | hg => rfl); (case hr => (go_simp; done)); (case hp => exact (Reps.none _ _)); intro v63 w7 ho8 hb hg_ hnew_; clear hg_ hnew_; (rw [← Ny41.out] at ho8); have HO48 := Z.k (Kd.R_lower ho8 (below_size (Z.bs HB.out GE40.out))); replace BK40 := Z.bb BK40 hb; replace HB := Z.st (Z.bs HB.out GE40.out) hb; clear hb ho8; have hcz9 := Z.c3 BK40.out) | ((with_reducible refine gate_callee (f := 81) rfl ?_); refine goesL_ (some 13) rfl rfl Try.func81 (by kernel_rfl) rfl #[.agg #[.int .i64 a0_0, .slice A0_1 l0_1.length c0_1, .slice A0_2 l0_2.length c0_2], .slice A1 l1.length c1, .slice A2 l2.length c2] rfl Z.ar ?_; (with_reducible refine (spec_l11Ok.calls k a0_0 _ _ l0_1 _ _ l0_2 _ _ l1 _ _ l2 true _ ?q1 ?q2 ?q3 ?q4 ?q5 ?q6 ?q7 ?q8 A4.out).mono ?_); (case q1 => exact Z.cc HR0_1 HB); (case q2 => exact HC0_1.out); (case q3 => exact Z.cc HR0_2 HB); (case q4 => exact HC0_2.out); (case q5 => exact Z.cc HR1 HB); (case q6 => exact HC1.out); (case q7 => exact Z.cc HR2 HB); (case q8 => exact HC2.out); rintro e w10 ⟨rfl, hb⟩; refine ⟨_, rfl, ?_⟩; replace HO48 := Z.rb HO48 hb; replace BK40 := Z.bb BK40 hb; replace HB := Z.st (Z.bs HB.out GE40.out) hb; (try clear hb)))
 go_loopg [7, 8] k (fun kq v7 v8 w' => ∃ (x7_1 : List Int) (x8_1 : Int), v8 = .int .i64 x8_1 ∧ Aside0 (spec_BreakersOf.l0 kq l1 l2 x7_1 x8_1 a0_0 l0_1 l0_2 = some r) ∧ Aside0 (kq ≤ k) ∧ Aside0 (Kd.R (Kd.int .i64) 3 w' w.heap.size (fun _ => True) v7 x7_1) ∧ Aside0 (w'.heap[gb40]? = some (.cells #[.int .i64 a0_0, (.slice A0_1 l0_1.length c0_1), (.slice A0_2 l0_2.length c0_2)] 28 (0, 0))) ∧ Aside0 (Below w.heap.size w w'))
 case atStart => exact ⟨(y41), (0), (by rfl), H', ⟨Nat.le_refl _⟩, ⟨by (with_reducible skip); exact HO48.out⟩, ⟨by (with_reducible skip); exact BK40.out⟩, ⟨Z.bs HB.out GE40.out⟩⟩
 clear H'
 obtain ⟨x7_1, x8_1, rfl, HA, HK1, HO_7, BK40, HB⟩ := hrel
 cases gk with
 | zero => exact absurd HA.out (by simp [spec_BreakersOf.l0])
 | succ k1 =>
  have H := HA.out
  clear HA
  simp only [spec_BreakersOf.l0] at H
  obtain ⟨c11, H⟩ := Z.ifp H
  have c11b0 := eq_true c11
  have c11b1 : decide (0 ≤ a0_0) = true := decide_eq_true c11
  clear c11
  obtain ⟨ji12, hji12⟩ : ∃ j_ : Int, (shl .i64 1 a0_0) = j_ := ⟨_, rfl⟩
  replace H : (if x8_1 < (ji12) then ((spec_l11Breaks.f k1 a0_0 l0_1 l0_2 l1 l2 x8_1).bind fun t57 => (if t57 = true then (if x7_1.length < 17592186044416 then (spec_BreakersOf.l0 k1 l1 l2 (x7_1 ++ [x8_1]) (wrap64 (x8_1 + 1)) a0_0 l0_1 l0_2) else (none)) else (spec_BreakersOf.l0 k1 l1 l2 x7_1 (wrap64 (x8_1 + 1)) a0_0 l0_1 l0_2))) else ((spec_l1Least.f k1 a0_0 x7_1).bind fun t58 => (some t58))) = some r := by (rw [hji12] at H; exact H)
  have hji12_ : (IntKind.i64.wrap (1 * 2 ^ min a0_0.toNat 64)) = ji12 := hji12
  have hji12z : a0_0 ≤ 64 → (IntKind.i64.wrap (1 * 2 ^ a0_0.toNat)) = ji12 := shl_small hji12
  have hji12u : (IntKind.i64.wrap (2 ^ min a0_0.toNat 64)) = ji12 := by have h_ := hji12_; rw [Int.one_mul] at h_; exact h_
  have hji12v : a0_0 ≤ 64 → (IntKind.i64.wrap (2 ^ a0_0.toNat)) = ji12 := fun hle_ => by have h_ := hji12z hle_; rw [Int.one_mul] at h_; exact h_
  have hji12y : (wrap64 (1 * 2 ^ min a0_0.toNat 64)) = ji12 := (i64_w _).symm.trans hji12_
  have hji12x : a0_0 ≤ 64 → (wrap64 (1 * 2 ^ a0_0.toNat)) = ji12 := fun h_ => (i64_w _).symm.trans (hji12z h_)
  revert H; refine Z.fm ?_ ?_ <;> intro c13b0 H
  ·revert H; refine Z.bd ?_; rintro t58 A22 H
   obtain rfl := Option.some.inj H
   have hcz23 := Z.c3 BK40.out
   obtain ⟨Ao24, co24, eo24⟩ := Kd.R_slice HO_7.out
   subst eo24
   go_wp2_with (((with_reducible refine gate_callee (f := 86) rfl ?_); refine goesL_ (some 37) rfl rfl Try.func86 (by kernel_rfl) rfl #[.int .i64 a0_0, .slice Ao24 x7_1.length co24] rfl Z.ar ?_; (with_reducible refine (spec_l1Least.calls k1 a0_0 _ _ x7_1 t58 _ ?q1 ?q2 A22.out).mono ?_); (case q1 => repeat (exact (Kd.R_reads' HO_7.out).2.2)); (case q2 => exact (Kd.R_reads' HO_7.out).2.1); rintro e w25 ⟨v70, rfl, ho0, hb⟩; refine ⟨_, rfl, ?_⟩; have HO65 := Z.k (Kd.R_lower (Kd.R_new' ho0 (Kd.R_lt (by (with_reducible skip); exact HO_7.out))) (below_size (Z.bs HB.out GE40.out))); replace HO_7 := Z.k (Kd.R_elder' (by (with_reducible skip); exact HO_7.out) (Kd.R_base ho0) hb); replace BK40 := Z.bb BK40 hb; replace HB := Z.st (Z.bs HB.out GE40.out) hb; (try clear hb); (try clear ho0)))
   go_ret
   exact ⟨_, by rfl, by (with_reducible skip); exact Kd.R_mono HO65.out (fun _ hk => trivial), Z.bs HB.out GE40.out⟩
  revert H; refine Z.bd ?_; rintro t57 A14 H
  by_cases c15 : t57 = true
  ·subst c15
   rw [if_pos rfl] at H
   obtain ⟨c16, H⟩ := Z.ifp H
   have LMc16 := Z.k c16
   clear c16
   obtain ⟨y46, hy46⟩ : ∃ y_ : List Int, y_ = (x7_1 ++ [x8_1]) := ⟨_, rfl⟩
   replace H : (spec_BreakersOf.l0 k1 l1 l2 y46 (wrap64 (x8_1 + 1)) a0_0 l0_1 l0_2) = some r := by (rw [hy46]; with_reducible exact H)
   have Ny46 := Z.k hy46
   clear hy46
   have H' := Z.k H
   clear H
   have hcz17 := Z.c3 BK40.out
   go_wp2_with (first | ((with_reducible refine gate_callee (f := 82) rfl ?_); refine goesL_ (some 28) rfl rfl Try.func82 (by kernel_rfl) rfl #[.agg #[.int .i64 a0_0, .slice A0_1 l0_1.length c0_1, .slice A0_2 l0_2.length c0_2], .slice A1 l1.length c1, .slice A2 l2.length c2, .int .i64 x8_1] rfl Z.ar ?_; (with_reducible refine (spec_l11Breaks.calls k1 a0_0 _ _ l0_1 _ _ l0_2 _ _ l1 _ _ l2 x8_1 true _ ?q1 ?q2 ?q3 ?q4 ?q5 ?q6 ?q7 ?q8 A14.out).mono ?_); (case q1 => exact Z.cc HR0_1 HB); (case q2 => exact HC0_1.out); (case q3 => exact Z.cc HR0_2 HB); (case q4 => exact HC0_2.out); (case q5 => exact Z.cc HR1 HB); (case q6 => exact HC1.out); (case q7 => exact Z.cc HR2 HB); (case q8 => exact HC2.out); rintro e w18 ⟨rfl, hb⟩; refine ⟨_, rfl, ?_⟩; replace HO_7 := Z.rb HO_7 hb; replace BK40 := Z.bb BK40 hb; replace HB := Z.st (Z.bs HB.out GE40.out) hb; (try clear hb)) | ((with_reducible refine gate_builtin (b := .append) (xs := #[.tmp 29, .tmp 31]) rfl ?_); at_builtin; refine Kd.R_append (Kd.int .i64) (w0 := w) w.heap.size rfl (.tmp 29) (.tmp 31) 23 3 (.int .i64 0) 8 rfl Try.underlying23 info3 rfl (by decide) (by omega) u7 x7_1 x8_1 [.int .i64 x8_1] (fun _ => True) (fun _ => False) rfl rfl ?aP (fun _ hk => hk.elim) ?aF ?aO ?aB ?aS ?aL ?_; (case aP => exact rfl); (case aB => exact (Z.bs HB.out GE40.out)); (case aF => exact (fun _ _ => trivial)); (case aO => exact (by (with_reducible skip); exact HO_7.out)); (case aS => exact (below_size (Z.bs HB.out GE40.out))); (case aL => have := LMc16.out; omega); intro v71 w19 ho hb hg hat; rw [← Ny46.out] at ho; replace BK40 := Z.k (blk_grown (g := gb40) (o := .cells #[.int .i64 a0_0, .slice A0_1 l0_1.length c0_1, .slice A0_2 l0_2.length c0_2] 28 (0, 0)) (Z.bk BK40.out) hg (Kd.R_ne HO_7.out BK40.out (by decide))); replace HB := Z.k (hb); have HO66 := Z.k (ho); clear HO_7; clear ho hb hg hat))
   go_roundg k1
   case measure => have := HK1.out; omega
   case rel => exact ⟨(y46), (wrap64 (x8_1 + 1)), (by rfl), H', ⟨by have := HK1.out; omega⟩, ⟨by (with_reducible skip); exact HO66.out⟩, ⟨by (with_reducible skip); exact BK40.out⟩, ⟨Z.bs HB.out GE40.out⟩⟩
  replace c15 := Bool.eq_false_iff.mpr c15
  subst c15
  rw [if_neg (show ¬ (false = true) by decide)] at H
  have H' := Z.k H
  clear H
  have hcz20 := Z.c3 BK40.out
  go_wp2_with (((with_reducible refine gate_callee (f := 82) rfl ?_); refine goesL_ (some 28) rfl rfl Try.func82 (by kernel_rfl) rfl #[.agg #[.int .i64 a0_0, .slice A0_1 l0_1.length c0_1, .slice A0_2 l0_2.length c0_2], .slice A1 l1.length c1, .slice A2 l2.length c2, .int .i64 x8_1] rfl Z.ar ?_; (with_reducible refine (spec_l11Breaks.calls k1 a0_0 _ _ l0_1 _ _ l0_2 _ _ l1 _ _ l2 x8_1 false _ ?q1 ?q2 ?q3 ?q4 ?q5 ?q6 ?q7 ?q8 A14.out).mono ?_); (case q1 => exact Z.cc HR0_1 HB); (case q2 => exact HC0_1.out); (case q3 => exact Z.cc HR0_2 HB); (case q4 => exact HC0_2.out); (case q5 => exact Z.cc HR1 HB); (case q6 => exact HC1.out); (case q7 => exact Z.cc HR2 HB); (case q8 => exact HC2.out); rintro e w21 ⟨rfl, hb⟩; refine ⟨_, rfl, ?_⟩; replace HO_7 := Z.rb HO_7 hb; replace BK40 := Z.bb BK40 hb; replace HB := Z.st (Z.bs HB.out GE40.out) hb; (try clear hb)))
  go_roundg k1
  case measure => have := HK1.out; omega
  case rel => exact ⟨(x7_1), (wrap64 (x8_1 + 1)), (by rfl), H', ⟨by have := HK1.out; omega⟩, ⟨by (with_reducible skip); exact HO_7.out⟩, ⟨by (with_reducible skip); exact BK40.out⟩, ⟨Z.bs HB.out GE40.out⟩⟩
-- NOT PRINTED: function 21 (impl_BreakersOf)

-- NOT PRINTED: function 15 (laws_FnExactBreakersOf)

/-! ### spec_GuardsOf: function 52 -/
def spec_GuardsOf.l0 : Nat → List Int → List Int → List Int → Int → Int → List Int → List (List (S37)) → Option (List Int)
 | 0, _, _, _, _, _, _, _ => none
 | k + 1, x1, x2, x7, x8, x42, x54, x55 => if 0 ≤ x42 then (if x8 < (shl .i64 1 x42) then ((spec_l11Breaks.f k x42 x54 x55 x1 x2 (wrap64 ((wrap64 ((shl .i64 1 x42) - 1)) - x8))).bind fun t60 => (if t60 = true then (spec_GuardsOf.l0 k x1 x2 x7 (wrap64 (x8 + 1)) x42 x54 x55) else (if x7.length < 17592186044416 then (spec_GuardsOf.l0 k x1 x2 (x7 ++ [x8]) (wrap64 (x8 + 1)) x42 x54 x55) else (none)))) else ((spec_l1Least.f k x42 x7).bind fun t61 => (some t61))) else (none)
def spec_GuardsOf.f (k : Nat) (a0_0 : Int) (l0_1 : List Int) (l0_2 : List (List (S37))) (l1 : List Int) (l2 : List Int) : Option (List Int) := (some (([] : List Int) : List Int)).bind fun y43 => ((spec_l11Ok.f k a0_0 l0_1 l0_2 l1 l2).bind fun t62 => (if t62 = true then (spec_GuardsOf.l0 k l1 l2 y43 0 a0_0 l0_1 l0_2) else (some y43)))
-- NOT PRINTED: function 23 (impl_GuardsOf)

-- NOT PRINTED: function 16 (laws_FnExactGuardsOf)

end Go.Proofs.Ytkogboechfieeaa.PAll

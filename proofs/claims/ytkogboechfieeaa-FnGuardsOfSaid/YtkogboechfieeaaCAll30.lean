/- Walks of functions that laws of this seat reach, in the form of the print. -/
import Derived.Test.YtkogboechfieeaaCAll28
import Derived.Maps.OwnSet
import Derived.Shelf.Abstract
-- PRINTED
namespace Go.Proofs.Ytkogboechfieeaa.PAll
open Go.RowKit Go.Proofs.YtkogboechfieeaaW.PrintWords Go.Proofs.YtkogboechfieeaaW.PrintLast Go.Proofs.YtkogboechfieeaaW.PrintMore
attribute [local go_sem] max2_int min2_int max_two min_two max_three min_three max_four min_four
set_option linter.unusedVariables false
set_option linter.unusedSimpArgs false

/-! ### spec_ChangesTo: function 41 -/
def spec_ChangesTo.j0 : Nat → List Int → List Int → Int → Bool → Int → List Int → List (List (S37)) → Option (Int)
 | 0, _, _, _, _, _, _, _ => none
 | k + 1, x1, x2, x3, x26, x62, x65, x66 => if x26 = true then (some (-1)) else ((spec_l8Code.f k x1).bind fun t55 => ((spec_l8Reach.f k x62 x65 x66 t55 x3).bind fun t51 => ((spec_l8Code.f k x2).bind fun t49 => (if 0 ≤ t49 then (if t49 < (t51.length : Int) then (some (rd t51 t49)) else (none)) else (none)))))
def spec_ChangesTo.f (k : Nat) (a0_0 : Int) (l0_1 : List Int) (l0_2 : List (List (S37))) (l1 : List Int) (l2 : List Int) (a3 : Int) : Option (Int) := (spec_StateOk.f k a0_0 l0_1 l0_2 l1).bind fun t67 => (if t67 = true then ((spec_StateOk.f k a0_0 l0_1 l0_2 l2).bind fun t68 => (if t68 = true then ((spec_CrowdOk.f a0_0 a3).bind fun t60 => (spec_ChangesTo.j0 k l1 l2 a3 (!t60) a0_0 l0_1 l0_2)) else (spec_ChangesTo.j0 k l1 l2 a3 true a0_0 l0_1 l0_2))) else (spec_ChangesTo.j0 k l1 l2 a3 true a0_0 l0_1 l0_2))
-- NOT PRINTED: function 88 (impl_reach)

-- NOT PRINTED: function 30 (impl_ChangesTo)

-- NOT PRINTED: function 9 (laws_FnExactChangesTo)

/-! ### spec_l11Ok: function 81 -/
def spec_l11Ok.l0 : Nat → List Int → List Int → Int → Int → List Int → List (List (S37)) → Option (Bool)
 | 0, _, _, _, _, _, _ => none
 | k + 1, x1, x2, x7, x52, x53, x54 => if x7 < (x2.length : Int) then (if 0 ≤ x7 then ((spec_l1In.f (rd x2 x7) 0 26).bind fun t57 => (if t57 = true then (spec_l11Ok.l0 k x1 x2 (wrap64 (x7 + 1)) x52 x53 x54) else (some false))) else (none)) else ((spec_StateOk.f k x52 x53 x54 x1).bind fun t58 => (if t58 = true then (some (decide ((x2.length : Int) ≤ 27))) else (some false)))
def spec_l11Ok.f (k : Nat) (a0_0 : Int) (l0_1 : List Int) (l0_2 : List (List (S37))) (l1 : List Int) (l2 : List Int) : Option (Bool) := spec_l11Ok.l0 k l1 l2 0 a0_0 l0_1 l0_2
set_option maxHeartbeats 8000000 in
set_option maxRecDepth 100000 in
theorem spec_l11Ok.calls (k : Nat) (a0_0 : Int) (A0_1 : Option Addr) (c0_1 : Nat) (l0_1 : List Int) (A0_2 : Option Addr) (c0_2 : Nat) (l0_2 : List (List (S37))) (A1 : Option Addr) (c1 : Nat) (l1 : List Int) (A2 : Option Addr) (c2 : Nat) (l2 : List Int) (r : Bool) (w : World) (hr0_1 : Kd.C (Kd.int .i64) w A0_1 l0_1.length l0_1) (hc0_1 : l0_1.length ≤ c0_1) (hr0_2 : Kd.C (Kd.slice 37 k37) w A0_2 l0_2.length l0_2) (hc0_2 : l0_2.length ≤ c0_2) (hr1 : Kd.C (Kd.int .i64) w A1 l1.length l1) (hc1 : l1.length ≤ c1) (hr2 : Kd.C (Kd.int .i64) w A2 l2.length l2) (hc2 : l2.length ≤ c2) (h : spec_l11Ok.f k a0_0 l0_1 l0_2 l1 l2 = some r) :
  Calls Try.prog 81 #[.agg #[.int .i64 a0_0, .slice A0_1 l0_1.length c0_1, .slice A0_2 l0_2.length c0_2], .slice A1 l1.length c1, .slice A2 l2.length c2] w fun e w' => e = .returned (.bool r) ∧ Below w.heap.size w w' := by
 have hu46 := Try.underlying28
 have HR0_1 := Z.k hr0_1
 have HC0_1 := Z.k hc0_1
 clear hr0_1 hc0_1
 have HR0_2 := Z.k hr0_2
 have HC0_2 := Z.k hc0_2
 clear hr0_2 hc0_2
 have HR1 := Z.k hr1
 have HC1 := Z.k hc1
 clear hr1 hc1
 have HR2 := Z.k hr2
 have HC2 := Z.k hc2
 clear hr2 hc2
 have HB := Z.k (Below.refl w.heap.size w)
 have H := h
 clear h
 unfold spec_l11Ok.f at H
 have H' := Z.k H
 clear H
 go_enter Try.func81, Try.ntmps81
 go_wp2_with (((with_reducible refine gate_dst (N := 3) rfl ?_); (try (refine gate_guard (by rfl) ?_; dsimp only)); refine Z.bx #[.int .i64 a0_0, .slice A0_1 l0_1.length c0_1, .slice A0_2 l0_2.length c0_2] 28 HB ?_; clear HB; intro gb39 w4 BK39 GE39 HB hg hb; have GW39 := GE39; clear hb hg))
 go_loopg [7] k (fun kq v7 w' => ∃ (x7_1 : Int), v7 = .int .i64 x7_1 ∧ Aside0 (spec_l11Ok.l0 kq l1 l2 x7_1 a0_0 l0_1 l0_2 = some r) ∧ Aside0 (kq ≤ k) ∧ Aside0 (w'.heap[gb39]? = some (.cells #[.int .i64 a0_0, (.slice A0_1 l0_1.length c0_1), (.slice A0_2 l0_2.length c0_2)] 28 (0, 0))) ∧ Aside0 (Below w.heap.size w w'))
 case atStart => exact ⟨(0), (by rfl), H', ⟨Nat.le_refl _⟩, ⟨by (with_reducible skip); exact BK39.out⟩, ⟨Z.bs HB.out GE39.out⟩⟩
 clear H'
 obtain ⟨x7_1, rfl, HA, HK1, BK39, HB⟩ := hrel
 cases gk with
 | zero => exact absurd HA.out (by simp [spec_l11Ok.l0])
 | succ k1 =>
  have H := HA.out
  clear HA
  simp only [spec_l11Ok.l0] at H
  revert H; refine Z.fm ?_ ?_ <;> intro c5b0 H
  ·revert H; refine Z.bd ?_; rintro t58 A9 H
   by_cases c10 : t58 = true
   ·subst c10
    rw [if_pos rfl] at H
    obtain rfl := Option.some.inj H
    have hcz11 := Z.c3 BK39.out
    go_wp2_with (((with_reducible refine gate_callee (f := 16) rfl ?_); refine goesL_ (some 22) rfl rfl Try.func16 (by kernel_rfl) rfl #[.agg #[.int .i64 a0_0, .slice A0_1 l0_1.length c0_1, .slice A0_2 l0_2.length c0_2], .slice A1 l1.length c1] rfl Z.ar ?_; (with_reducible refine (spec_StateOk.calls k1 a0_0 _ _ l0_1 _ _ l0_2 _ _ l1 true _ ?q1 ?q2 ?q3 ?q4 ?q5 ?q6 A9.out).mono ?_); (case q1 => exact Z.cc HR0_1 HB); (case q2 => exact HC0_1.out); (case q3 => exact Z.cc HR0_2 HB); (case q4 => exact HC0_2.out); (case q5 => exact Z.cc HR1 HB); (case q6 => exact HC1.out); rintro e w12 ⟨rfl, hb⟩; refine ⟨_, rfl, ?_⟩; replace BK39 := Z.bb BK39 hb; replace HB := Z.st (Z.bs HB.out GE39.out) hb; (try clear hb)))
    go_ret
    exact ⟨by rfl, Z.bs HB.out GE39.out⟩
   replace c10 := Bool.eq_false_iff.mpr c10
   subst c10
   rw [if_neg (show ¬ (false = true) by decide)] at H
   obtain rfl := Option.some.inj H
   have hcz13 := Z.c3 BK39.out
   go_wp2_with (((with_reducible refine gate_callee (f := 16) rfl ?_); refine goesL_ (some 22) rfl rfl Try.func16 (by kernel_rfl) rfl #[.agg #[.int .i64 a0_0, .slice A0_1 l0_1.length c0_1, .slice A0_2 l0_2.length c0_2], .slice A1 l1.length c1] rfl Z.ar ?_; (with_reducible refine (spec_StateOk.calls k1 a0_0 _ _ l0_1 _ _ l0_2 _ _ l1 false _ ?q1 ?q2 ?q3 ?q4 ?q5 ?q6 A9.out).mono ?_); (case q1 => exact Z.cc HR0_1 HB); (case q2 => exact HC0_1.out); (case q3 => exact Z.cc HR0_2 HB); (case q4 => exact HC0_2.out); (case q5 => exact Z.cc HR1 HB); (case q6 => exact HC1.out); rintro e w14 ⟨rfl, hb⟩; refine ⟨_, rfl, ?_⟩; replace BK39 := Z.bb BK39 hb; replace HB := Z.st (Z.bs HB.out GE39.out) hb; (try clear hb)))
   go_ret
   exact ⟨by rfl, Z.bs HB.out GE39.out⟩

  obtain ⟨c6b0, H⟩ := Z.fd H
  revert H; refine Z.bd ?_; rintro t57 A7 H
  by_cases c8 : t57 = true
  ·subst c8
   rw [if_pos rfl] at H
   have H' := Z.k H
   clear H
   have p40 : 0 ≤ (x7_1 : Int) := Z.od
   have q40 : x7_1 < (l2.length : Int) := Z.od
   obtain ⟨ad40, rfl, hx40_0⟩ := Kd.at_int HR2.out x7_1 p40 q40
   replace hx40_0 := Z.up HB.out hx40_0
   replace p40 := eq_true p40
   replace q40 := eq_true q40
   go_wp2_with (((with_reducible refine gate_callee (f := 59) rfl ?_); refine goesL_ (some 18) rfl rfl Try.func59 (by kernel_rfl) rfl #[.int .i64 (rd l2 x7_1), .int .i64 0, .int .i64 26] rfl Z.ar ?_; (with_reducible refine (spec_l1In.calls (rd l2 x7_1) 0 26 true _ A7.out).mono ?_); rintro e w' ⟨rfl, ⟨nd, rfl⟩⟩; refine ⟨_, rfl, ?_⟩))
   go_roundg k1
   case measure => have := HK1.out; omega
   case rel => exact ⟨(wrap64 (x7_1 + 1)), (by rfl), H', ⟨by have := HK1.out; omega⟩, ⟨by (with_reducible repeat (refine blk_drewN ?_ _)); exact BK39.out⟩, ⟨Z.bs HB.out GE39.out⟩⟩
  replace c8 := Bool.eq_false_iff.mpr c8
  subst c8
  rw [if_neg (show ¬ (false = true) by decide)] at H
  obtain rfl := Option.some.inj H
  have p40 : (0 ≤ (x7_1 : Int)) = True := Z.oe
  have q40 : (x7_1 < (l2.length : Int)) = True := Z.oe
  obtain ⟨ad40, rfl, hx40_0⟩ := Kd.at_int HR2.out x7_1 Z.od Z.od
  replace hx40_0 := Z.up HB.out hx40_0
  go_wp2_with (((with_reducible refine gate_callee (f := 59) rfl ?_); refine goesL_ (some 18) rfl rfl Try.func59 (by kernel_rfl) rfl #[.int .i64 (rd l2 x7_1), .int .i64 0, .int .i64 26] rfl Z.ar ?_; (with_reducible refine (spec_l1In.calls (rd l2 x7_1) 0 26 false _ A7.out).mono ?_); rintro e w' ⟨rfl, ⟨nd, rfl⟩⟩; refine ⟨_, rfl, ?_⟩))
  go_ret
  exact ⟨by rfl, Z.bs HB.out GE39.out⟩
/-! ### spec_l11Breaks: function 82 -/
def spec_l11Breaks.l0 : Nat → List Int → List Int → Int → Option (Bool)
 | 0, _, _, _ => none
 | k + 1, x2, x9, x10 => if x10 < (x2.length : Int) then (if 0 ≤ x10 then (if 0 ≤ (rd x2 x10) then (if (rd x2 x10) < (x9.length : Int) then (if (rd x9 (rd x2 x10)) ≥ 0 then (some true) else (spec_l11Breaks.l0 k x2 x9 (wrap64 (x10 + 1)))) else (none)) else (none)) else (none)) else (some false)
def spec_l11Breaks.f (k : Nat) (a0_0 : Int) (l0_1 : List Int) (l0_2 : List (List (S37))) (l1 : List Int) (l2 : List Int) (a3 : Int) : Option (Bool) := (spec_l8Code.f k l1).bind fun t50 => ((spec_l8Reach.f k a0_0 l0_1 l0_2 t50 a3).bind fun t48 => (spec_l11Breaks.l0 k l2 t48 0))
set_option maxHeartbeats 8000000 in
set_option maxRecDepth 100000 in
theorem spec_l11Breaks.calls (k : Nat) (a0_0 : Int) (A0_1 : Option Addr) (c0_1 : Nat) (l0_1 : List Int) (A0_2 : Option Addr) (c0_2 : Nat) (l0_2 : List (List (S37))) (A1 : Option Addr) (c1 : Nat) (l1 : List Int) (A2 : Option Addr) (c2 : Nat) (l2 : List Int) (a3 : Int) (r : Bool) (w : World) (hr0_1 : Kd.C (Kd.int .i64) w A0_1 l0_1.length l0_1) (hc0_1 : l0_1.length ≤ c0_1) (hr0_2 : Kd.C (Kd.slice 37 k37) w A0_2 l0_2.length l0_2) (hc0_2 : l0_2.length ≤ c0_2) (hr1 : Kd.C (Kd.int .i64) w A1 l1.length l1) (hc1 : l1.length ≤ c1) (hr2 : Kd.C (Kd.int .i64) w A2 l2.length l2) (hc2 : l2.length ≤ c2) (h : spec_l11Breaks.f k a0_0 l0_1 l0_2 l1 l2 a3 = some r) :
  Calls Try.prog 82 #[.agg #[.int .i64 a0_0, .slice A0_1 l0_1.length c0_1, .slice A0_2 l0_2.length c0_2], .slice A1 l1.length c1, .slice A2 l2.length c2, .int .i64 a3] w fun e w' => e = .returned (.bool r) ∧ Below w.heap.size w w' := by
 have hu35 := Try.underlying28
 have HR0_1 := Z.k hr0_1
 have HC0_1 := Z.k hc0_1
 clear hr0_1 hc0_1
 have HR0_2 := Z.k hr0_2
 have HC0_2 := Z.k hc0_2
 clear hr0_2 hc0_2
 have HR1 := Z.k hr1
 have HC1 := Z.k hc1
 clear hr1 hc1
 have HR2 := Z.k hr2
 have HC2 := Z.k hc2
 clear hr2 hc2
 have HB := Z.k (Below.refl w.heap.size w)
 have H := h
 clear h
 unfold spec_l11Breaks.f at H
 revert H; refine Z.bd ?_; rintro t50 A5 H
 revert H; refine Z.bd ?_; rintro t48 A6 H
 have H' := Z.k H
 clear H
 go_enter Try.func82, Try.ntmps82
 try go_wp2_with (((with_reducible refine gate_dst (N := 4) rfl ?_); refine Z.bx #[.int .i64 a0_0, .slice A0_1 l0_1.length c0_1, .slice A0_2 l0_2.length c0_2] 28 HB ?_; clear HB; intro gb38 w7 BK38 GE38 HB hg hb; have GW38 := GE38; clear hb hg))
 replace BK38 := Z.k (blk_drew BK38.out)
 replace HB := Z.k (below_drew1 HB.out)
 refine start_ (n := 6) (S := fun w' => w'.cell? ⟨gb38, 0, none⟩ = some (.int .i64 a0_0) ∧ w'.cell? ⟨gb38, 1, none⟩ = some (.slice A0_1 l0_1.length c0_1) ∧ w'.cell? ⟨gb38, 2, none⟩ = some (.slice A0_2 l0_2.length c0_2)) (ds := []) (Z.mb 6 0) (by kernel_rfl) rfl rfl ⟨Z.b BK38 0, Z.b BK38 1, Z.b BK38 2⟩ (fun hHeld => ?_)
 generalize w7.drew = w8 at BK38 HB hHeld ⊢
 refine pure_ (i := 1) (N := some 12) (v := ?_) (a' := ?_) #[false, true, false, false, false, false] rfl rfl (by kernel_rfl) (fun _ _ _ h => h) (Or.inl ⟨by rfl, ?_⟩) ?_ ?_
 rotate_left
 ·intro w'
  go_simp
  with_reducible rfl
 rotate_left
 ·simp only [Act.put, List.setIfInBounds_toArray, List.set_cons_zero, List.set_cons_succ, i64_w, i32_w]
  rfl
 refine pure_ (i := 3) (N := some 14) (v := ?_) (a' := ?_) #[false, true, false, true, false, false] rfl rfl (by kernel_rfl) (fun _ _ _ h => h) (Or.inl ⟨by rfl, ?_⟩) ?_ ?_
 rotate_left
 ·intro w'
  go_simp
  with_reducible rfl
 rotate_left
 ·simp only [Act.put, List.setIfInBounds_toArray, List.set_cons_zero, List.set_cons_succ, i64_w, i32_w]
  rfl
 refine take_ (i := 0) (N := some 11) (v := ?_) (a' := ?_) #[true, true, false, true, false, false] rfl rfl (by kernel_rfl) (fun _ _ _ h => h) (Or.inl ⟨by rfl, ?_⟩) hHeld ?_ ?_
 rotate_left
 ·rintro w' ⟨s0, s1, s2⟩
  go_simp
  with_reducible rfl
 rotate_left
 ·simp only [Act.put, List.setIfInBounds_toArray, List.set_cons_zero, List.set_cons_succ, i64_w, i32_w]
  rfl
 refine one_ (i := 2) (N := some 13) (Z.mb 6 15) rfl rfl (by kernel_rfl) (by decide) (fun K hK => ?_)
 refine goes_ Try.func80 (by kernel_rfl) rfl #[.slice A1 l1.length c1] (by rfl) rfl rfl Z.ar ?_
 with_reducible refine (spec_l8Code.calls k _ _ l1 t50 _ ?q1 ?q2 A5.out).mono ?_
 (case q1 => exact Z.cc HR1 HB)
 (case q2 => exact HC1.out)
 rintro e w' ⟨rfl, ⟨nd, rfl⟩⟩
 refine ⟨_, rfl, ?_⟩
 refine hK.out _ _ ⟨Z.b BK38 0, Z.b BK38 1, Z.b BK38 2⟩ (fun hHeld => ?_)
 clear hK K
 refine Z.nm ?_
 refine one_ (i := 4) (N := some 15) (Z.mb 6 31) rfl rfl (by kernel_rfl) (by decide) (fun K hK => ?_)
 refine goes_ Try.func79 (by kernel_rfl) rfl #[.agg #[.int .i64 a0_0, .slice A0_1 l0_1.length c0_1, .slice A0_2 l0_2.length c0_2], .int .i64 t50, .int .i64 a3] (by rfl) rfl rfl Z.ar ?_
 with_reducible refine (spec_l8Reach.calls k a0_0 _ _ l0_1 _ _ l0_2 t50 a3 t48 _ ?q1 ?q2 ?q3 ?q4 A6.out).mono ?_
 (case q1 => repeat (exact (Kd.C_below HR0_1.out (Z.bs HB.out GE38.out))))
 (case q2 => exact HC0_1.out)
 (case q3 => repeat (exact (Kd.C_below HR0_2.out (Z.bs HB.out GE38.out))))
 (case q4 => exact HC0_2.out)
 rintro e w9 ⟨v69, rfl, ho0, hb⟩
 refine ⟨_, rfl, ?_⟩
 have HO70 := Z.k (Kd.R_lower ho0 (below_size (Z.bs HB.out GE38.out)))
 replace BK38 := Z.bb BK38 hb
 replace HB := Z.st (Z.bs HB.out GE38.out) hb
 (try clear hb)
 (try clear ho0)
 refine hK.out _ _ ⟨Z.b BK38 0, Z.b BK38 1, Z.b BK38 2⟩ (fun hHeld => ?_)
 clear hK K
 refine Z.nm ?_
 refine pure_ (i := 5) (N := some 9) (v := ?_) (a' := ?_) #[true, true, true, true, true, true] rfl rfl (by kernel_rfl) (fun _ _ _ h => h) (Or.inl ⟨by rfl, ?_⟩) ?_ ?_
 rotate_left
 ·intro w'
  go_simp
  with_reducible rfl
 rotate_left
 ·simp only [Act.put, List.setIfInBounds_toArray, List.set_cons_zero, List.set_cons_succ, i64_w, i32_w]
  rfl
 refine done_ (by kernel_rfl) ?_
 try go_wp2
 go_loopg [10] k (fun kq v10 w' => ∃ (x10_1 : Int), v10 = .int .i64 x10_1 ∧ Aside0 (spec_l11Breaks.l0 kq l2 t48 x10_1 = some r) ∧ Aside0 (kq ≤ k) ∧ Aside0 (Kd.R (Kd.int .i64) 3 w' w.heap.size (fun _ => True) v69 t48) ∧ Aside0 (w'.heap[gb38]? = some (.cells #[.int .i64 a0_0, (.slice A0_1 l0_1.length c0_1), (.slice A0_2 l0_2.length c0_2)] 28 (0, 0))) ∧ Aside0 (Below w.heap.size w w'))
 case atStart => exact ⟨(0), (by rfl), H', ⟨Nat.le_refl _⟩, ⟨by (with_reducible skip); exact HO70.out⟩, ⟨by (with_reducible skip); exact BK38.out⟩, ⟨Z.bs HB.out GE38.out⟩⟩
 clear H'
 obtain ⟨x10_1, rfl, HA, HK1, HO_9, BK38, HB⟩ := hrel
 cases gk with
 | zero => exact absurd HA.out (by simp [spec_l11Breaks.l0])
 | succ k1 =>
  have H := HA.out
  clear HA
  simp only [spec_l11Breaks.l0] at H
  revert H; refine Z.fm ?_ ?_ <;> intro c10b0 H
  ·obtain rfl := Option.some.inj H
   go_wp2
   go_ret
   exact ⟨by rfl, Z.bs HB.out GE38.out⟩

  obtain ⟨c11b0, H⟩ := Z.fd H
  obtain ⟨c12b0, H⟩ := Z.fd H
  obtain ⟨c13b0, H⟩ := Z.fd H
  revert H; refine Z.fc ?_ ?_ <;> intro c14b0 H
  ·obtain rfl := Option.some.inj H
   have p44 : (0 ≤ (x10_1 : Int)) = True := Z.oe
   have q44 : (x10_1 < (l2.length : Int)) = True := Z.oe
   obtain ⟨ad44, rfl, hx44_0⟩ := Kd.at_int HR2.out x10_1 Z.od Z.od
   replace hx44_0 := Z.up HB.out hx44_0
   obtain ⟨Ao15, co15, eo15⟩ := Kd.R_slice HO_9.out
   subst eo15
   have p45 : (0 ≤ ((rd l2 x10_1) : Int)) = True := Z.oe
   have q45 : ((rd l2 x10_1) < (t48.length : Int)) = True := Z.oe
   obtain ⟨ad45, e45, hx45_0⟩ := Kd.at_int (Kd.R_reads' HO_9.out).2.2 (rd l2 x10_1) Z.od Z.od
   cases e45
   go_wp2
   go_ret
   exact ⟨by rfl, Z.bs HB.out GE38.out⟩
  have H' := Z.k H
  clear H
  have p44 : 0 ≤ (x10_1 : Int) := Z.od
  have q44 : x10_1 < (l2.length : Int) := Z.od
  obtain ⟨ad44, rfl, hx44_0⟩ := Kd.at_int HR2.out x10_1 p44 q44
  replace hx44_0 := Z.up HB.out hx44_0
  replace p44 := eq_true p44
  replace q44 := eq_true q44
  obtain ⟨Ao16, co16, eo16⟩ := Kd.R_slice HO_9.out
  subst eo16
  have p45 : 0 ≤ ((rd l2 x10_1) : Int) := Z.od
  have q45 : (rd l2 x10_1) < (t48.length : Int) := Z.od
  obtain ⟨ad45, e45, hx45_0⟩ := Kd.at_int (Kd.R_reads' HO_9.out).2.2 (rd l2 x10_1) p45 q45
  cases e45
  replace p45 := eq_true p45
  replace q45 := eq_true q45
  go_wp2
  go_roundg k1
  case measure => have := HK1.out; omega
  case rel => exact ⟨(wrap64 (x10_1 + 1)), (by rfl), H', ⟨by have := HK1.out; omega⟩, ⟨by (with_reducible skip); exact HO_9.out⟩, ⟨by (with_reducible skip); exact BK38.out⟩, ⟨Z.bs HB.out GE38.out⟩⟩
end Go.Proofs.Ytkogboechfieeaa.PAll

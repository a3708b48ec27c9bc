/- Walks of functions that laws of this seat reach, in the form of the print. -/
import Derived.Test.YtkogboechfieeaaCAll24
-- PRINTED
namespace Go.Proofs.Ytkogboechfieeaa.PAll
open Go.RowKit Go.Proofs.YtkogboechfieeaaW.PrintWords Go.Proofs.YtkogboechfieeaaW.PrintLast Go.Proofs.YtkogboechfieeaaW.PrintMore
attribute [local go_sem] max2_int min2_int max_two min_two max_three min_three max_four min_four
set_option linter.unusedVariables false
set_option linter.unusedSimpArgs false

/-! ### laws_sameInts: function 34 -/
def laws_sameInts.l0 : Nat → List Int → List Int → Int → Option (Bool)
 | 0, _, _, _ => none
 | k + 1, x0, x1, x5 => if x5 < (x0.length : Int) then (if 0 ≤ x5 then (if x5 < (x1.length : Int) then (if (rd x0 x5) = (rd x1 x5) then (laws_sameInts.l0 k x0 x1 (wrap64 (x5 + 1))) else (some false)) else (none)) else (none)) else (some true)
def laws_sameInts.f (k : Nat) (l0 : List Int) (l1 : List Int) : Option (Bool) := if (l0.length : Int) = (l1.length : Int) then (laws_sameInts.l0 k l0 l1 0) else (some false)
set_option maxHeartbeats 8000000 in
set_option maxRecDepth 100000 in
theorem laws_sameInts.calls (k : Nat) (A0 : Option Addr) (c0 : Nat) (l0 : List Int) (A1 : Option Addr) (c1 : Nat) (l1 : List Int) (r : Bool) (w : World) (hr0 : Kd.C (Kd.int .i64) w A0 l0.length l0) (hc0 : l0.length ≤ c0) (hr1 : Kd.C (Kd.int .i64) w A1 l1.length l1) (hc1 : l1.length ≤ c1) (h : laws_sameInts.f k l0 l1 = some r) :
  Calls Try.prog 34 #[.slice A0 l0.length c0, .slice A1 l1.length c1] w fun e w' => e = .returned (.bool r) ∧ Drawn0 w w' := by
 have HR0 := Z.k hr0
 have HC0 := Z.k hc0
 clear hr0 hc0
 have HR1 := Z.k hr1
 have HC1 := Z.k hc1
 clear hr1 hc1
 have H := h
 clear h
 unfold laws_sameInts.f at H
 by_cases c3 : (l0.length : Int) = (l1.length : Int)
 rotate_left
 ·rw [if_neg c3] at H
  have c3b0 : ((l0.length : Int) == (l1.length : Int)) = false := beq_eq_false_iff_ne.mpr c3
  have c3b1 : ((l0.length : Int) != (l1.length : Int)) = true := bne_iff_ne.mpr c3
  have c3b2 : (l0.length == l1.length) = false := by (simp at c3 ⊢; omega)
  obtain rfl := Option.some.inj H
  go_enter Try.func34, Try.ntmps34
  go_wp2
  go_ret
  exact ⟨by rfl, Drawn0.refl _⟩

 rw [if_pos c3] at H
 have c3b0 : ((l0.length : Int) == (l1.length : Int)) = true := beq_iff_eq.mpr c3
 have c3b1 : ((l0.length : Int) != (l1.length : Int)) = false := bne_eq_false_iff_eq.mpr c3
 have c3b2 : (l0.length == l1.length) = true := by (simp at c3 ⊢; omega)
 clear c3
 have H' := Z.k H
 clear H
 go_enter Try.func34, Try.ntmps34
 go_wp2
 go_loopg [5] k (fun kq v5 w' => ∃ (x5_1 : Int), v5 = .int .i64 x5_1 ∧ Aside0 (laws_sameInts.l0 kq l0 l1 x5_1 = some r) ∧ Aside0 (kq ≤ k) ∧ Drawn0 w w')
 case atStart => exact ⟨(0), (by rfl), H', ⟨Nat.le_refl _⟩, Drawn0.refl _⟩
 clear H'
 try clear c3b0
 try clear c3b1
 try clear c3b2
 obtain ⟨x5_1, rfl, HA, HK1, ⟨m1, rfl⟩⟩ := hrel
 cases gk with
 | zero => exact absurd HA.out (by simp [laws_sameInts.l0])
 | succ k1 =>
  have H := HA.out
  clear HA
  simp only [laws_sameInts.l0] at H
  revert H; refine Z.fm ?_ ?_ <;> intro c4b0 H
  ·obtain rfl := Option.some.inj H
   go_wp2
   go_ret
   exact ⟨by rfl, by repeat (first | exact Drawn0.refl _ | apply Drawn0.step)⟩
  obtain ⟨c5b0, H⟩ := Z.fd H
  obtain ⟨c6b0, H⟩ := Z.fd H
  by_cases c7 : (rd l0 x5_1) = (rd l1 x5_1)
  ·rw [if_pos c7] at H
   have c7b0 : ((rd l0 x5_1) == (rd l1 x5_1)) = true := beq_iff_eq.mpr c7
   have c7b1 : ((rd l0 x5_1) != (rd l1 x5_1)) = false := bne_eq_false_iff_eq.mpr c7
   clear c7
   have H' := Z.k H
   clear H
   have p1033 : 0 ≤ (x5_1 : Int) := Z.od
   have q1033 : x5_1 < (l0.length : Int) := Z.od
   obtain ⟨ad1033, rfl, hx1033_0⟩ := Kd.at_int HR0.out x5_1 p1033 q1033
   replace p1033 := eq_true p1033
   replace q1033 := eq_true q1033
   have p1034 : 0 ≤ (x5_1 : Int) := Z.od
   have q1034 : x5_1 < (l1.length : Int) := Z.od
   obtain ⟨ad1034, rfl, hx1034_0⟩ := Kd.at_int HR1.out x5_1 p1034 q1034
   replace p1034 := eq_true p1034
   replace q1034 := eq_true q1034
   go_wp2
   repeat (go_quiet (fail); try go_wp2)
   go_roundg k1
   case measure => have := HK1.out; omega
   case rel => exact ⟨(wrap64 (x5_1 + 1)), (by rfl), H', ⟨by have := HK1.out; omega⟩, by repeat (first | exact Drawn0.refl _ | apply Drawn0.step)⟩
  rw [if_neg c7] at H
  have c7b0 : ((rd l0 x5_1) == (rd l1 x5_1)) = false := beq_eq_false_iff_ne.mpr c7
  have c7b1 : ((rd l0 x5_1) != (rd l1 x5_1)) = true := bne_iff_ne.mpr c7
  obtain rfl := Option.some.inj H
  have p1033 : 0 ≤ (x5_1 : Int) := Z.od
  have q1033 : x5_1 < (l0.length : Int) := Z.od
  obtain ⟨ad1033, rfl, hx1033_0⟩ := Kd.at_int HR0.out x5_1 p1033 q1033
  replace p1033 := eq_true p1033
  replace q1033 := eq_true q1033
  have p1034 : 0 ≤ (x5_1 : Int) := Z.od
  have q1034 : x5_1 < (l1.length : Int) := Z.od
  obtain ⟨ad1034, rfl, hx1034_0⟩ := Kd.at_int HR1.out x5_1 p1034 q1034
  replace p1034 := eq_true p1034
  replace q1034 := eq_true q1034
  go_wp2
  repeat (go_quiet (fail); try go_wp2)
  go_ret
  exact ⟨by rfl, by repeat (first | exact Drawn0.refl _ | apply Drawn0.step)⟩
/-! ### impl_ValidActs: function 35 -/
mutual
def impl_ValidActs.j0 : Nat → List Int → List (S59) → Bool → Int → List Int → List (List (S37)) → Option ((List (S59)))
 | 0, _, _, _, _, _, _ => none
 | k + 1, x1, x2, x19, x1014000, x1014001, x1014002 => if x19 = true then (some ([] : List (S59))) else ((some (([] : List Int) : List Int)).bind fun y1015 => (if y1015.length + x1.length < 17592186044416 then (impl_ValidActs.l0 k (y1015 ++ x1) (([] : List (S59))) x2 (x2.length : Int) 0 x1014000 x1014001 x1014002) else (none)))
def impl_ValidActs.l0 : Nat → List Int → List (S59) → List (S59) → Int → Int → Int → List Int → List (List (S37)) → Option ((List (S59)))
 | 0, _, _, _, _, _, _, _, _ => none
 | k + 1, x7, x8, x24, x25, x26, x1014000, x1014001, x1014002 => if x26 < x25 then (if 0 ≤ x26 then (if x26 < (x24.length : Int) then ((impl_mayAct.f k x1014000 x1014001 x1014002 x7 ((rd_T59 x24 x26).f0) ((rd_T59 x24 x26).f1) ((rd_T59 x24 x26).f2)).bind fun t1026 => (if t1026 = true then (if 0 ≤ ((rd_T59 x24 x26).f0) then (if ((rd_T59 x24 x26).f0) < (x7.length : Int) then (if x8.length < 5864062014805 then (impl_ValidActs.l0 k (x7.set (((rd_T59 x24 x26).f0) : Int).toNat ((rd_T59 x24 x26).f1)) (x8 ++ [(⟨(rd_T59 x24 x26).f0, (rd_T59 x24 x26).f1, (rd_T59 x24 x26).f2⟩ : S59)]) x24 x25 (wrap64 (x26 + 1)) x1014000 x1014001 x1014002) else (none)) else (none)) else (none)) else (impl_ValidActs.l0 k x7 x8 x24 x25 (wrap64 (x26 + 1)) x1014000 x1014001 x1014002))) else (none)) else (none)) else (some x8)
end
def impl_ValidActs.f (k : Nat) (a0_0 : Int) (l0_1 : List Int) (l0_2 : List (List (S37))) (l1 : List Int) (l2 : List (S59)) : Option ((List (S59))) := (impl_isState.f k a0_0 l0_1 l0_2 l1).bind fun t1014 => (if t1014 = true then (impl_ValidActs.j0 k l1 l2 (decide ((l2.length : Int) > 12)) a0_0 l0_1 l0_2) else (impl_ValidActs.j0 k l1 l2 true a0_0 l0_1 l0_2))
set_option maxHeartbeats 8000000 in
set_option maxRecDepth 100000 in
theorem impl_ValidActs.calls (k : Nat) (a0_0 : Int) (A0_1 : Option Addr) (c0_1 : Nat) (l0_1 : List Int) (A0_2 : Option Addr) (c0_2 : Nat) (l0_2 : List (List (S37))) (A1 : Option Addr) (c1 : Nat) (l1 : List Int) (A2 : Option Addr) (c2 : Nat) (l2 : List (S59)) (r : List (S59)) (w : World) (hr0_1 : Kd.C (Kd.int .i64) w A0_1 l0_1.length l0_1) (hc0_1 : l0_1.length ≤ c0_1) (hr0_2 : Kd.C (Kd.slice 37 k37) w A0_2 l0_2.length l0_2) (hc0_2 : l0_2.length ≤ c0_2) (hr1 : Kd.C (Kd.int .i64) w A1 l1.length l1) (hc1 : l1.length ≤ c1) (hr2 : Kd.C k59 w A2 l2.length l2) (hc2 : l2.length ≤ c2) (h : impl_ValidActs.f k a0_0 l0_1 l0_2 l1 l2 = some r) :
  Calls Try.prog 35 #[.agg #[.int .i64 a0_0, .slice A0_1 l0_1.length c0_1, .slice A0_2 l0_2.length c0_2], .slice A1 l1.length c1, .slice A2 l2.length c2] w fun e w' => ∃ v0_ : Value, e = .returned (v0_) ∧ Kd.R k59 59 w' w.heap.size (fun _ => True) v0_ r ∧ Below w.heap.size w w' := by
 have hu46 := Try.underlying28
 have hu48 := Try.underlying59
 have HR0_1 := Z.k hr0_1
 have HC0_1 := Z.k hc0_1
 clear hr0_1 hc0_1
 have HR0_2 := Z.k hr0_2
 have HC0_2 := Z.k hc0_2
 clear hr0_2 hc0_2
 have HR1 := Z.k hr1
 have HC1 := Z.k hc1
 clear hr1 hc1
 have HR2 := Z.k hr2
 have HC2 := Z.k hc2
 clear hr2 hc2
 have HB := Z.k (Below.refl w.heap.size w)
 have H := h
 clear h
 unfold impl_ValidActs.f at H
 have HC4 := Z.k H
 clear H
 go_enter Try.func35, Try.ntmps35
 go_upto_region 1 with (((with_reducible refine gate_dst (N := 3) rfl ?_); (try (refine gate_guard (by rfl) ?_; dsimp only)); refine Z.bx #[.int .i64 a0_0, .slice A0_1 l0_1.length c0_1, .slice A0_2 l0_2.length c0_2] 28 HB ?_; clear HB; intro gb1013 w5 BK1013 GE1013 HB hg hb; have GW1013 := GE1013; clear hb hg))
 go_cut [19] (fun v19 wc => ∃ (kq : Nat) (x19_3 : Bool), v19 = .bool x19_3 ∧ Aside0 (impl_ValidActs.j0 kq l1 l2 x19_3 a0_0 l0_1 l0_2 = some r) ∧ Aside0 (kq ≤ k) ∧ Aside0 (wc.heap[gb1013]? = some (.cells #[.int .i64 a0_0, (.slice A0_1 l0_1.length c0_1), (.slice A0_2 l0_2.length c0_2)] 28 (0, 0))) ∧ Aside0 (Below w.heap.size w wc))
 case first =>
  have H := HC4.out
  clear HC4
  revert H; refine Z.bd ?_; rintro t1014 A6 H
  by_cases c7 : t1014 = true
  ·subst c7
   rw [if_pos rfl] at H
   have H' := Z.k H
   clear H
   have hcz8 := Z.c3 BK1013.out
   go_wp2_with (((with_reducible refine gate_callee (f := 62) rfl ?_); refine goesL_ (some 13) rfl rfl Try.func62 (by kernel_rfl) rfl #[.agg #[.int .i64 a0_0, .slice A0_1 l0_1.length c0_1, .slice A0_2 l0_2.length c0_2], .slice A1 l1.length c1] rfl Z.ar ?_; (with_reducible refine (impl_isState.calls k a0_0 _ _ l0_1 _ _ l0_2 _ _ l1 true _ ?q1 ?q2 ?q3 ?q4 ?q5 ?q6 A6.out).mono ?_); (case q1 => exact Z.cc HR0_1 HB); (case q2 => exact HC0_1.out); (case q3 => exact Z.cc HR0_2 HB); (case q4 => exact HC0_2.out); (case q5 => exact Z.cc HR1 HB); (case q6 => exact HC1.out); rintro e w9 ⟨rfl, hb⟩; refine ⟨_, rfl, ?_⟩; replace BK1013 := Z.bb BK1013 hb; replace HB := Z.st (Z.bs HB.out GE1013.out) hb; (try clear hb)))
   go_meet
   case rel => exact ⟨_, (decide ((l2.length : Int) > 12)), (by rfl), H', ⟨by omega⟩, ⟨by exact BK1013.out⟩, ⟨Z.bs HB.out GE1013.out⟩⟩
  replace c7 := Bool.eq_false_iff.mpr c7
  subst c7
  rw [if_neg (show ¬ (false = true) by decide)] at H
  have H' := Z.k H
  clear H
  have hcz10 := Z.c3 BK1013.out
  go_wp2_with (((with_reducible refine gate_callee (f := 62) rfl ?_); refine goesL_ (some 13) rfl rfl Try.func62 (by kernel_rfl) rfl #[.agg #[.int .i64 a0_0, .slice A0_1 l0_1.length c0_1, .slice A0_2 l0_2.length c0_2], .slice A1 l1.length c1] rfl Z.ar ?_; (with_reducible refine (impl_isState.calls k a0_0 _ _ l0_1 _ _ l0_2 _ _ l1 false _ ?q1 ?q2 ?q3 ?q4 ?q5 ?q6 A6.out).mono ?_); (case q1 => exact Z.cc HR0_1 HB); (case q2 => exact HC0_1.out); (case q3 => exact Z.cc HR0_2 HB); (case q4 => exact HC0_2.out); (case q5 => exact Z.cc HR1 HB); (case q6 => exact HC1.out); rintro e w11 ⟨rfl, hb⟩; refine ⟨_, rfl, ?_⟩; replace BK1013 := Z.bb BK1013 hb; replace HB := Z.st (Z.bs HB.out GE1013.out) hb; (try clear hb)))
  go_meet
  case rel => exact ⟨_, (true), (by rfl), H', ⟨by omega⟩, ⟨by exact BK1013.out⟩, ⟨Z.bs HB.out GE1013.out⟩⟩
 case rest =>
  clear HC4
  obtain ⟨kq, x19_3, rfl, HA, HJ3, BK1013, HB⟩ := hcut
  cases kq with
  | zero => exact absurd HA.out (by simp [impl_ValidActs.j0])
  | succ kj3 =>
   have H := HA.out
   clear HA
   simp only [impl_ValidActs.j0] at H
   by_cases c12 : x19_3 = true
   ·subst c12
    rw [if_pos rfl] at H
    obtain rfl := Option.some.inj H
    go_wp2
    go_ret
    exact ⟨_, by rfl, by exact Kd.R_nil _ _ _ _ _, Z.bs HB.out GE1013.out⟩
   replace c12 := Bool.eq_false_iff.mpr c12
   subst c12
   rw [if_neg (show ¬ (false = true) by decide)] at H
   obtain ⟨y1015, hy1015⟩ : ∃ y_ : List Int, y_ = (([] : List Int)) := ⟨_, rfl⟩
   replace H : (if y1015.length + l1.length < 17592186044416 then (impl_ValidActs.l0 kj3 (y1015 ++ l1) (([] : List (S59))) l2 (l2.length : Int) 0 a0_0 l0_1 l0_2) else (none)) = some r := by (have H2_ := (Option.bind_some _ _).symm.trans H; rw [hy1015]; with_reducible exact H2_)
   have Ny1015 := Z.k hy1015
   clear hy1015
   obtain ⟨c13, H⟩ := Z.ifp H
   have LMc13 := Z.k c13
   clear c13
   obtain ⟨y1018, hy1018⟩ : ∃ y_ : List Int, y_ = (y1015 ++ l1) := ⟨_, rfl⟩
   replace H : (impl_ValidActs.l0 kj3 y1018 (([] : List (S59))) l2 (l2.length : Int) 0 a0_0 l0_1 l0_2) = some r := by (rw [hy1018]; with_reducible exact H)
   have Ny1018 := Z.k hy1018
   clear hy1018
   obtain ⟨y1021, hy1021⟩ : ∃ y_ : List (S59), y_ = (([] : List (S59))) := ⟨_, rfl⟩
   replace H : (impl_ValidActs.l0 kj3 y1018 y1021 l2 (l2.length : Int) 0 a0_0 l0_1 l0_2) = some r := by (rw [hy1021]; with_reducible exact H)
   have Ny1021 := Z.k hy1021
   clear hy1021
   have H' := Z.k H
   clear H
   go_wp2_with (first | ((with_reducible refine gate_dst (N := 20) rfl ?_); (try (refine gate_guard (by rfl) ?_; dsimp only)); refine Kd.R_lit (Kd.int .i64) _ 3 ?hg (N := 20) ?hd (xs := ([] : List Int)) (inner := []) (ok := fun _ => True) (okp := fun _ => True) ?hr ?hp (fun _ hk => hk) trivial (Below.refl _ _) (Nat.le_refl _) (by simp) ?_; (case hd | hg => rfl); (case hr => (go_simp; done)); (case hp => exact (Reps.none _ _)); intro v1016 w14 ho15 hb hg_ hnew_; clear hg_ hnew_; (rw [← Ny1015.out] at ho15); have HO1017 := Z.k (Kd.R_lower ho15 (below_size (Z.bs HB.out GE1013.out))); replace BK1013 := Z.bb BK1013 hb; replace HB := Z.st (Z.bs HB.out GE1013.out) hb; clear hb ho15) | ((with_reducible refine gate_builtin (b := .append) (xs := #[.tmp 20, .tmp 21]) rfl ?_); (try (refine gate_guard (by rfl) ?_; dsimp only)); at_builtin; refine Kd.R_append_rows (Kd.int .i64) (w0 := w) w.heap.size rfl (.tmp 20) (.tmp 21) 23 3 (.int .i64 0) 8 rfl Try.underlying23 info3 rfl (by decide) (by omega) v1016 y1015 l1 _ _ _ (fun _ => True) (fun _ => False) rfl rfl ?aO ?aR (fun _ _ h => h) (fun _ h => h.elim) ?aF ?aB ?aS ?aL ?_; (case aR => exact Z.cc HR1 HB); (case aB => exact (Z.bs HB.out GE1013.out)); (case aF => exact (fun _ _ => trivial)); (case aO => exact HO1017.out); (case aS => exact (below_size (Z.bs HB.out GE1013.out))); (case aL => have := LMc13.out; omega); intro v1019 w16 ho hb hg hat; rw [← Ny1018.out] at ho; replace BK1013 := Z.k (blk_grown (g := gb1013) (o := .cells #[.int .i64 a0_0, .slice A0_1 l0_1.length c0_1, .slice A0_2 l0_2.length c0_2] 28 (0, 0)) (Z.bk BK1013.out) hg (Kd.R_ne HO1017.out BK1013.out (by decide))); replace HB := Z.k hb; have HO1020 := Z.k ho; clear HO1017; clear ho hb hg hat) | ((with_reducible refine gate_dst (N := 23) rfl ?_); (try (refine gate_guard (by rfl) ?_; dsimp only)); refine Kd.R_lit k59 _ 59 ?hg (N := 23) ?hd (xs := ([] : List (S59))) (inner := []) (ok := fun _ => True) (okp := fun _ => True) ?hr ?hp (fun _ hk => hk) trivial (Below.refl _ _) (Nat.le_refl _) (by simp) ?_; (case hd | hg => rfl); (case hr => (go_simp; done)); (case hp => exact (Reps.none _ _)); intro v1022 w17 ho18 hb hg_ hnew_; clear hg_ hnew_; (rw [← Ny1021.out] at ho18); replace HO1020 := Z.rb HO1020 hb; have HO1023 := Z.k (Kd.R_lower ho18 (below_size (Z.bs HB.out GE1013.out))); replace BK1013 := Z.bb BK1013 hb; replace HB := Z.st (Z.bs HB.out GE1013.out) hb; clear hb ho18))
   go_loopg [8, 26] kj3 (fun kq v8 v26 w' => ∃ (x7_2 : List Int) (x8_2 : List (S59)) (x26_2 : Int), v26 = .int .i64 x26_2 ∧ Aside0 (impl_ValidActs.l0 kq x7_2 x8_2 l2 (l2.length : Int) x26_2 a0_0 l0_1 l0_2 = some r) ∧ Aside0 (kq ≤ kj3) ∧ Aside0 (Kd.R (Kd.int .i64) 3 w' w.heap.size (fun _ => True) v1019 x7_2) ∧ Aside0 (Kd.R k59 59 w' w.heap.size (fun _ => True) v8 x8_2) ∧ Aside0 (w'.heap[gb1013]? = some (.cells #[.int .i64 a0_0, (.slice A0_1 l0_1.length c0_1), (.slice A0_2 l0_2.length c0_2)] 28 (0, 0))) ∧ Aside0 (Below w.heap.size w w'))
   case atStart => exact ⟨(y1018), (y1021), (0), (by rfl), H', ⟨Nat.le_refl _⟩, ⟨by exact HO1020.out⟩, ⟨by exact HO1023.out⟩, ⟨by exact BK1013.out⟩, ⟨Z.bs HB.out GE1013.out⟩⟩
   clear H'
   obtain ⟨x7_2, x8_2, x26_2, rfl, HA, HK2, HO_7, HO_8, BK1013, HB⟩ := hrel
   cases gk with
   | zero => exact absurd HA.out (by simp [impl_ValidActs.l0])
   | succ k2 =>
    have H := HA.out
    clear HA
    simp only [impl_ValidActs.l0] at H
    revert H; refine Z.fm ?_ ?_ <;> intro c19b0 H
    ·obtain rfl := Option.some.inj H
     go_wp2
     go_ret
     exact ⟨_, by rfl, by exact HO_8.out, Z.bs HB.out GE1013.out⟩

    obtain ⟨c20b0, H⟩ := Z.fd H
    obtain ⟨c21b0, H⟩ := Z.fd H
    revert H; refine Z.bd ?_; rintro t1026 A22 H
    by_cases c23 : t1026 = true
    ·subst c23
     rw [if_pos rfl] at H
     obtain ⟨c24b0, H⟩ := Z.fd H
     obtain ⟨c25b0, H⟩ := Z.fd H
     obtain ⟨y1027, hy1027⟩ : ∃ y_ : List Int, y_ = (x7_2.set (((rd_T59 l2 x26_2).f0) : Int).toNat ((rd_T59 l2 x26_2).f1)) := ⟨_, rfl⟩
     replace H : (if x8_2.length < 5864062014805 then (impl_ValidActs.l0 k2 y1027 (x8_2 ++ [(⟨(rd_T59 l2 x26_2).f0, (rd_T59 l2 x26_2).f1, (rd_T59 l2 x26_2).f2⟩ : S59)]) l2 (l2.length : Int) (wrap64 (x26_2 + 1)) a0_0 l0_1 l0_2) else (none)) = some r := by (rw [hy1027]; with_reducible exact H)
     have Ny1027 := Z.k hy1027
     clear hy1027
     obtain ⟨c27, H⟩ := Z.ifp H
     have LMc27 := Z.k c27
     clear c27
     obtain ⟨y1028, hy1028⟩ : ∃ y_ : List (S59), y_ = (x8_2 ++ [(⟨(rd_T59 l2 x26_2).f0, (rd_T59 l2 x26_2).f1, (rd_T59 l2 x26_2).f2⟩ : S59)]) := ⟨_, rfl⟩
     replace H : (impl_ValidActs.l0 k2 y1027 y1028 l2 (l2.length : Int) (wrap64 (x26_2 + 1)) a0_0 l0_1 l0_2) = some r := by (rw [hy1028]; with_reducible exact H)
     have Ny1028 := Z.k hy1028
     clear hy1028
     have H' := Z.k H
     clear H
     have p1024 : 0 ≤ (x26_2 : Int) := Z.od
     have q1024 : x26_2 < (l2.length : Int) := Z.od
     obtain ⟨ad1024, rfl, hx1024_0, hx1024_1, hx1024_2⟩ := at_T59 HR2.out x26_2 p1024 q1024
     replace hx1024_0 := Z.up HB.out hx1024_0
     replace hx1024_1 := Z.up HB.out hx1024_1
     replace hx1024_2 := Z.up HB.out hx1024_2
     replace p1024 := eq_true p1024
     replace q1024 := eq_true q1024
     go_wp2_with (first | ((with_reducible refine gate_dst (N := 10) rfl ?_); (try (refine gate_guard (by rfl) ?_; dsimp only)); refine Z.bz #[.int .i64 0, .int .i64 0, .int .i64 0] 59 HB GE1013 ?_; clear HB; intro gb1025 w28 BK1025 GE1025 HB hg hb; have GW1025 := GE1025; replace HO_7 := Z.rb HO_7 hb; replace HO_8 := Z.k (Kd.R_below (Kd.R_elderB HO_8.out gb1025 (Nat.le_of_eq hg.symm)) hb); have NB1013_1025 := Z.nl hg BK1013; have NB1025_1013 := Z.ng hg BK1013; replace BK1013 := Z.bb BK1013 hb; clear hb hg; have hnb29 := NB1025_1013.out; have hnc29 := NB1013_1025.out; have hcz30 := Z.c3 BK1025.out; have hcz31 := Z.c3 BK1013.out; obtain ⟨Ao32, co32, eo32⟩ := Kd.R_slice HO_7.out; subst eo32) | ((with_reducible refine gate_callee (f := 78) rfl ?_); refine goesL_ (some 33) rfl rfl Try.func78 (by kernel_rfl) rfl #[.agg #[.int .i64 a0_0, .slice A0_1 l0_1.length c0_1, .slice A0_2 l0_2.length c0_2], .slice Ao32 x7_2.length co32, .agg #[.int .i64 ((rd_T59 l2 x26_2).f0), .int .i64 ((rd_T59 l2 x26_2).f1), .int .i64 ((rd_T59 l2 x26_2).f2)]] rfl Z.ar ?_; (with_reducible refine (impl_mayAct.calls k2 a0_0 _ _ l0_1 _ _ l0_2 _ _ x7_2 ((rd_T59 l2 x26_2).f0) ((rd_T59 l2 x26_2).f1) ((rd_T59 l2 x26_2).f2) true _ ?q1 ?q2 ?q3 ?q4 ?q5 ?q6 A22.out).mono ?_); (case q1 => exact Kd.C_below HR0_1.out (by repeat ((with_reducible first | exact HB.out | refine below_set ?_ GE1025.out)))); (case q2 => exact HC0_1.out); (case q3 => exact Kd.C_below HR0_2.out (by repeat ((with_reducible first | exact HB.out | refine below_set ?_ GE1025.out)))); (case q4 => exact HC0_2.out); (case q5 => refine (Kd.R_reads' (e := 3) (base := w.heap.size) (ok := fun k_ => True) (n := x7_2.length) (c := co32) ?_).2.2; exact (Kd.R_mono (Kd.R_far (p := ⟨gb1025, 2, none⟩) (Kd.R_far (p := ⟨gb1025, 1, none⟩) (Kd.R_far (p := ⟨gb1025, 0, none⟩) (Kd.R_types HO_7.out BK1025.out (by decide)) (fun _ hk => hk.2) (.int .i64 ((rd_T59 l2 x26_2).f0))) (fun _ hk => hk.2) (.int .i64 ((rd_T59 l2 x26_2).f1))) (fun _ hk => hk.2) (.int .i64 ((rd_T59 l2 x26_2).f2))) (fun _ h_ => h_.1))); (case q6 => exact (Kd.R_reads' HO_7.out).2.1); rintro e w33 ⟨rfl, hb⟩; refine ⟨_, rfl, ?_⟩; replace HO_7 := Z.k (Kd.R_below (Kd.R_mono (Kd.R_far (p := ⟨gb1025, 2, none⟩) (Kd.R_far (p := ⟨gb1025, 1, none⟩) (Kd.R_far (p := ⟨gb1025, 0, none⟩) (Kd.R_types HO_7.out BK1025.out (by decide)) (fun _ hk => hk.2) (.int .i64 ((rd_T59 l2 x26_2).f0))) (fun _ hk => hk.2) (.int .i64 ((rd_T59 l2 x26_2).f1))) (fun _ hk => hk.2) (.int .i64 ((rd_T59 l2 x26_2).f2))) (fun _ h_ => h_.1)) hb); replace HO_8 := Z.k (Kd.R_below (Kd.R_mono (Kd.R_far (p := ⟨gb1025, 2, none⟩) (Kd.R_far (p := ⟨gb1025, 1, none⟩) (Kd.R_far (p := ⟨gb1025, 0, none⟩) (Kd.R_mono HO_8.out (fun k_ hk => (⟨hk, hk.2⟩ : _ ∧ k_ ≠ gb1025))) (fun _ hk => hk.2) (.int .i64 ((rd_T59 l2 x26_2).f0))) (fun _ hk => hk.2) (.int .i64 ((rd_T59 l2 x26_2).f1))) (fun _ hk => hk.2) (.int .i64 ((rd_T59 l2 x26_2).f2))) (fun _ h_ => h_.1)) hb); replace BK1013 := Z.k (blk_below (g := gb1013) (o := .cells #[.int .i64 a0_0, .slice A0_1 l0_1.length c0_1, .slice A0_2 l0_2.length c0_2] 28 (0, 0)) (by refine blk_far ?_ NB1013_1025.out _; refine blk_far ?_ NB1013_1025.out _; refine blk_far ?_ NB1013_1025.out _; exact BK1013.out) hb); replace BK1025 := Z.k (blk_below (g := gb1025) (o := .cells #[.int .i64 ((rd_T59 l2 x26_2).f0), .int .i64 ((rd_T59 l2 x26_2).f1), .int .i64 ((rd_T59 l2 x26_2).f2)] 59 (0, 0)) (by refine blk_put (cs := #[.int .i64 ((rd_T59 l2 x26_2).f0), .int .i64 ((rd_T59 l2 x26_2).f1), .int .i64 0]) ?_ 2 _ rfl; refine blk_put (cs := #[.int .i64 ((rd_T59 l2 x26_2).f0), .int .i64 0, .int .i64 0]) ?_ 1 _ rfl; refine blk_put (cs := #[.int .i64 0, .int .i64 0, .int .i64 0]) ?_ 0 _ rfl; exact BK1025.out) hb); replace HB := Z.k (below_step (by repeat ((with_reducible first | exact HB.out | refine below_set ?_ GE1025.out))) hb); (try clear hb); have hcz34 := Z.c3 BK1025.out; have p26 : 0 ≤ (((rd_T59 l2 x26_2).f0) : Int) := Z.od; have q26 : (((rd_T59 l2 x26_2).f0) : Int) < ((x7_2.length : Int) : Int) := Z.od; obtain ⟨go26, co26, eo26, gb26, gl26, cl26, HG26⟩ := Kd.R_form HO_7.out (by omega); (cases eo26); have GB26 := Z.k gb26; have GG26 := Z.k HG26; clear gb26 gl26 HG26; obtain ⟨hx26_0, hf26_0⟩ := Kd.R_celln 0 HO_7.out (((rd_T59 l2 x26_2).f0) : Int) p26 q26; replace p26 := eq_true p26; replace q26 := eq_true q26; obtain ⟨hy35_, hz35_⟩ := Kd.R_celln 0 HO_7.out (((rd_T59 l2 x26_2).f0) : Int) (Z.od) (Z.od); have HP35 := Kd.R_putg HO_7.out (((rd_T59 l2 x26_2).f0) : Int) ((rd_T59 l2 x26_2).f1)) | ((with_reducible refine gate_store (t := 3) (p := 39) rfl ?_); refine store_event (t := 3) (p := 39) (v := ?vo_w36) (w1 := (w33.setCell ⟨go26, (((rd_T59 l2 x26_2).f0) : Int).toNat, none⟩ (.int .i64 ((rd_T59 l2 x26_2).f1)))) ?hg ?ho ?hn ?hr ?_; (case ho => rfl); (case hg => rfl); (case hn => rfl); (case hr => (go_simp; done)); intro w36 hw; have hg : w33.grownBy w36 (some go26) := (by rw [hw]; exact HP35.2); have hp_ : Kd.R (Kd.int .i64) 3 w36 w.heap.size (fun _ => True) (.slice (some ⟨go26, 0, none⟩) x7_2.length co32) y1027 := (by rw [hw, Ny1027.out]; exact HP35.1); clear HP35; replace HO_8 := Z.k (Kd.R_over' (v := (.slice (some ⟨go26, 0, none⟩) x7_2.length co32)) HO_8.out (Kd.R_typed HO_7.out) (by decide) hg); replace BK1013 := Z.k (blk_grown (g := gb1013) (o := .cells #[.int .i64 a0_0, .slice A0_1 l0_1.length c0_1, .slice A0_2 l0_2.length c0_2] 28 (0, 0)) (Z.bk BK1013.out) hg (Kd.R_ne HO_7.out BK1013.out (by decide))); replace BK1025 := Z.k (blk_grown (g := gb1025) (o := .cells #[.int .i64 ((rd_T59 l2 x26_2).f0), .int .i64 ((rd_T59 l2 x26_2).f1), .int .i64 ((rd_T59 l2 x26_2).f2)] 59 (0, 0)) (Z.bk BK1025.out) hg (Kd.R_ne HO_7.out BK1025.out (by decide))); replace HO_7 := Z.k hp_; replace HB := Z.k ((by rw [hw]; exact below_set (HB.out) GB26.out : Below w.heap.size w w36)); clear hg hw hp_; have hcz37 := Z.c3 BK1025.out) | ((with_reducible refine gate_builtin (b := .append) (xs := #[.tmp 40, .tmp 42]) rfl ?_); (try (refine gate_guard (by rfl) ?_; dsimp only)); at_builtin; refine Kd.R_append k59 (w0 := w) w.heap.size rfl (.tmp 40) (.tmp 42) 51 59 (.agg #[(.int .i64 0), (.int .i64 0), (.int .i64 0)]) 24 rfl Try.underlying51 info59 rfl (by decide) (by omega) u8 x8_2 (⟨(rd_T59 l2 x26_2).f0, (rd_T59 l2 x26_2).f1, (rd_T59 l2 x26_2).f2⟩ : S59) [.int .i64 ((rd_T59 l2 x26_2).f0), .int .i64 ((rd_T59 l2 x26_2).f1), .int .i64 ((rd_T59 l2 x26_2).f2)] (fun k_ => k_ ≠ gb1025) (fun _ => False) rfl rfl ?aP (fun _ hk => hk.elim) ?aF ?aO ?aB ?aS ?aL ?_; (case aP => exact k59_mkM _ _ _ (⟨(rd_T59 l2 x26_2).f0, (rd_T59 l2 x26_2).f1, (rd_T59 l2 x26_2).f2⟩ : S59)); (case aB => exact HB.out); (case aF => exact (fun k_ hk => Kd.freshB (g := gb1025) (o := .cells #[.int .i64 ((rd_T59 l2 x26_2).f0), .int .i64 ((rd_T59 l2 x26_2).f1), .int .i64 ((rd_T59 l2 x26_2).f2)] 59 (0, 0)) (Z.bk BK1025.out) k_ hk)); (case aO => exact (Kd.R_mono HO_8.out (fun _ hk => hk.2))); (case aS => exact (below_size HB.out)); (case aL => have := LMc27.out; omega); intro v1029 w38 ho hb hg hat; rw [← Ny1028.out] at ho; replace HO_7 := Z.k (Kd.R_over' HO_7.out (Kd.R_typed HO_8.out) (by decide) hg); replace BK1013 := Z.k (blk_grown (g := gb1013) (o := .cells #[.int .i64 a0_0, .slice A0_1 l0_1.length c0_1, .slice A0_2 l0_2.length c0_2] 28 (0, 0)) (Z.bk BK1013.out) hg (Kd.R_ne HO_8.out BK1013.out (by decide))); replace BK1025 := Z.k (blk_grown (g := gb1025) (o := .cells #[.int .i64 ((rd_T59 l2 x26_2).f0), .int .i64 ((rd_T59 l2 x26_2).f1), .int .i64 ((rd_T59 l2 x26_2).f2)] 59 (0, 0)) (Z.bk BK1025.out) hg (Kd.R_away HO_8.out (fun _ hk => hk.2))); replace HB := Z.k hb; have HO1030 := Z.k ho; clear HO_8; clear ho hb hg hat))
     go_roundg k2
     case measure => have := HJ3.out; have := HK2.out; omega
     case rel => exact ⟨(y1027), (y1028), (wrap64 (x26_2 + 1)), (by rfl), H', ⟨by have := HJ3.out; have := HK2.out; omega⟩, ⟨by exact HO_7.out⟩, ⟨by exact Kd.R_mono HO1030.out (fun _ hk => trivial)⟩, ⟨by exact BK1013.out⟩, ⟨HB.out⟩⟩
    replace c23 := Bool.eq_false_iff.mpr c23
    subst c23
    rw [if_neg (show ¬ (false = true) by decide)] at H
    have H' := Z.k H
    clear H
    have p1024 : 0 ≤ (x26_2 : Int) := Z.od
    have q1024 : x26_2 < (l2.length : Int) := Z.od
    obtain ⟨ad1024, rfl, hx1024_0, hx1024_1, hx1024_2⟩ := at_T59 HR2.out x26_2 p1024 q1024
    replace hx1024_0 := Z.up HB.out hx1024_0
    replace hx1024_1 := Z.up HB.out hx1024_1
    replace hx1024_2 := Z.up HB.out hx1024_2
    replace p1024 := eq_true p1024
    replace q1024 := eq_true q1024
    go_wp2_with (first | ((with_reducible refine gate_dst (N := 10) rfl ?_); (try (refine gate_guard (by rfl) ?_; dsimp only)); refine Z.bz #[.int .i64 0, .int .i64 0, .int .i64 0] 59 HB GE1013 ?_; clear HB; intro gb1025 w39 BK1025 GE1025 HB hg hb; have GW1025 := GE1025; replace HO_7 := Z.rb HO_7 hb; replace HO_8 := Z.k (Kd.R_below (Kd.R_elderB HO_8.out gb1025 (Nat.le_of_eq hg.symm)) hb); have NB1013_1025 := Z.nl hg BK1013; have NB1025_1013 := Z.ng hg BK1013; replace BK1013 := Z.bb BK1013 hb; clear hb hg; have hnb40 := NB1025_1013.out; have hnc40 := NB1013_1025.out; have hcz41 := Z.c3 BK1025.out; have hcz42 := Z.c3 BK1013.out; obtain ⟨Ao43, co43, eo43⟩ := Kd.R_slice HO_7.out; subst eo43) | ((with_reducible refine gate_callee (f := 78) rfl ?_); refine goesL_ (some 33) rfl rfl Try.func78 (by kernel_rfl) rfl #[.agg #[.int .i64 a0_0, .slice A0_1 l0_1.length c0_1, .slice A0_2 l0_2.length c0_2], .slice Ao43 x7_2.length co43, .agg #[.int .i64 ((rd_T59 l2 x26_2).f0), .int .i64 ((rd_T59 l2 x26_2).f1), .int .i64 ((rd_T59 l2 x26_2).f2)]] rfl Z.ar ?_; (with_reducible refine (impl_mayAct.calls k2 a0_0 _ _ l0_1 _ _ l0_2 _ _ x7_2 ((rd_T59 l2 x26_2).f0) ((rd_T59 l2 x26_2).f1) ((rd_T59 l2 x26_2).f2) false _ ?q1 ?q2 ?q3 ?q4 ?q5 ?q6 A22.out).mono ?_); (case q1 => exact Kd.C_below HR0_1.out (by repeat ((with_reducible first | exact HB.out | refine below_set ?_ GE1025.out)))); (case q2 => exact HC0_1.out); (case q3 => exact Kd.C_below HR0_2.out (by repeat ((with_reducible first | exact HB.out | refine below_set ?_ GE1025.out)))); (case q4 => exact HC0_2.out); (case q5 => refine (Kd.R_reads' (e := 3) (base := w.heap.size) (ok := fun k_ => True) (n := x7_2.length) (c := co43) ?_).2.2; exact (Kd.R_mono (Kd.R_far (p := ⟨gb1025, 2, none⟩) (Kd.R_far (p := ⟨gb1025, 1, none⟩) (Kd.R_far (p := ⟨gb1025, 0, none⟩) (Kd.R_types HO_7.out BK1025.out (by decide)) (fun _ hk => hk.2) (.int .i64 ((rd_T59 l2 x26_2).f0))) (fun _ hk => hk.2) (.int .i64 ((rd_T59 l2 x26_2).f1))) (fun _ hk => hk.2) (.int .i64 ((rd_T59 l2 x26_2).f2))) (fun _ h_ => h_.1))); (case q6 => exact (Kd.R_reads' HO_7.out).2.1); rintro e w44 ⟨rfl, hb⟩; refine ⟨_, rfl, ?_⟩; replace HO_7 := Z.k (Kd.R_below (Kd.R_mono (Kd.R_far (p := ⟨gb1025, 2, none⟩) (Kd.R_far (p := ⟨gb1025, 1, none⟩) (Kd.R_far (p := ⟨gb1025, 0, none⟩) (Kd.R_types HO_7.out BK1025.out (by decide)) (fun _ hk => hk.2) (.int .i64 ((rd_T59 l2 x26_2).f0))) (fun _ hk => hk.2) (.int .i64 ((rd_T59 l2 x26_2).f1))) (fun _ hk => hk.2) (.int .i64 ((rd_T59 l2 x26_2).f2))) (fun _ h_ => h_.1)) hb); replace HO_8 := Z.k (Kd.R_below (Kd.R_mono (Kd.R_far (p := ⟨gb1025, 2, none⟩) (Kd.R_far (p := ⟨gb1025, 1, none⟩) (Kd.R_far (p := ⟨gb1025, 0, none⟩) (Kd.R_mono HO_8.out (fun k_ hk => (⟨hk, hk.2⟩ : _ ∧ k_ ≠ gb1025))) (fun _ hk => hk.2) (.int .i64 ((rd_T59 l2 x26_2).f0))) (fun _ hk => hk.2) (.int .i64 ((rd_T59 l2 x26_2).f1))) (fun _ hk => hk.2) (.int .i64 ((rd_T59 l2 x26_2).f2))) (fun _ h_ => h_.1)) hb); replace BK1013 := Z.k (blk_below (g := gb1013) (o := .cells #[.int .i64 a0_0, .slice A0_1 l0_1.length c0_1, .slice A0_2 l0_2.length c0_2] 28 (0, 0)) (by refine blk_far ?_ NB1013_1025.out _; refine blk_far ?_ NB1013_1025.out _; refine blk_far ?_ NB1013_1025.out _; exact BK1013.out) hb); replace BK1025 := Z.k (blk_below (g := gb1025) (o := .cells #[.int .i64 ((rd_T59 l2 x26_2).f0), .int .i64 ((rd_T59 l2 x26_2).f1), .int .i64 ((rd_T59 l2 x26_2).f2)] 59 (0, 0)) (by refine blk_put (cs := #[.int .i64 ((rd_T59 l2 x26_2).f0), .int .i64 ((rd_T59 l2 x26_2).f1), .int .i64 0]) ?_ 2 _ rfl; refine blk_put (cs := #[.int .i64 ((rd_T59 l2 x26_2).f0), .int .i64 0, .int .i64 0]) ?_ 1 _ rfl; refine blk_put (cs := #[.int .i64 0, .int .i64 0, .int .i64 0]) ?_ 0 _ rfl; exact BK1025.out) hb); replace HB := Z.k (below_step (by repeat ((with_reducible first | exact HB.out | refine below_set ?_ GE1025.out))) hb); (try clear hb)))
    go_roundg k2
    case measure => have := HJ3.out; have := HK2.out; omega
    case rel => exact ⟨(x7_2), (x8_2), (wrap64 (x26_2 + 1)), (by rfl), H', ⟨by have := HJ3.out; have := HK2.out; omega⟩, ⟨by exact HO_7.out⟩, ⟨by exact Kd.R_mono HO_8.out (fun _ hk => trivial)⟩, ⟨by exact BK1013.out⟩, ⟨HB.out⟩⟩
end Go.Proofs.Ytkogboechfieeaa.PAll

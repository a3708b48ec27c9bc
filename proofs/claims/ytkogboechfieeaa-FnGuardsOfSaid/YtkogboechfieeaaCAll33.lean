/- Walks of functions that laws of this seat reach, in the form of the print. -/
import Derived.Test.YtkogboechfieeaaCAll1
-- PRINTED
namespace Go.Proofs.Ytkogboechfieeaa.PAll
open Go.RowKit Go.Proofs.YtkogboechfieeaaW.PrintWords Go.Proofs.YtkogboechfieeaaW.PrintLast Go.Proofs.YtkogboechfieeaaW.PrintMore
attribute [local go_sem] max2_int min2_int max_two min_two max_three min_three max_four min_four
set_option linter.unusedVariables false
set_option linter.unusedSimpArgs false

/-! ### spec_l1Least: function 86 -/
mutual
def spec_l1Least.l0 : Nat → Int → List Int → List Int → Int → Option (List Int)
 | 0, _, _, _, _ => none
 | k + 1, x0, x1, x5, x6 => if 0 ≤ x0 then (if x6 < (shl .i64 1 x0) then (spec_l1Least.l1 k x0 x1 x5 x6 false true 0) else (some x5)) else (none)
def spec_l1Least.l1 : Nat → Int → List Int → List Int → Int → Bool → Bool → Int → Option (List Int)
 | 0, _, _, _, _, _, _, _ => none
 | k + 1, x0, x1, x5, x6, x7, x8, x9 => if x9 < (x1.length : Int) then (if x7 = true then (if x8 = true then (if 0 ≤ x9 then (if (rd x1 x9) = x6 then (spec_l1Least.l1 k x0 x1 x5 x6 true true (wrap64 (x9 + 1))) else (spec_l1Least.l1 k x0 x1 x5 x6 true ((Go.bits .and .i64 (rd x1 x9) x6) != (rd x1 x9)) (wrap64 (x9 + 1)))) else (none)) else (spec_l1Least.l1 k x0 x1 x5 x6 true false (wrap64 (x9 + 1)))) else (if 0 ≤ x9 then (if x8 = true then (if (rd x1 x9) = x6 then (spec_l1Least.l1 k x0 x1 x5 x6 ((rd x1 x9) == x6) true (wrap64 (x9 + 1))) else (spec_l1Least.l1 k x0 x1 x5 x6 ((rd x1 x9) == x6) ((Go.bits .and .i64 (rd x1 x9) x6) != (rd x1 x9)) (wrap64 (x9 + 1)))) else (spec_l1Least.l1 k x0 x1 x5 x6 ((rd x1 x9) == x6) false (wrap64 (x9 + 1)))) else (none))) else (if x7 = true then (if x8 = true then (if x5.length < 17592186044416 then (spec_l1Least.l0 k x0 x1 (x5 ++ [x6]) (wrap64 (x6 + 1))) else (none)) else (spec_l1Least.l0 k x0 x1 x5 (wrap64 (x6 + 1)))) else (spec_l1Least.l0 k x0 x1 x5 (wrap64 (x6 + 1))))
end
def spec_l1Least.f (k : Nat) (a0 : Int) (l1 : List Int) : Option (List Int) := spec_l1Least.l0 k a0 l1 (([] : List Int)) 0
set_option maxHeartbeats 8000000 in
set_option maxRecDepth 100000 in
theorem spec_l1Least.calls (k : Nat) (a0 : Int) (A1 : Option Addr) (c1 : Nat) (l1 : List Int) (r : List Int) (w : World) (hr1 : Kd.C (Kd.int .i64) w A1 l1.length l1) (hc1 : l1.length ≤ c1) (h : spec_l1Least.f k a0 l1 = some r) :
  Calls Try.prog 86 #[.int .i64 a0, .slice A1 l1.length c1] w fun e w' => ∃ v0_ : Value, e = .returned (v0_) ∧ Kd.R (Kd.int .i64) 3 w' w.heap.size (fun _ => True) v0_ r ∧ Below w.heap.size w w' := by
 have HR1 := Z.k hr1
 have HC1 := Z.k hc1
 clear hr1 hc1
 have HB := Z.k (Below.refl w.heap.size w)
 have H := h
 clear h
 unfold spec_l1Least.f at H
 obtain ⟨y22, hy22⟩ : ∃ y_ : List Int, y_ = (([] : List Int)) := ⟨_, rfl⟩
 replace H : (spec_l1Least.l0 k a0 l1 y22 0) = some r := by first | (rw [hy22]; with_reducible exact H) | (have H2_ := (Option.bind_some _ _).symm.trans H; rw [hy22]; with_reducible exact H2_) | (have H2_ := (Option.bind_some _ _).symm.trans H; with_reducible exact H2_) | with_reducible exact H | (rw [hy22]; exact H) | exact H
 have Ny22 := Z.k hy22
 clear hy22
 have H' := Z.k H
 clear H
 go_enter Try.func86, Try.ntmps86
 go_wp2_with (first | ((with_reducible refine gate_dst (N := 10) rfl ?_); refine Kd.R_lit (Kd.int .i64) _ 3 ?hg (N := 10) ?hd (xs := ([] : List Int)) (inner := []) (ok := fun _ => True) (okp := fun _ => True) ?hr ?hp (fun _ hk => hk) trivial (Below.refl _ _) (Nat.le_refl _) (by simp) ?_; (case hd | hg => rfl); (case hr => first | (go_simp; done) | (go_simp; rfl)); (case hp => exact (Reps.none _ _)); intro v32 w3 ho4 hb hg_ hnew_; clear hg_ hnew_; (first | rw [← Ny22.out] at ho4 | (simp only [Int.reduceToNat] at ho4; rw [← Ny22.out] at ho4)); have HO30 := Z.k (Kd.R_lower ho4 (below_size (Z.bl HB.out))); replace HB := Z.st (Z.bl HB.out) hb; clear hb ho4))
 repeat (go_quiet (first | ((with_reducible refine gate_dst (N := 10) rfl ?_); refine Kd.R_lit (Kd.int .i64) _ 3 ?hg (N := 10) ?hd (xs := ([] : List Int)) (inner := []) (ok := fun _ => True) (okp := fun _ => True) ?hr ?hp (fun _ hk => hk) trivial (Below.refl _ _) (Nat.le_refl _) (by simp) ?_; (case hd | hg => rfl); (case hr => first | (go_simp; done) | (go_simp; rfl)); (case hp => exact (Reps.none _ _)); intro v32 w3 ho4 hb hg_ hnew_; clear hg_ hnew_; (first | rw [← Ny22.out] at ho4 | (simp only [Int.reduceToNat] at ho4; rw [← Ny22.out] at ho4)); have HO30 := Z.k (Kd.R_lower ho4 (below_size (Z.bl HB.out))); replace HB := Z.st (Z.bl HB.out) hb; clear hb ho4)); try go_wp2_with (first | ((with_reducible refine gate_dst (N := 10) rfl ?_); refine Kd.R_lit (Kd.int .i64) _ 3 ?hg (N := 10) ?hd (xs := ([] : List Int)) (inner := []) (ok := fun _ => True) (okp := fun _ => True) ?hr ?hp (fun _ hk => hk) trivial (Below.refl _ _) (Nat.le_refl _) (by simp) ?_; (case hd | hg => rfl); (case hr => first | (go_simp; done) | (go_simp; rfl)); (case hp => exact (Reps.none _ _)); intro v32 w3 ho4 hb hg_ hnew_; clear hg_ hnew_; (first | rw [← Ny22.out] at ho4 | (simp only [Int.reduceToNat] at ho4; rw [← Ny22.out] at ho4)); have HO30 := Z.k (Kd.R_lower ho4 (below_size (Z.bl HB.out))); replace HB := Z.st (Z.bl HB.out) hb; clear hb ho4)))
 go_loopg [5, 6] k (fun kq v5 v6 w' => ∃ (x5_1 : List Int) (x6_1 : Int), v6 = .int .i64 x6_1 ∧ Aside0 (spec_l1Least.l0 kq a0 l1 x5_1 x6_1 = some r) ∧ Aside0 (kq ≤ k) ∧ Aside0 (Kd.R (Kd.int .i64) 3 w' w.heap.size (fun _ => True) v5 x5_1) ∧ Aside0 (Below w.heap.size w w'))
 case atStart => exact ⟨(y22), (0), (by first | rfl | (simp; done) | (simp [*]; done)), H', ⟨Nat.le_refl _⟩, ⟨by (with_reducible repeat (first | apply Kd.R_alloc | apply Kd.R_drewN | apply Kd.R_drew)); exact HO30.out⟩, ⟨Z.bl HB.out⟩⟩
 clear H'
 try clear c1
 try clear p2
 obtain ⟨x5_1, x6_1, rfl, HA, HK1, HO_5, HB⟩ := hrel
 cases gk with
 | zero => exact absurd HA.out (by simp [spec_l1Least.l0])
 | succ k1 =>
  have H := HA.out
  clear HA
  simp only [spec_l1Least.l0] at H
  obtain ⟨c5, H⟩ := Z.ifp H
  have c5b0 := eq_true c5
  have c5b1 : decide (0 ≤ a0) = true := decide_eq_true c5
  clear c5
  obtain ⟨ji6, hji6⟩ : ∃ j_ : Int, (shl .i64 1 a0) = j_ := ⟨_, rfl⟩
  replace H : (if x6_1 < (ji6) then (spec_l1Least.l1 k1 a0 l1 x5_1 x6_1 false true 0) else (some x5_1)) = some r := by first | (rw [hji6] at H; exact H) | (simp only [hji6] at H ⊢; exact H)
  have hji6_ : (IntKind.i64.wrap (1 * 2 ^ min a0.toNat 64)) = ji6 := hji6
  have hji6z : a0 ≤ 64 → (IntKind.i64.wrap (1 * 2 ^ a0.toNat)) = ji6 := shl_small hji6
  have hji6u : (IntKind.i64.wrap (2 ^ min a0.toNat 64)) = ji6 := by have h_ := hji6_; rw [Int.one_mul] at h_; exact h_
  have hji6v : a0 ≤ 64 → (IntKind.i64.wrap (2 ^ a0.toNat)) = ji6 := fun hle_ => by have h_ := hji6z hle_; rw [Int.one_mul] at h_; exact h_
  have hji6y : (wrap64 (1 * 2 ^ min a0.toNat 64)) = ji6 := (i64_w _).symm.trans hji6_
  have hji6x : a0 ≤ 64 → (wrap64 (1 * 2 ^ a0.toNat)) = ji6 := fun h_ => (i64_w _).symm.trans (hji6z h_)
  revert H; refine Z.fm ?_ ?_ <;> intro c7b0 H
  ·obtain rfl := Option.some.inj H
   go_wp2
   repeat (go_quiet (fail); try go_wp2)
   go_ret
   exact ⟨_, by first | rfl | (simp [errW_none, errW_some] <;> rfl) | (simp only [← hji6]; first | rfl | (simp [errW_none, errW_some] <;> rfl)) | (simp [*, errW_none, errW_some] <;> rfl), by (with_reducible repeat (first | apply Kd.R_alloc | apply Kd.R_drewN | apply Kd.R_drew)); exact HO_5.out, Z.bl HB.out⟩

  have H' := Z.k H
  clear H
  go_wp2
  repeat (go_quiet (fail); try go_wp2)
  go_loopg [7, 8, 9] k1 (fun kq v7 v8 v9 w' => ∃ (x7_2 : Bool) (x8_2 : Bool) (x9_2 : Int), v7 = .bool x7_2 ∧ v8 = .bool x8_2 ∧ v9 = .int .i64 x9_2 ∧ Aside0 (spec_l1Least.l1 kq a0 l1 x5_1 x6_1 x7_2 x8_2 x9_2 = some r) ∧ Aside0 (kq ≤ k1) ∧ Aside0 (Kd.R (Kd.int .i64) 3 w' w.heap.size (fun _ => True) u5 x5_1) ∧ Aside0 (Below w.heap.size w w'))
  case atStart => exact ⟨(false), (true), (0), (by first | rfl | (simp; done) | (simp [*]; done)), (by first | rfl | (simp; done) | (simp [*]; done)), (by first | rfl | (simp; done) | (simp [*]; done)), H', ⟨Nat.le_refl _⟩, ⟨by (with_reducible repeat (first | apply Kd.R_alloc | apply Kd.R_drewN | apply Kd.R_drew)); exact HO_5.out⟩, ⟨Z.bl HB.out⟩⟩
  clear H'
  try clear c1
  try clear p2
  try clear c5
  try clear c5b0
  try clear c5b1
  try clear p6
  try clear c7
  try clear c7b0
  try clear p2
  obtain ⟨x7_2, x8_2, x9_2, rfl, rfl, rfl, HA, HK2, HO_5, HB⟩ := hrel
  cases gk with
  | zero => exact absurd HA.out (by simp [spec_l1Least.l1])
  | succ k2 =>
   have H := HA.out
   clear HA
   simp only [spec_l1Least.l1] at H
   revert H; refine Z.fm ?_ ?_ <;> intro c8b0 H
   ·by_cases c16 : x7_2 = true
    ·subst c16
     rw [if_pos rfl] at H
     by_cases c17 : x8_2 = true
     ·subst c17
      rw [if_pos rfl] at H
      obtain ⟨c18, H⟩ := Z.ifp H
      have LMc18 := Z.k c18
      clear c18
      obtain ⟨y25, hy25⟩ : ∃ y_ : List Int, y_ = (x5_1 ++ [x6_1]) := ⟨_, rfl⟩
      replace H : (spec_l1Least.l0 k2 a0 l1 y25 (wrap64 (x6_1 + 1))) = some r := by first | (rw [hy25]; with_reducible exact H) | (have H2_ := (Option.bind_some _ _).symm.trans H; rw [hy25]; with_reducible exact H2_) | (have H2_ := (Option.bind_some _ _).symm.trans H; with_reducible exact H2_) | with_reducible exact H | (rw [hy25]; exact H) | exact H
      have Ny25 := Z.k hy25
      clear hy25
      have H' := Z.k H
      clear H
      go_wp2_with (first | ((with_reducible refine gate_builtin (b := .append) (xs := #[.tmp 58, .tmp 60]) rfl ?_); at_builtin; refine Kd.R_append (Kd.int .i64) (w0 := w) w.heap.size rfl (.tmp 58) (.tmp 60) 23 3 (.int .i64 0) 8 rfl Try.underlying23 info3 rfl (by decide) (by omega) u5 x5_1 x6_1 [.int .i64 x6_1] (fun _ => True) (fun _ => False) rfl rfl ?aP (fun _ hk => hk.elim) ?aF ?aO ?aB ?aS ?aL ?_; (case aP => exact rfl); (case aB => exact (Z.bl HB.out)); (case aF => exact (fun _ _ => trivial)); (case aO => exact (by (with_reducible repeat (first | apply Kd.R_alloc | apply Kd.R_drewN | apply Kd.R_drew)); exact HO_5.out)); (case aS => exact (below_size (Z.bl HB.out))); (case aL => have := LMc18.out; omega); intro v33 w19 ho hb hg hat; rw [← Ny25.out] at ho; replace HB := Z.k (hb); have HO31 := Z.k (ho); clear HO_5; clear ho hb hg hat))
      repeat (go_quiet (first | ((with_reducible refine gate_builtin (b := .append) (xs := #[.tmp 58, .tmp 60]) rfl ?_); at_builtin; refine Kd.R_append (Kd.int .i64) (w0 := w) w.heap.size rfl (.tmp 58) (.tmp 60) 23 3 (.int .i64 0) 8 rfl Try.underlying23 info3 rfl (by decide) (by omega) u5 x5_1 x6_1 [.int .i64 x6_1] (fun _ => True) (fun _ => False) rfl rfl ?aP (fun _ hk => hk.elim) ?aF ?aO ?aB ?aS ?aL ?_; (case aP => exact rfl); (case aB => exact (Z.bl HB.out)); (case aF => exact (fun _ _ => trivial)); (case aO => exact (by (with_reducible repeat (first | apply Kd.R_alloc | apply Kd.R_drewN | apply Kd.R_drew)); exact HO_5.out)); (case aS => exact (below_size (Z.bl HB.out))); (case aL => have := LMc18.out; omega); intro v33 w19 ho hb hg hat; rw [← Ny25.out] at ho; replace HB := Z.k (hb); have HO31 := Z.k (ho); clear HO_5; clear ho hb hg hat)); try go_wp2_with (first | ((with_reducible refine gate_builtin (b := .append) (xs := #[.tmp 58, .tmp 60]) rfl ?_); at_builtin; refine Kd.R_append (Kd.int .i64) (w0 := w) w.heap.size rfl (.tmp 58) (.tmp 60) 23 3 (.int .i64 0) 8 rfl Try.underlying23 info3 rfl (by decide) (by omega) u5 x5_1 x6_1 [.int .i64 x6_1] (fun _ => True) (fun _ => False) rfl rfl ?aP (fun _ hk => hk.elim) ?aF ?aO ?aB ?aS ?aL ?_; (case aP => exact rfl); (case aB => exact (Z.bl HB.out)); (case aF => exact (fun _ _ => trivial)); (case aO => exact (by (with_reducible repeat (first | apply Kd.R_alloc | apply Kd.R_drewN | apply Kd.R_drew)); exact HO_5.out)); (case aS => exact (below_size (Z.bl HB.out))); (case aL => have := LMc18.out; omega); intro v33 w19 ho hb hg hat; rw [← Ny25.out] at ho; replace HB := Z.k (hb); have HO31 := Z.k (ho); clear HO_5; clear ho hb hg hat)))
      go_roundg k2
      case measure => have := HK1.out; have := HK2.out; omega
      case rel => exact ⟨(y25), (wrap64 (x6_1 + 1)), (by first | rfl | (simp; done) | (simp [*]; done)), H', ⟨by have := HK1.out; have := HK2.out; omega⟩, ⟨by (with_reducible repeat (first | apply Kd.R_alloc | apply Kd.R_drewN | apply Kd.R_drew)); exact HO31.out⟩, ⟨Z.bl HB.out⟩⟩
     replace c17 := Bool.eq_false_iff.mpr c17
     subst c17
     rw [if_neg (show ¬ (false = true) by decide)] at H
     have H' := Z.k H
     clear H
     go_wp2
     repeat (go_quiet (fail); try go_wp2)
     go_roundg k2
     case measure => have := HK1.out; have := HK2.out; omega
     case rel => exact ⟨(x5_1), (wrap64 (x6_1 + 1)), (by first | rfl | (simp; done) | (simp [*]; done)), H', ⟨by have := HK1.out; have := HK2.out; omega⟩, ⟨by (with_reducible repeat (first | apply Kd.R_alloc | apply Kd.R_drewN | apply Kd.R_drew)); exact HO_5.out⟩, ⟨Z.bl HB.out⟩⟩
    replace c16 := Bool.eq_false_iff.mpr c16
    subst c16
    rw [if_neg (show ¬ (false = true) by decide)] at H
    have H' := Z.k H
    clear H
    go_wp2
    repeat (go_quiet (fail); try go_wp2)
    go_roundg k2
    case measure => have := HK1.out; have := HK2.out; omega
    case rel => exact ⟨(x5_1), (wrap64 (x6_1 + 1)), (by first | rfl | (simp; done) | (simp [*]; done)), H', ⟨by have := HK1.out; have := HK2.out; omega⟩, ⟨by (with_reducible repeat (first | apply Kd.R_alloc | apply Kd.R_drewN | apply Kd.R_drew)); exact HO_5.out⟩, ⟨Z.bl HB.out⟩⟩
   by_cases c9 : x7_2 = true
   ·subst c9
    rw [if_pos rfl] at H
    by_cases c10 : x8_2 = true
    rotate_left
    ·replace c10 := Bool.eq_false_iff.mpr c10
     subst c10
     rw [if_neg (show ¬ (false = true) by decide)] at H
     have H' := Z.k H
     clear H
     go_wp2
     repeat (go_quiet (fail); try go_wp2)
     go_roundg k2
     case measure => have := HK1.out; have := HK2.out; omega
     case rel => exact ⟨(true), (false), (wrap64 (x9_2 + 1)), (by first | rfl | (simp; done) | (simp [*]; done)), (by first | rfl | (simp; done) | (simp [*]; done)), (by first | rfl | (simp; done) | (simp [*]; done)), H', ⟨by have := HK1.out; have := HK2.out; omega⟩, ⟨by (with_reducible repeat (first | apply Kd.R_alloc | apply Kd.R_drewN | apply Kd.R_drew)); exact HO_5.out⟩, ⟨Z.bl HB.out⟩⟩
    subst c10
    rw [if_pos rfl] at H
    obtain ⟨c11b0, H⟩ := Z.fd H
    by_cases c12 : (rd l1 x9_2) = x6_1
    ·rw [if_pos c12] at H
     have c12b0 : ((rd l1 x9_2) == x6_1) = true := beq_iff_eq.mpr c12
     have c12b1 : ((rd l1 x9_2) != x6_1) = false := bne_eq_false_iff_eq.mpr c12
     clear c12
     have H' := Z.k H
     clear H
     have p24 : (0 ≤ (x9_2 : Int)) = True := Z.oe
     have q24 : (x9_2 < (l1.length : Int)) = True := Z.oe
     obtain ⟨ad24, rfl, hx24_0⟩ := Kd.at_int HR1.out x9_2 Z.od Z.od
     replace hx24_0 := Z.up HB.out hx24_0
     go_wp2
     repeat (go_quiet (fail); try go_wp2)
     go_roundg k2
     case measure => have := HK1.out; have := HK2.out; omega
     case rel => exact ⟨(true), (true), (wrap64 (x9_2 + 1)), (by first | rfl | (simp; done) | (simp [*]; done)), (by first | rfl | (simp; done) | (simp [*]; done)), (by first | rfl | (simp; done) | (simp [*]; done)), H', ⟨by have := HK1.out; have := HK2.out; omega⟩, ⟨by (with_reducible repeat (first | apply Kd.R_alloc | apply Kd.R_drewN | apply Kd.R_drew)); exact HO_5.out⟩, ⟨Z.bl HB.out⟩⟩
    rw [if_neg c12] at H
    have c12b0 : ((rd l1 x9_2) == x6_1) = false := beq_eq_false_iff_ne.mpr c12
    have c12b1 : ((rd l1 x9_2) != x6_1) = true := bne_iff_ne.mpr c12
    have H' := Z.k H
    clear H
    have p24 : (0 ≤ (x9_2 : Int)) = True := Z.oe
    have q24 : (x9_2 < (l1.length : Int)) = True := Z.oe
    obtain ⟨ad24, rfl, hx24_0⟩ := Kd.at_int HR1.out x9_2 Z.od Z.od
    replace hx24_0 := Z.up HB.out hx24_0
    have p26 : (0 ≤ (x9_2 : Int)) = True := Z.oe
    have q26 : (x9_2 < (l1.length : Int)) = True := Z.oe
    obtain ⟨ad26, e26, hx26_0⟩ := Kd.at_int HR1.out x9_2 Z.od Z.od
    obtain rfl : ad24 = ad26 := (by injection e26)
    replace hx26_0 := Z.up HB.out hx26_0
    have p27 : (0 ≤ (x9_2 : Int)) = True := Z.oe
    have q27 : (x9_2 < (l1.length : Int)) = True := Z.oe
    obtain ⟨ad27, e27, hx27_0⟩ := Kd.at_int HR1.out x9_2 Z.od Z.od
    obtain rfl : ad24 = ad27 := (by injection e27)
    replace hx27_0 := Z.up HB.out hx27_0
    go_wp2
    repeat (go_quiet (fail); try go_wp2)
    go_roundg k2
    case measure => have := HK1.out; have := HK2.out; omega
    case rel => exact ⟨(true), (((Go.bits .and .i64 (rd l1 x9_2) x6_1) != (rd l1 x9_2))), (wrap64 (x9_2 + 1)), (by first | rfl | (simp; done) | (simp [*]; done)), (by first | rfl | (simp; done) | (simp [*]; done)), (by first | rfl | (simp; done) | (simp [*]; done)), H', ⟨by have := HK1.out; have := HK2.out; omega⟩, ⟨by (with_reducible repeat (first | apply Kd.R_alloc | apply Kd.R_drewN | apply Kd.R_drew)); exact HO_5.out⟩, ⟨Z.bl HB.out⟩⟩
   replace c9 := Bool.eq_false_iff.mpr c9
   subst c9
   rw [if_neg (show ¬ (false = true) by decide)] at H
   obtain ⟨c13b0, H⟩ := Z.fd H
   by_cases c14 : x8_2 = true
   rotate_left
   ·replace c14 := Bool.eq_false_iff.mpr c14
    subst c14
    rw [if_neg (show ¬ (false = true) by decide)] at H
    have H' := Z.k H
    clear H
    have p20 : (0 ≤ (x9_2 : Int)) = True := Z.oe
    have q20 : (x9_2 < (l1.length : Int)) = True := Z.oe
    obtain ⟨ad20, rfl, hx20_0⟩ := Kd.at_int HR1.out x9_2 Z.od Z.od
    replace hx20_0 := Z.up HB.out hx20_0
    go_wp2
    repeat (go_quiet (fail); try go_wp2)
    go_roundg k2
    case measure => have := HK1.out; have := HK2.out; omega
    case rel => exact ⟨(((rd l1 x9_2) == x6_1)), (false), (wrap64 (x9_2 + 1)), (by first | rfl | (simp; done) | (simp [*]; done)), (by first | rfl | (simp; done) | (simp [*]; done)), (by first | rfl | (simp; done) | (simp [*]; done)), H', ⟨by have := HK1.out; have := HK2.out; omega⟩, ⟨by (with_reducible repeat (first | apply Kd.R_alloc | apply Kd.R_drewN | apply Kd.R_drew)); exact HO_5.out⟩, ⟨Z.bl HB.out⟩⟩
   subst c14
   rw [if_pos rfl] at H
   by_cases c15 : (rd l1 x9_2) = x6_1
   ·rw [if_pos c15] at H
    have c15b0 : ((rd l1 x9_2) == x6_1) = true := beq_iff_eq.mpr c15
    have c15b1 : ((rd l1 x9_2) != x6_1) = false := bne_eq_false_iff_eq.mpr c15
    clear c15
    have H' := Z.k H
    clear H
    have p20 : (0 ≤ (x9_2 : Int)) = True := Z.oe
    have q20 : (x9_2 < (l1.length : Int)) = True := Z.oe
    obtain ⟨ad20, rfl, hx20_0⟩ := Kd.at_int HR1.out x9_2 Z.od Z.od
    replace hx20_0 := Z.up HB.out hx20_0
    have p21 : (0 ≤ (x9_2 : Int)) = True := Z.oe
    have q21 : (x9_2 < (l1.length : Int)) = True := Z.oe
    obtain ⟨ad21, e21, hx21_0⟩ := Kd.at_int HR1.out x9_2 Z.od Z.od
    obtain rfl : ad20 = ad21 := (by injection e21)
    replace hx21_0 := Z.up HB.out hx21_0
    go_wp2
    repeat (go_quiet (fail); try go_wp2)
    go_roundg k2
    case measure => have := HK1.out; have := HK2.out; omega
    case rel => exact ⟨(((rd l1 x9_2) == x6_1)), (true), (wrap64 (x9_2 + 1)), (by first | rfl | (simp; done) | (simp [*]; done)), (by first | rfl | (simp; done) | (simp [*]; done)), (by first | rfl | (simp; done) | (simp [*]; done)), H', ⟨by have := HK1.out; have := HK2.out; omega⟩, ⟨by (with_reducible repeat (first | apply Kd.R_alloc | apply Kd.R_drewN | apply Kd.R_drew)); exact HO_5.out⟩, ⟨Z.bl HB.out⟩⟩
   rw [if_neg c15] at H
   have c15b0 : ((rd l1 x9_2) == x6_1) = false := beq_eq_false_iff_ne.mpr c15
   have c15b1 : ((rd l1 x9_2) != x6_1) = true := bne_iff_ne.mpr c15
   have H' := Z.k H
   clear H
   have p20 : (0 ≤ (x9_2 : Int)) = True := Z.oe
   have q20 : (x9_2 < (l1.length : Int)) = True := Z.oe
   obtain ⟨ad20, rfl, hx20_0⟩ := Kd.at_int HR1.out x9_2 Z.od Z.od
   replace hx20_0 := Z.up HB.out hx20_0
   have p21 : (0 ≤ (x9_2 : Int)) = True := Z.oe
   have q21 : (x9_2 < (l1.length : Int)) = True := Z.oe
   obtain ⟨ad21, e21, hx21_0⟩ := Kd.at_int HR1.out x9_2 Z.od Z.od
   obtain rfl : ad20 = ad21 := (by injection e21)
   replace hx21_0 := Z.up HB.out hx21_0
   have p28 : (0 ≤ (x9_2 : Int)) = True := Z.oe
   have q28 : (x9_2 < (l1.length : Int)) = True := Z.oe
   obtain ⟨ad28, e28, hx28_0⟩ := Kd.at_int HR1.out x9_2 Z.od Z.od
   obtain rfl : ad20 = ad28 := (by injection e28)
   replace hx28_0 := Z.up HB.out hx28_0
   have p29 : (0 ≤ (x9_2 : Int)) = True := Z.oe
   have q29 : (x9_2 < (l1.length : Int)) = True := Z.oe
   obtain ⟨ad29, e29, hx29_0⟩ := Kd.at_int HR1.out x9_2 Z.od Z.od
   obtain rfl : ad20 = ad29 := (by injection e29)
   replace hx29_0 := Z.up HB.out hx29_0
   go_wp2
   repeat (go_quiet (fail); try go_wp2)
   go_roundg k2
   case measure => have := HK1.out; have := HK2.out; omega
   case rel => exact ⟨(((rd l1 x9_2) == x6_1)), (((Go.bits .and .i64 (rd l1 x9_2) x6_1) != (rd l1 x9_2))), (wrap64 (x9_2 + 1)), (by first | rfl | (simp; done) | (simp [*]; done)), (by first | rfl | (simp; done) | (simp [*]; done)), (by first | rfl | (simp; done) | (simp [*]; done)), H', ⟨by have := HK1.out; have := HK2.out; omega⟩, ⟨by (with_reducible repeat (first | apply Kd.R_alloc | apply Kd.R_drewN | apply Kd.R_drew)); exact HO_5.out⟩, ⟨Z.bl HB.out⟩⟩
end Go.Proofs.Ytkogboechfieeaa.PAll

/- Walks of functions that laws of this seat reach, in the form of the print. -/
import Derived.Test.YtkogboechfieeaaCAll9
-- PRINTED
namespace Go.Proofs.Ytkogboechfieeaa.PAll
open Go.RowKit Go.Proofs.YtkogboechfieeaaW.PrintWords Go.Proofs.YtkogboechfieeaaW.PrintLast Go.Proofs.YtkogboechfieeaaW.PrintMore
attribute [local go_sem] max2_int min2_int max_two min_two max_three min_three max_four min_four
set_option linter.unusedVariables false
set_option linter.unusedSimpArgs false

/-! ### impl_StateOk: function 36 -/
def impl_StateOk.f (k : Nat) (a0_0 : Int) (l0_1 : List Int) (l0_2 : List (List (S37))) (l1 : List Int) : Option (Bool) := (impl_isState.f k a0_0 l0_1 l0_2 l1).bind fun t17 => (some t17)
/-! ### spec_l8Code: function 80 -/
def spec_l8Code.l0 : Nat → List Int → Int → Int → Option (Int)
 | 0, _, _, _ => none
 | k + 1, x0, x3, x4 => if x4 ≥ 0 then (if 0 ≤ x4 then (if x4 < (x0.length : Int) then (spec_l8Code.l0 k x0 (wrap64 ((wrap64 (x3 * 3)) + (rd x0 x4))) (wrap64 (x4 - 1))) else (none)) else (none)) else (some x3)
def spec_l8Code.f (k : Nat) (l0 : List Int) : Option (Int) := spec_l8Code.l0 k l0 0 (wrap64 ((l0.length : Int) - 1))
set_option maxHeartbeats 8000000 in
set_option maxRecDepth 100000 in
theorem spec_l8Code.calls (k : Nat) (A0 : Option Addr) (c0 : Nat) (l0 : List Int) (r : Int) (w : World) (hr0 : Kd.C (Kd.int .i64) w A0 l0.length l0) (hc0 : l0.length ≤ c0) (h : spec_l8Code.f k l0 = some r) :
  Calls Try.prog 80 #[.slice A0 l0.length c0] w fun e w' => e = .returned (.int .i64 r) ∧ Drawn0 w w' := by
 have HR0 := Z.k hr0
 have HC0 := Z.k hc0
 clear hr0 hc0
 have H := h
 clear h
 unfold spec_l8Code.f at H
 have H' := Z.k H
 clear H
 go_enter Try.func80, Try.ntmps80
 go_wp2
 go_loopg [3, 4] k (fun kq v3 v4 w' => ∃ (x3_1 : Int) (x4_1 : Int), v3 = .int .i64 x3_1 ∧ v4 = .int .i64 x4_1 ∧ Aside0 (spec_l8Code.l0 kq l0 x3_1 x4_1 = some r) ∧ Aside0 (kq ≤ k) ∧ Drawn0 w w')
 case atStart => exact ⟨(0), (wrap64 ((l0.length : Int) - 1)), (by rfl), (by rfl), H', ⟨Nat.le_refl _⟩, Drawn0.refl _⟩
 clear H'
 obtain ⟨x3_1, x4_1, rfl, rfl, HA, HK1, ⟨m1, rfl⟩⟩ := hrel
 cases gk with
 | zero => exact absurd HA.out (by simp [spec_l8Code.l0])
 | succ k1 =>
  have H := HA.out
  clear HA
  simp only [spec_l8Code.l0] at H
  revert H; refine Z.fm ?_ ?_ <;> intro c2b0 H
  ·obtain rfl := Option.some.inj H
   go_wp2
   go_ret
   exact ⟨by rfl, by repeat (first | exact Drawn0.refl _ | apply Drawn0.step)⟩

  obtain ⟨c3b0, H⟩ := Z.fd H
  obtain ⟨c4b0, H⟩ := Z.fd H
  have H' := Z.k H
  clear H
  have p19 : (0 ≤ (x4_1 : Int)) = True := Z.oe
  have q19 : (x4_1 < (l0.length : Int)) = True := Z.oe
  obtain ⟨ad19, rfl, hx19_0⟩ := Kd.at_int HR0.out x4_1 Z.od Z.od
  go_wp2
  go_roundg k1
  case measure => have := HK1.out; omega
  case rel => exact ⟨(wrap64 ((wrap64 (x3_1 * 3)) + (rd l0 x4_1))), (wrap64 (x4_1 - 1)), (by rfl), (by rfl), H', ⟨by have := HK1.out; omega⟩, by repeat (first | exact Drawn0.refl _ | apply Drawn0.step)⟩
/-! ### spec_l8State: function 84 -/
def spec_l8State.l0 : Nat → Int → List Int → Int → Int → List Int → List (List (S37)) → Option (List Int)
 | 0, _, _, _, _, _, _ => none
 | k + 1, x1, x5, x6, x20, x21, x16 => if x6 < (x16.length : Int) then (if x5.length < 17592186044416 then (spec_l8State.l0 k (wrap64 (Int.tdiv x1 3)) (x5 ++ [Int.tmod x1 3]) (wrap64 (x6 + 1)) x20 x21 x16) else (none)) else (some x5)
def spec_l8State.f (k : Nat) (a0_0 : Int) (l0_1 : List Int) (l0_2 : List (List (S37))) (a1 : Int) : Option (List Int) := spec_l8State.l0 k a1 (([] : List Int)) 0 a0_0 l0_1 l0_2
set_option maxHeartbeats 8000000 in
set_option maxRecDepth 100000 in
theorem spec_l8State.calls (k : Nat) (a0_0 : Int) (A0_1 : Option Addr) (c0_1 : Nat) (l0_1 : List Int) (A0_2 : Option Addr) (c0_2 : Nat) (l0_2 : List (List (S37))) (a1 : Int) (r : List Int) (w : World) (hr0_1 : Kd.C (Kd.int .i64) w A0_1 l0_1.length l0_1) (hc0_1 : l0_1.length ≤ c0_1) (hr0_2 : Kd.C (Kd.slice 37 k37) w A0_2 l0_2.length l0_2) (hc0_2 : l0_2.length ≤ c0_2) (h : spec_l8State.f k a0_0 l0_1 l0_2 a1 = some r) :
  Calls Try.prog 84 #[.agg #[.int .i64 a0_0, .slice A0_1 l0_1.length c0_1, .slice A0_2 l0_2.length c0_2], .int .i64 a1] w fun e w' => ∃ v0_ : Value, e = .returned (v0_) ∧ Kd.R (Kd.int .i64) 3 w' w.heap.size (fun _ => True) v0_ r ∧ Below w.heap.size w w' := by
 have hu35 := Try.underlying28
 have HR0_1 := Z.k hr0_1
 have HC0_1 := Z.k hc0_1
 clear hr0_1 hc0_1
 have HR0_2 := Z.k hr0_2
 have HC0_2 := Z.k hc0_2
 clear hr0_2 hc0_2
 have HB := Z.k (Below.refl w.heap.size w)
 have H := h
 clear h
 unfold spec_l8State.f at H
 obtain ⟨y13, hy13⟩ : ∃ y_ : List Int, y_ = (([] : List Int)) := ⟨_, rfl⟩
 replace H : (spec_l8State.l0 k a1 y13 0 a0_0 l0_1 l0_2) = some r := by (rw [hy13]; with_reducible exact H)
 have Ny13 := Z.k hy13
 clear hy13
 have H' := Z.k H
 clear H
 go_enter Try.func84, Try.ntmps84
 go_wp2_with (first | ((with_reducible refine gate_dst (N := 2) rfl ?_); refine Z.bx #[.int .i64 a0_0, .slice A0_1 l0_1.length c0_1, .slice A0_2 l0_2.length c0_2] 28 HB ?_; clear HB; intro gb11 w3 BK11 GE11 HB hg hb; have GW11 := GE11; clear hb hg) | ((with_reducible refine gate_dst (N := 7) rfl ?_); refine Kd.R_lit (Kd.int .i64) _ 3 ?hg (N := 7) ?hd (xs := ([] : List Int)) (inner := []) (ok := fun _ => True) (okp := fun _ => True) ?hr ?hp (fun _ hk => hk) trivial (Below.refl _ _) (Nat.le_refl _) (by simp) ?_; (case hd | hg => rfl); (case hr => (go_simp; done)); (case hp => exact (Reps.none _ _)); intro v25 w4 ho5 hb hg_ hnew_; clear hg_ hnew_; (rw [← Ny13.out] at ho5); have HO22 := Z.k (Kd.R_lower ho5 (below_size (Z.bs HB.out GE11.out))); replace BK11 := Z.bb BK11 hb; replace HB := Z.st (Z.bs HB.out GE11.out) hb; clear hb ho5))
 go_loopg [1, 5, 6] k (fun kq v1 v5 v6 w' => ∃ (x1_1 : Int) (x5_1 : List Int) (x6_1 : Int), v1 = .int .i64 x1_1 ∧ v6 = .int .i64 x6_1 ∧ Aside0 (spec_l8State.l0 kq x1_1 x5_1 x6_1 a0_0 l0_1 l0_2 = some r) ∧ Aside0 (kq ≤ k) ∧ Aside0 (Kd.R (Kd.int .i64) 3 w' w.heap.size (fun _ => True) v5 x5_1) ∧ Aside0 (w'.heap[gb11]? = some (.cells #[.int .i64 a0_0, (.slice A0_1 l0_1.length c0_1), (.slice A0_2 l0_2.length c0_2)] 28 (0, 0))) ∧ Aside0 (Below w.heap.size w w'))
 case atStart => exact ⟨(a1), (y13), (0), (by rfl), (by rfl), H', ⟨Nat.le_refl _⟩, ⟨by (with_reducible skip); exact HO22.out⟩, ⟨by (with_reducible skip); exact BK11.out⟩, ⟨Z.bs HB.out GE11.out⟩⟩
 clear H'
 obtain ⟨x1_1, x5_1, x6_1, rfl, rfl, HA, HK1, HO_5, BK11, HB⟩ := hrel
 cases gk with
 | zero => exact absurd HA.out (by simp [spec_l8State.l0])
 | succ k1 =>
  have H := HA.out
  clear HA
  simp only [spec_l8State.l0] at H
  revert H; refine Z.fm ?_ ?_ <;> intro c6b0 H
  ·obtain rfl := Option.some.inj H
   have hcz10 := Z.c3 BK11.out
   go_wp2
   go_ret
   exact ⟨_, by rfl, by (with_reducible skip); exact HO_5.out, Z.bs HB.out GE11.out⟩

  obtain ⟨c7, H⟩ := Z.ifp H
  have LMc7 := Z.k c7
  clear c7
  obtain ⟨y14, hy14⟩ : ∃ y_ : List Int, y_ = (x5_1 ++ [Int.tmod x1_1 3]) := ⟨_, rfl⟩
  replace H : (spec_l8State.l0 k1 (wrap64 (Int.tdiv x1_1 3)) y14 (wrap64 (x6_1 + 1)) a0_0 l0_1 l0_2) = some r := by (rw [hy14]; with_reducible exact H)
  have Ny14 := Z.k hy14
  clear hy14
  have H' := Z.k H
  clear H
  have hcz8 := Z.c3 BK11.out
  go_wp2_with (((with_reducible refine gate_builtin (b := .append) (xs := #[.tmp 15, .tmp 18]) rfl ?_); at_builtin; refine Kd.R_append (Kd.int .i64) (w0 := w) w.heap.size rfl (.tmp 15) (.tmp 18) 23 3 (.int .i64 0) 8 rfl Try.underlying23 info3 rfl (by decide) (by omega) u5 x5_1 (Int.tmod x1_1 3) [.int .i64 (Int.tmod x1_1 3)] (fun _ => True) (fun _ => False) rfl rfl ?aP (fun _ hk => hk.elim) ?aF ?aO ?aB ?aS ?aL ?_; (case aP => exact rfl); (case aB => exact (Z.bs HB.out GE11.out)); (case aF => exact (fun _ _ => trivial)); (case aO => exact (by (with_reducible skip); exact HO_5.out)); (case aS => exact (below_size (Z.bs HB.out GE11.out))); (case aL => have := LMc7.out; omega); intro v26 w9 ho hb hg hat; rw [← Ny14.out] at ho; replace BK11 := Z.k (blk_grown (g := gb11) (o := .cells #[.int .i64 a0_0, .slice A0_1 l0_1.length c0_1, .slice A0_2 l0_2.length c0_2] 28 (0, 0)) (Z.bk BK11.out) hg (Kd.R_ne HO_5.out BK11.out (by decide))); replace HB := Z.k (hb); have HO24 := Z.k (ho); clear HO_5; clear ho hb hg hat))
  go_roundg k1
  case measure => have := HK1.out; omega
  case rel => exact ⟨(wrap64 (Int.tdiv x1_1 3)), (y14), (wrap64 (x6_1 + 1)), (by rfl), (by rfl), H', ⟨by have := HK1.out; omega⟩, ⟨by (with_reducible skip); exact HO24.out⟩, ⟨by (with_reducible skip); exact BK11.out⟩, ⟨Z.bs HB.out GE11.out⟩⟩
end Go.Proofs.Ytkogboechfieeaa.PAll

/- Walks of functions that laws of this seat reach, in the form of the print. -/
import Derived.Test.YtkogboechfieeaaCAll28
-- PRINTED
namespace Go.Proofs.Ytkogboechfieeaa.PAll
open Go.RowKit Go.Proofs.YtkogboechfieeaaW.PrintWords Go.Proofs.YtkogboechfieeaaW.PrintLast Go.Proofs.YtkogboechfieeaaW.PrintMore
attribute [local go_sem] max2_int min2_int max_two min_two max_three min_three max_four min_four
set_option linter.unusedVariables false
set_option linter.unusedSimpArgs false

/-! ### spec_ReachOf: function 37 -/
mutual
def spec_ReachOf.j0 : Nat → List Int → Int → List Int → Bool → Int → List Int → List (List (S37)) → Option (List Int)
 | 0, _, _, _, _, _, _, _ => none
 | k + 1, x1, x2, x7, x22, x943000, x943001, x943002 => if x22 = true then (some x7) else ((spec_l8Code.f k x1).bind fun t948 => ((spec_l8Reach.f k x943000 x943001 x943002 t948 x2).bind fun t949 => (spec_ReachOf.l0 k x7 t949 0)))
def spec_ReachOf.l0 : Nat → List Int → List Int → Int → Option (List Int)
 | 0, _, _, _ => none
 | k + 1, x7, x8, x9 => if x9 < (x8.length : Int) then (if 0 ≤ x9 then (if (rd x8 x9) ≥ 0 then (if x7.length < 17592186044416 then (spec_ReachOf.l0 k (x7 ++ [x9]) x8 (wrap64 (x9 + 1))) else (none)) else (spec_ReachOf.l0 k x7 x8 (wrap64 (x9 + 1)))) else (none)) else (some x7)
end
def spec_ReachOf.f (k : Nat) (a0_0 : Int) (l0_1 : List Int) (l0_2 : List (List (S37))) (l1 : List Int) (a2 : Int) : Option (List Int) := (some (([] : List Int) : List Int)).bind fun y943 => ((spec_StateOk.f k a0_0 l0_1 l0_2 l1).bind fun t946 => (if t946 = true then ((spec_CrowdOk.f a0_0 a2).bind fun t947 => (spec_ReachOf.j0 k l1 a2 y943 (!t947) a0_0 l0_1 l0_2)) else (spec_ReachOf.j0 k l1 a2 y943 true a0_0 l0_1 l0_2)))
/-! ### laws_stateOf: function 38 -/
def laws_stateOf.l0 : Nat → Int → List Int → Int → Int → List Int → List (List (S37)) → Option (List Int)
 | 0, _, _, _, _, _, _ => none
 | k + 1, x1, x5, x6, x955000, x955001, x955002 => if x6 < (x955002.length : Int) then (if x5.length < 17592186044416 then (laws_stateOf.l0 k (wrap64 (Int.tdiv x1 3)) (x5 ++ [Int.tmod x1 3]) (wrap64 (x6 + 1)) x955000 x955001 x955002) else (none)) else (some x5)
def laws_stateOf.f (k : Nat) (a0_0 : Int) (l0_1 : List Int) (l0_2 : List (List (S37))) (a1 : Int) : Option (List Int) := laws_stateOf.l0 k a1 (([] : List Int)) 0 a0_0 l0_1 l0_2
set_option maxHeartbeats 8000000 in
set_option maxRecDepth 100000 in
theorem laws_stateOf.calls (k : Nat) (a0_0 : Int) (A0_1 : Option Addr) (c0_1 : Nat) (l0_1 : List Int) (A0_2 : Option Addr) (c0_2 : Nat) (l0_2 : List (List (S37))) (a1 : Int) (r : List Int) (w : World) (hr0_1 : Kd.C (Kd.int .i64) w A0_1 l0_1.length l0_1) (hc0_1 : l0_1.length ≤ c0_1) (hr0_2 : Kd.C (Kd.slice 37 k37) w A0_2 l0_2.length l0_2) (hc0_2 : l0_2.length ≤ c0_2) (h : laws_stateOf.f k a0_0 l0_1 l0_2 a1 = some r) :
  Calls Try.prog 38 #[.agg #[.int .i64 a0_0, .slice A0_1 l0_1.length c0_1, .slice A0_2 l0_2.length c0_2], .int .i64 a1] w fun e w' => ∃ v0_ : Value, e = .returned (v0_) ∧ Kd.R (Kd.int .i64) 3 w' w.heap.size (fun _ => True) v0_ r ∧ Below w.heap.size w w' := by
 have hu28 := Try.underlying28
 have HR0_1 := Z.k hr0_1
 have HC0_1 := Z.k hc0_1
 clear hr0_1 hc0_1
 have HR0_2 := Z.k hr0_2
 have HC0_2 := Z.k hc0_2
 clear hr0_2 hc0_2
 have HB := Z.k (Below.refl w.heap.size w)
 have H := h
 clear h
 unfold laws_stateOf.f at H
 obtain ⟨y955, hy955⟩ : ∃ y_ : List Int, y_ = (([] : List Int)) := ⟨_, rfl⟩
 replace H : (laws_stateOf.l0 k a1 y955 0 a0_0 l0_1 l0_2) = some r := by (rw [hy955]; with_reducible exact H)
 have Ny955 := Z.k hy955
 clear hy955
 have H' := Z.k H
 clear H
 go_enter Try.func38, Try.ntmps38
 go_wp2_with (first | ((with_reducible refine gate_dst (N := 2) rfl ?_); refine Z.bx #[.int .i64 a0_0, .slice A0_1 l0_1.length c0_1, .slice A0_2 l0_2.length c0_2] 28 HB ?_; clear HB; intro gb954 w3 BK954 GE954 HB hg hb; have GW954 := GE954; clear hb hg) | ((with_reducible refine gate_dst (N := 7) rfl ?_); refine Kd.R_lit (Kd.int .i64) _ 3 ?hg (N := 7) ?hd (xs := ([] : List Int)) (inner := []) (ok := fun _ => True) (okp := fun _ => True) ?hr ?hp (fun _ hk => hk) trivial (Below.refl _ _) (Nat.le_refl _) (by simp) ?_; (case hd | hg => rfl); (case hr => (go_simp; done)); (case hp => exact (Reps.none _ _)); intro v956 w4 ho5 hb hg_ hnew_; clear hg_ hnew_; (rw [← Ny955.out] at ho5); have HO957 := Z.k (Kd.R_lower ho5 (below_size (Z.bs HB.out GE954.out))); replace BK954 := Z.bb BK954 hb; replace HB := Z.st (Z.bs HB.out GE954.out) hb; clear hb ho5))
 go_loopg [1, 5, 6] k (fun kq v1 v5 v6 w' => ∃ (x1_1 : Int) (x5_1 : List Int) (x6_1 : Int), v1 = .int .i64 x1_1 ∧ v6 = .int .i64 x6_1 ∧ Aside0 (laws_stateOf.l0 kq x1_1 x5_1 x6_1 a0_0 l0_1 l0_2 = some r) ∧ Aside0 (kq ≤ k) ∧ Aside0 (Kd.R (Kd.int .i64) 3 w' w.heap.size (fun _ => True) v5 x5_1) ∧ Aside0 (w'.heap[gb954]? = some (.cells #[.int .i64 a0_0, (.slice A0_1 l0_1.length c0_1), (.slice A0_2 l0_2.length c0_2)] 28 (0, 0))) ∧ Aside0 (Below w.heap.size w w'))
 case atStart => exact ⟨(a1), (y955), (0), (by rfl), (by rfl), H', ⟨Nat.le_refl _⟩, ⟨by (with_reducible skip); exact HO957.out⟩, ⟨by (with_reducible skip); exact BK954.out⟩, ⟨Z.bs HB.out GE954.out⟩⟩
 clear H'
 obtain ⟨x1_1, x5_1, x6_1, rfl, rfl, HA, HK1, HO_5, BK954, HB⟩ := hrel
 cases gk with
 | zero => exact absurd HA.out (by simp [laws_stateOf.l0])
 | succ k1 =>
  have H := HA.out
  clear HA
  simp only [laws_stateOf.l0] at H
  revert H; refine Z.fm ?_ ?_ <;> intro c6b0 H
  ·obtain rfl := Option.some.inj H
   have hcz10 := Z.c3 BK954.out
   go_wp2
   go_ret
   exact ⟨_, by rfl, by (with_reducible skip); exact HO_5.out, Z.bs HB.out GE954.out⟩

  obtain ⟨c7, H⟩ := Z.ifp H
  have LMc7 := Z.k c7
  clear c7
  obtain ⟨y958, hy958⟩ : ∃ y_ : List Int, y_ = (x5_1 ++ [Int.tmod x1_1 3]) := ⟨_, rfl⟩
  replace H : (laws_stateOf.l0 k1 (wrap64 (Int.tdiv x1_1 3)) y958 (wrap64 (x6_1 + 1)) a0_0 l0_1 l0_2) = some r := by (rw [hy958]; with_reducible exact H)
  have Ny958 := Z.k hy958
  clear hy958
  have H' := Z.k H
  clear H
  have hcz8 := Z.c3 BK954.out
  go_wp2_with (((with_reducible refine gate_builtin (b := .append) (xs := #[.tmp 15, .tmp 18]) rfl ?_); at_builtin; refine Kd.R_append (Kd.int .i64) (w0 := w) w.heap.size rfl (.tmp 15) (.tmp 18) 23 3 (.int .i64 0) 8 rfl Try.underlying23 info3 rfl (by decide) (by omega) u5 x5_1 (Int.tmod x1_1 3) [.int .i64 (Int.tmod x1_1 3)] (fun _ => True) (fun _ => False) rfl rfl ?aP (fun _ hk => hk.elim) ?aF ?aO ?aB ?aS ?aL ?_; (case aP => exact rfl); (case aB => exact (Z.bs HB.out GE954.out)); (case aF => exact (fun _ _ => trivial)); (case aO => exact (by (with_reducible skip); exact HO_5.out)); (case aS => exact (below_size (Z.bs HB.out GE954.out))); (case aL => have := LMc7.out; omega); intro v959 w9 ho hb hg hat; rw [← Ny958.out] at ho; replace BK954 := Z.k (blk_grown (g := gb954) (o := .cells #[.int .i64 a0_0, .slice A0_1 l0_1.length c0_1, .slice A0_2 l0_2.length c0_2] 28 (0, 0)) (Z.bk BK954.out) hg (Kd.R_ne HO_5.out BK954.out (by decide))); replace HB := Z.k (hb); have HO960 := Z.k (ho); clear HO_5; clear ho hb hg hat))
  go_roundg k1
  case measure => have := HK1.out; omega
  case rel => exact ⟨(wrap64 (Int.tdiv x1_1 3)), (y958), (wrap64 (x6_1 + 1)), (by rfl), (by rfl), H', ⟨by have := HK1.out; omega⟩, ⟨by (with_reducible skip); exact HO960.out⟩, ⟨by (with_reducible skip); exact BK954.out⟩, ⟨Z.bs HB.out GE954.out⟩⟩
/-! ### laws_ascend: function 39 -/
def laws_ascend.l0 : Nat → List Int → Int → Option (Bool)
 | 0, _, _ => none
 | k + 1, x0, x3 => if x3 < (x0.length : Int) then (if 0 ≤ (wrap64 (x3 - 1)) then (if (wrap64 (x3 - 1)) < (x0.length : Int) then (if 0 ≤ x3 then (if (rd x0 (wrap64 (x3 - 1))) ≥ (rd x0 x3) then (some false) else (laws_ascend.l0 k x0 (wrap64 (x3 + 1)))) else (none)) else (none)) else (none)) else (some true)
def laws_ascend.f (k : Nat) (l0 : List Int) : Option (Bool) := laws_ascend.l0 k l0 1
set_option maxHeartbeats 8000000 in
set_option maxRecDepth 100000 in
theorem laws_ascend.calls (k : Nat) (A0 : Option Addr) (c0 : Nat) (l0 : List Int) (r : Bool) (w : World) (hr0 : Kd.C (Kd.int .i64) w A0 l0.length l0) (hc0 : l0.length ≤ c0) (h : laws_ascend.f k l0 = some r) :
  Calls Try.prog 39 #[.slice A0 l0.length c0] w fun e w' => e = .returned (.bool r) ∧ Drawn0 w w' := by
 have HR0 := Z.k hr0
 have HC0 := Z.k hc0
 clear hr0 hc0
 have H := h
 clear h
 unfold laws_ascend.f at H
 have H' := Z.k H
 clear H
 go_enter Try.func39, Try.ntmps39
 go_wp2
 go_loopg [3] k (fun kq v3 w' => ∃ (x3_1 : Int), v3 = .int .i64 x3_1 ∧ Aside0 (laws_ascend.l0 kq l0 x3_1 = some r) ∧ Aside0 (kq ≤ k) ∧ Drawn0 w w')
 case atStart => exact ⟨(1), (by rfl), H', ⟨Nat.le_refl _⟩, by repeat (exact Drawn0.refl _)⟩
 clear H'
 obtain ⟨x3_1, rfl, HA, HK1, ⟨m1, rfl⟩⟩ := hrel
 cases gk with
 | zero => exact absurd HA.out (by simp [laws_ascend.l0])
 | succ k1 =>
  have H := HA.out
  clear HA
  simp only [laws_ascend.l0] at H
  revert H; refine Z.fm ?_ ?_ <;> intro c2b0 H
  ·obtain rfl := Option.some.inj H
   go_wp2
   go_ret
   exact ⟨by rfl, by repeat (first | exact Drawn0.refl _ | apply Drawn0.step)⟩

  obtain ⟨ji3, hji3⟩ : ∃ j_ : Int, (wrap64 (x3_1 - 1)) = j_ := ⟨_, rfl⟩
  replace H : (if 0 ≤ (ji3) then (if (ji3) < (l0.length : Int) then (if 0 ≤ x3_1 then (if (rd l0 (ji3)) ≥ (rd l0 x3_1) then (some false) else (laws_ascend.l0 k1 l0 (wrap64 (x3_1 + 1)))) else (none)) else (none)) else (none)) = some r := by (rw [hji3] at H; exact H)
  have hji3w : (IntKind.i64.wrap (x3_1 - 1)) = ji3 := (i64_w _).trans hji3
  obtain ⟨c4b0, H⟩ := Z.fd H
  obtain ⟨c5b0, H⟩ := Z.fd H
  obtain ⟨c6b0, H⟩ := Z.fd H
  revert H; refine Z.fc ?_ ?_ <;> intro c7b0 H
  ·obtain rfl := Option.some.inj H
   have p961 : 0 ≤ ((ji3) : Int) := Z.od
   have q961 : (ji3) < (l0.length : Int) := Z.od
   obtain ⟨ad961, rfl, hx961_0⟩ := Kd.at_int HR0.out (ji3) p961 q961
   replace p961 := eq_true p961
   replace q961 := eq_true q961
   have p962 : 0 ≤ (x3_1 : Int) := Z.od
   have q962 : x3_1 < (l0.length : Int) := Z.od
   obtain ⟨ad962, e962, hx962_0⟩ := Kd.at_int HR0.out x3_1 p962 q962
   obtain rfl : ad961 = ad962 := (by injection e962)
   replace p962 := eq_true p962
   replace q962 := eq_true q962
   go_wp2
   repeat (go_quiet (fail); try go_wp2)
   go_ret
   exact ⟨by rfl, by repeat (first | exact Drawn0.refl _ | apply Drawn0.step)⟩
  have H' := Z.k H
  clear H
  have p961 : 0 ≤ ((ji3) : Int) := Z.od
  have q961 : (ji3) < (l0.length : Int) := Z.od
  obtain ⟨ad961, rfl, hx961_0⟩ := Kd.at_int HR0.out (ji3) p961 q961
  replace p961 := eq_true p961
  replace q961 := eq_true q961
  have p962 : 0 ≤ (x3_1 : Int) := Z.od
  have q962 : x3_1 < (l0.length : Int) := Z.od
  obtain ⟨ad962, e962, hx962_0⟩ := Kd.at_int HR0.out x3_1 p962 q962
  obtain rfl : ad961 = ad962 := (by injection e962)
  replace p962 := eq_true p962
  replace q962 := eq_true q962
  go_wp2
  repeat (go_quiet (fail); try go_wp2)
  go_roundg k1
  case measure => have := HK1.out; omega
  case rel => exact ⟨(wrap64 (x3_1 + 1)), (by rfl), H', ⟨by have := HK1.out; omega⟩, by repeat (first | exact Drawn0.refl _ | apply Drawn0.step)⟩
end Go.Proofs.Ytkogboechfieeaa.PAll

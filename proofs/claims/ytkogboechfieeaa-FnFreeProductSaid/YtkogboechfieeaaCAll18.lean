/- Walks of functions that laws of this seat reach, in the form of the print. -/
import Derived.Test.YtkogboechfieeaaCAll6
import Derived.Maps.OwnSet
import Derived.Shelf.Abstract
-- PRINTED
namespace Go.Proofs.Ytkogboechfieeaa.PAll
open Go.RowKit Go.Proofs.YtkogboechfieeaaW.PrintWords Go.Proofs.YtkogboechfieeaaW.PrintLast Go.Proofs.YtkogboechfieeaaW.PrintMore
attribute [local go_sem] max2_int min2_int max_two min_two max_three min_three max_four min_four
set_option linter.unusedVariables false
set_option linter.unusedSimpArgs false

/-! ### impl_stateNumber: function 76 -/
def impl_stateNumber.l0 : Nat → List Int → Int → Int → Option (Int)
 | 0, _, _, _ => none
 | k + 1, x0, x3, x4 => if x4 ≥ 0 then (if 0 ≤ x4 then (if x4 < (x0.length : Int) then (impl_stateNumber.l0 k x0 (wrap64 ((wrap64 (x3 * 3)) + (rd x0 x4))) (wrap64 (x4 - 1))) else (none)) else (none)) else (some x3)
def impl_stateNumber.f (k : Nat) (l0 : List Int) : Option (Int) := impl_stateNumber.l0 k l0 0 (wrap64 ((l0.length : Int) - 1))
set_option maxHeartbeats 8000000 in
set_option maxRecDepth 100000 in
theorem impl_stateNumber.calls (k : Nat) (A0 : Option Addr) (c0 : Nat) (l0 : List Int) (r : Int) (w : World) (hr0 : Kd.C (Kd.int .i64) w A0 l0.length l0) (hc0 : l0.length ≤ c0) (h : impl_stateNumber.f k l0 = some r) :
  Calls Try.prog 76 #[.slice A0 l0.length c0] w fun e w' => e = .returned (.int .i64 r) ∧ Drawn0 w w' := by
 have HR0 := Z.k hr0
 have HC0 := Z.k hc0
 clear hr0 hc0
 have H := h
 clear h
 unfold impl_stateNumber.f at H
 have H' := Z.k H
 clear H
 go_enter Try.func76, Try.ntmps76
 go_wp2
 go_loopg [3, 4] k (fun kq v3 v4 w' => ∃ (x3_1 : Int) (x4_1 : Int), v3 = .int .i64 x3_1 ∧ v4 = .int .i64 x4_1 ∧ Aside0 (impl_stateNumber.l0 kq l0 x3_1 x4_1 = some r) ∧ Aside0 (kq ≤ k) ∧ Drawn0 w w')
 case atStart => exact ⟨(0), (wrap64 ((l0.length : Int) - 1)), (by rfl), (by rfl), H', ⟨Nat.le_refl _⟩, Drawn0.refl _⟩
 clear H'
 obtain ⟨x3_1, x4_1, rfl, rfl, HA, HK1, ⟨m1, rfl⟩⟩ := hrel
 cases gk with
 | zero => exact absurd HA.out (by simp [impl_stateNumber.l0])
 | succ k1 =>
  have H := HA.out
  clear HA
  simp only [impl_stateNumber.l0] at H
  revert H; refine Z.fm ?_ ?_ <;> intro c2b0 H
  ·obtain rfl := Option.some.inj H
   go_wp2
   go_ret
   exact ⟨by rfl, by repeat (first | exact Drawn0.refl _ | apply Drawn0.step)⟩

  obtain ⟨c3b0, H⟩ := Z.fd H
  obtain ⟨c4b0, H⟩ := Z.fd H
  have H' := Z.k H
  clear H
  have p18 : (0 ≤ (x4_1 : Int)) = True := Z.oe
  have q18 : (x4_1 < (l0.length : Int)) = True := Z.oe
  obtain ⟨ad18, rfl, hx18_0⟩ := Kd.at_int HR0.out x4_1 Z.od Z.od
  go_wp2
  go_roundg k1
  case measure => have := HK1.out; omega
  case rel => exact ⟨(wrap64 ((wrap64 (x3_1 * 3)) + (rd l0 x4_1))), (wrap64 (x4_1 - 1)), (by rfl), (by rfl), H', ⟨by have := HK1.out; omega⟩, by repeat (first | exact Drawn0.refl _ | apply Drawn0.step)⟩
/-! ### impl_changed: function 96 -/
def impl_changed.f (l0 : List Int) (a1 : Int) (a2 : Int) : Option (List Int) := (some (([] : List Int) : List Int)).bind fun y15 => (if y15.length + l0.length < 17592186044416 then ((some (y15 ++ l0 : List Int)).bind fun y13 => (if 0 ≤ a1 then (if a1 < (y13.length : Int) then (some (y13.set (a1 : Int).toNat a2)) else (none)) else (none))) else (none))
set_option maxHeartbeats 8000000 in
set_option maxRecDepth 100000 in
theorem impl_changed.calls (A0 : Option Addr) (c0 : Nat) (l0 : List Int) (a1 : Int) (a2 : Int) (r : List Int) (w : World) (hr0 : Kd.C (Kd.int .i64) w A0 l0.length l0) (hc0 : l0.length ≤ c0) (h : impl_changed.f l0 a1 a2 = some r) :
  Calls Try.prog 96 #[.slice A0 l0.length c0, .int .i64 a1, .int .i64 a2] w fun e w' => ∃ v0_ : Value, e = .returned (v0_) ∧ Kd.R (Kd.int .i64) 3 w' w.heap.size (fun _ => True) v0_ r ∧ Below w.heap.size w w' := by
 have HR0 := Z.k hr0
 have HC0 := Z.k hc0
 clear hr0 hc0
 have HB := Z.k (Below.refl w.heap.size w)
 have H := h
 clear h
 unfold impl_changed.f at H
 obtain ⟨y15, hy15⟩ : ∃ y_ : List Int, y_ = (([] : List Int)) := ⟨_, rfl⟩
 replace H : (if y15.length + l0.length < 17592186044416 then ((some (y15 ++ l0 : List Int)).bind fun y13 => (if 0 ≤ a1 then (if a1 < (y13.length : Int) then (some (y13.set (a1 : Int).toNat a2)) else (none)) else (none))) else (none)) = some r := by first | (rw [hy15]; with_reducible exact H) | (have H2_ := (Option.bind_some _ _).symm.trans H; rw [hy15]; with_reducible exact H2_) | (have H2_ := (Option.bind_some _ _).symm.trans H; with_reducible exact H2_) | with_reducible exact H | (rw [hy15]; exact H) | exact H
 have Ny15 := Z.k hy15
 clear hy15
 obtain ⟨c4, H⟩ := Z.ifp H
 have LMc4 := Z.k c4
 clear c4
 obtain ⟨y13, hy13⟩ : ∃ y_ : List Int, y_ = (y15 ++ l0) := ⟨_, rfl⟩
 replace H : (if 0 ≤ a1 then (if a1 < (y13.length : Int) then (some (y13.set (a1 : Int).toNat a2)) else (none)) else (none)) = some r := by first | (rw [hy13]; with_reducible exact H) | (have H2_ := (Option.bind_some _ _).symm.trans H; rw [hy13]; with_reducible exact H2_) | (have H2_ := (Option.bind_some _ _).symm.trans H; with_reducible exact H2_) | with_reducible exact H | (rw [hy13]; exact H) | exact H
 have Ny13 := Z.k hy13
 clear hy13
 obtain ⟨c5b0, H⟩ := Z.fd H
 obtain ⟨c6b0, H⟩ := Z.fd H
 obtain ⟨y16, hy16⟩ : ∃ y_ : List Int, y_ = (y13.set (a1 : Int).toNat a2) := ⟨_, rfl⟩
 replace H : (some y16) = some r := by first | (rw [hy16]; with_reducible exact H) | (have H2_ := (Option.bind_some _ _).symm.trans H; rw [hy16]; with_reducible exact H2_) | (have H2_ := (Option.bind_some _ _).symm.trans H; with_reducible exact H2_) | with_reducible exact H | (rw [hy16]; exact H) | exact H
 have Ny16 := Z.k hy16
 clear hy16
 obtain rfl := Option.some.inj H
 go_enter Try.func96, Try.ntmps96
 go_wp2_with (first | ((with_reducible refine gate_dst (N := 8) rfl ?_); refine Kd.R_lit (Kd.int .i64) _ 3 ?hg (N := 8) ?hd (xs := ([] : List Int)) (inner := []) (ok := fun _ => True) (okp := fun _ => True) ?hr ?hp (fun _ hk => hk) trivial (Below.refl _ _) (Nat.le_refl _) (by simp) ?_; (case hd | hg => rfl); (case hr => first | (go_simp; done) | (go_simp; rfl)); (case hp => exact (Reps.none _ _)); intro v22 w8 ho9 hb hg_ hnew_; clear hg_ hnew_; (first | rw [← Ny15.out] at ho9 | (simp only [Int.reduceToNat] at ho9; rw [← Ny15.out] at ho9)); have HO21 := Z.k (Kd.R_lower ho9 (below_size (Z.bl HB.out))); replace HB := Z.st (Z.bl HB.out) hb; clear hb ho9) | ((with_reducible refine gate_builtin (b := .append) (xs := #[.tmp 8, .tmp 9]) rfl ?_); at_builtin; refine Kd.R_append_rows (Kd.int .i64) (w0 := w) w.heap.size rfl (.tmp 8) (.tmp 9) 23 3 (.int .i64 0) 8 rfl Try.underlying23 info3 rfl (by decide) (by omega) v22 y15 l0 _ _ _ (fun _ => True) (fun _ => False) rfl rfl ?aO ?aR (fun _ _ h => h) (fun _ h => h.elim) ?aF ?aB ?aS ?aL ?_; (case aR => exact Z.cc HR0 HB); (case aB => exact (Z.bl HB.out)); (case aF => exact (fun _ _ => trivial)); (case aO => exact (by (with_reducible repeat (first | apply Kd.R_alloc | apply Kd.R_drewN | apply Kd.R_drew)); exact HO21.out)); (case aS => exact (below_size (Z.bl HB.out))); (case aL => have := LMc4.out; omega); intro v25 w10 ho hb hg hat; rw [← Ny13.out] at ho; replace HB := Z.k (hb); have HO17 := Z.k (ho); clear HO21; clear ho hb hg hat; have p7 : 0 ≤ (a1 : Int) := Z.od; have q7 : (a1 : Int) < ((y13.length : Int) : Int) := Z.od; obtain ⟨go7, co7, eo7, gb7, gl7, cl7, HG7⟩ := Kd.R_form HO17.out (by omega); (first | cases eo7 | (injection eo7 with ea_ en_ ec_; (first | subst ea_ | (injection ea_ with ea_; subst ea_)); subst ec_; clear en_)); have GB7 := Z.k gb7; have GG7 := Z.k HG7; clear gb7 gl7 HG7; obtain ⟨hx7_0, hf7_0⟩ := Kd.R_celln 0 HO17.out (a1 : Int) p7 q7; replace p7 := eq_true p7; replace q7 := eq_true q7; obtain ⟨hy11_, hz11_⟩ := Kd.R_celln 0 HO17.out (a1 : Int) (Z.od) (Z.od); have HP11 := Kd.R_putg HO17.out (a1 : Int) a2) | ((with_reducible refine gate_store (t := 3) (p := 14) rfl ?_); refine store_event (t := 3) (p := 14) (v := ?vo_w12) (w1 := (w10.setCell ⟨go7, (a1 : Int).toNat, none⟩ (.int .i64 a2))) ?hg ?ho ?hn ?hr ?_; (case ho => rfl); (case hg => rfl); (case hn => rfl); (case hr => first | (go_simp; done) | (go_simp; rfl)); intro w12 hw; have hg : w10.grownBy w12 (some go7) := (by rw [hw]; exact HP11.2); have hp_ : Kd.R (Kd.int .i64) 3 w12 w.heap.size (fun _ => True) (.slice (some ⟨go7, 0, none⟩) y13.length co7) y16 := (by rw [hw, Ny16.out]; exact HP11.1); clear HP11; replace HO17 := Z.k (hp_); replace HB := Z.k ((by rw [hw]; exact below_set (HB.out) GB7.out : Below w.heap.size w w12)); clear hg hw hp_))
 go_ret
 exact ⟨_, by first | rfl | (simp [errW_none, errW_some] <;> rfl) | (simp [*, errW_none, errW_some] <;> rfl), by (with_reducible repeat (first | apply Kd.R_alloc | apply Kd.R_drewN | apply Kd.R_drew)); exact HO17.out, Z.bl HB.out⟩
-- NOT PRINTED: function 65 (impl_reach)

/-! ### impl_areBad: function 67 -/
def badB (n : Int) : Bool := decide (n < 0) || decide (27 ≤ n)
def impl_areBad.f (l0 : List Int) : Option (Bool) := some (decide (l0.length ≤ 27) && !(l0.any badB))
/-! ### impl_everybody: function 71 -/
def impl_everybody.f (a0 : Int) : Option (Int) := if 0 ≤ a0 then (some (wrap64 ((shl .i64 1 a0) - 1))) else (none)
/-! ### impl_LackOf: function 24 -/
def impl_LackOf.f (a0 : Int) (a1 : Int) : Option (Int) := (impl_isCrowd.f a0 a1).bind fun t19 => (if t19 = true then ((impl_everybody.f a0).bind fun t20 => (some (Go.bits .xor .i64 t20 a1))) else (some (-1)))
end Go.Proofs.Ytkogboechfieeaa.PAll

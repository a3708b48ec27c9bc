/- Walks of functions that laws of this seat reach, in the form of the print. -/
import Derived.Test.YtojoblllgddckaaCAll0
import Derived.Test.YtojoblllgddckaaCAll1
import Derived.Test.YtojoblllgddckaaZ
import Derived.Shelf.Abstract
-- PRINTED
namespace Go.Proofs.Ytojoblllgddckaa.PAll
open Go.RowKit Go.Proofs.YtojoblllgddckaaW.PrintWords Go.Proofs.YtojoblllgddckaaW.PrintLast Go.Proofs.YtojoblllgddckaaW.PrintMore
attribute [local go_sem] max2_int min2_int max_two min_two max_three min_three max_four min_four
set_option linter.unusedVariables false
set_option linter.unusedSimpArgs false

/-! ### laws_sameInts: function 42 -/
def laws_sameInts.l0 : Nat → List Int → List Int → Int → Option (Bool)
 | 0, _, _, _ => none
 | k + 1, x0, x1, x5 => if x5 < (x0.length : Int) then (if 0 ≤ x5 then (if x5 < (x1.length : Int) then (if (rd x0 x5) = (rd x1 x5) then (laws_sameInts.l0 k x0 x1 (wrap64 (x5 + 1))) else (some false)) else (none)) else (none)) else (some true)
def laws_sameInts.f (k : Nat) (l0 : List Int) (l1 : List Int) : Option (Bool) := if (l0.length : Int) = (l1.length : Int) then (laws_sameInts.l0 k l0 l1 0) else (some false)
/-! ### impl_areBad: function 84 -/
/-- The place of the first of which p says so, from i on; -1 if there is none. -/
def ixOf {α : Type} (p : α → Bool) : List α → Int → Int
 | [], _ => -1
 | x :: r, i => if p x then i else ixOf p r (i + 1)
theorem ixOf_iff {α : Type} (p : α → Bool) : ∀ (l : List α) (i : Int), 0 ≤ i → (0 ≤ ixOf p l i ↔ l.any p = true)
 | [], _, _ => by simp [ixOf]
 | x :: r, i, h => by
  have ih := ixOf_iff p r (i + 1) (by omega)
  by_cases e : p x = true
  ·simp [ixOf, e, h]
  ·simp only [ixOf, e, List.any_cons]; simpa using ih
theorem ixOf_any {α : Type} (p : α → Bool) (l : List α) (i : Int) (h : 0 ≤ i) : decide (0 ≤ ixOf p l i) = l.any p := by
 rw [Bool.eq_iff_iff, decide_eq_true_iff]; exact ixOf_iff p l i h
set_option maxHeartbeats 4000000 in
set_option maxRecDepth 100000 in
theorem ixI_any (w : World) (A : Option Addr) (cap : Nat) (l : List Int) (g : Nat) (lb : Array Value) (eg : ∀ args w, (callFunc g args).run Try.prog w = .ok (.enter g args) w) (p : Int → Bool) (hC : Kd.C (Kd.int .i64) w A l.length l)
  (hp : ∀ W x, x ∈ l → Below w.heap.size w W → Calls Try.prog g (#[.int .i64 x] ++ lb) W fun e w' => e = .returned (.bool (p x)) ∧ Below w.heap.size w w') (hl : l.length ≤ 9223372036854775807) :
  Calls Try.prog 107 #[.slice A l.length cap, .func (.func g) #[] lb] w fun e w' => e = .returned (.int .i64 (ixOf p l 0)) ∧ Below w.heap.size w w' := by
 have HC := Z.k hC
 have HP := Z.k hp
 clear hC hp
 go_enter Try.func107, Try.ntmps107
 go_wp2
 go_loopg [5, 8] l.length (fun gg _ s8 wr => ∃ kk : Nat, Aside0 (kk + gg = l.length ∧ ixOf p (l.drop kk) kk = ixOf p l 0) ∧ s8 = .int .i64 (kk : Int) ∧ Aside0 (Below w.heap.size w wr))
 case atStart => exact ⟨0, ⟨by omega, by simp⟩, by simp, ⟨Below.refl _ w⟩⟩
 case round =>
  obtain ⟨kk, hk, rfl, HB⟩ := hrel
  have hko := hk.out.1
  by_cases hlt : kk < l.length
  ·have d2 : (0 : Int) ≤ (kk : Int) := by omega
   have d3 : (kk : Int) < (l.length : Int) := by omega
   obtain ⟨ad, ea, hx⟩ := Kd.at_int HC.out (kk : Int) d2 d3
   cases ea
   replace hx := Z.up HB.out hx
   have ex : rd l (kk : Int) = l[kk] := by unfold rd; simp [List.getD_eq_getElem?_getD, List.getElem?_eq_getElem hlt]
   rw [ex, Int.toNat_natCast] at hx
   have hcall := HP.out wr l[kk] (List.getElem_mem hlt) HB.out
   have hd : ixOf p (l.drop kk) kk = if p l[kk] then (kk : Int) else ixOf p (l.drop (kk + 1)) ((kk : Int) + 1) := by rw [List.drop_eq_getElem_cons hlt]; rfl
   have HD := Z.k hd
   clear ex hd
   generalize hy : l[kk] = y at hx hcall HD
   clear hy
   have d0 : decide ((kk : Int) < (l.length : Int)) = true := decide_eq_true d3
   have d1 : decide (kk < l.length) = true := decide_eq_true hlt
   clear hko
   cases hq : p y with
   | true =>
    have HQ := Z.k hq
    rw [hq] at hcall
    clear hq
    go_wp2_with (go_at_fn g; refine hcall.mono ?_; rintro e w' ⟨rfl, hb'⟩)
    go_ret
    refine ⟨?_, hb'⟩
    have h2 := hk.out.2
    rw [HD.out, if_pos HQ.out] at h2
    rw [← h2]; rfl
   | false =>
    have HQ := Z.k hq
    rw [hq] at hcall
    clear hq
    go_wp2_with (go_at_fn g; refine hcall.mono ?_; rintro e w' ⟨rfl, hb'⟩)
    go_roundg (gk - 1)
    case measure => have := hk.out.1; omega
    case rel =>
     refine ⟨kk + 1, ⟨by have := hk.out.1; omega, ?_⟩, by rfl, ⟨hb'⟩⟩
     have h2 := hk.out.2
     rw [HD.out, if_neg (by rw [HQ.out]; decide)] at h2
     exact h2
  ·obtain rfl : kk = l.length := by omega
   have d0 : decide ((l.length : Int) < (l.length : Int)) = false := decide_eq_false (by omega)
   have d1 : decide (l.length < l.length) = false := decide_eq_false hlt
   have e := hk.out.2
   rw [List.drop_length] at e
   have E := Z.k e
   clear hko e
   go_wp2
   go_ret
   exact ⟨by rw [← E.out]; rfl, HB.out⟩
set_option maxHeartbeats 4000000 in
theorem cfI_any (w : World) (A : Option Addr) (cap : Nat) (l : List Int) (g : Nat) (lb : Array Value) (eg : ∀ args w, (callFunc g args).run Try.prog w = .ok (.enter g args) w) (p : Int → Bool) (hC : Kd.C (Kd.int .i64) w A l.length l)
  (hp : ∀ W x, x ∈ l → Below w.heap.size w W → Calls Try.prog g (#[.int .i64 x] ++ lb) W fun e w' => e = .returned (.bool (p x)) ∧ Below w.heap.size w w') (hl : l.length ≤ 9223372036854775807) :
  Calls Try.prog 100 #[.slice A l.length cap, .func (.func g) #[] lb] w fun e w' => e = .returned (.bool (l.any p)) ∧ Below w.heap.size w w' := by
 have HI := Z.k (ixI_any w A cap l g lb eg p hC hp hl)
 have HA := Z.k (ixOf_any p l 0 (by omega))
 clear hC hp eg
 go_enter Try.func100, Try.ntmps100
 go_wp2_with (go_at_call 107; refine HI.out.mono ?_; rintro e w' ⟨rfl, hb'⟩)
 go_ret
 exact ⟨by rw [← HA.out]; rfl, hb'⟩
set_option maxHeartbeats 4000000 in
theorem areBad1_any (x : Int) (w : World) : Calls Try.prog 101 #[.int .i64 x] w fun e w' => e = .returned (.bool (decide (x < 0) || decide (27 ≤ x))) ∧ Below w.heap.size w w' := by
 by_cases h : x < 0
 ·have d : decide (x < 0) = true := decide_eq_true h
  rw [d, Bool.true_or]
  go_enter Try.func101, Try.ntmps101
  go_wp2
  go_ret
  exact ⟨by rfl, Below.refl _ _⟩
 ·have d : decide (x < 0) = false := decide_eq_false h
  rw [d, Bool.false_or]
  go_enter Try.func101, Try.ntmps101
  go_wp2
  go_ret
  exact ⟨by rfl, Below.refl _ _⟩
def badB (n : Int) : Bool := decide (n < 0) || decide (27 ≤ n)
def impl_areBad.f (l0 : List Int) : Option (Bool) := some (decide (l0.length ≤ 27) && !(l0.any badB))
set_option maxHeartbeats 4000000 in
theorem impl_areBad.calls (A0 : Option Addr) (c0 : Nat) (l0 : List Int) (r : Bool) (w : World) (hr0 : Kd.C (Kd.int .i64) w A0 l0.length l0) (hc0 : l0.length ≤ c0) (h : impl_areBad.f l0 = some r) :
 Calls Try.prog 84 #[.slice A0 l0.length c0] w fun e w' => e = .returned (.bool r) ∧ Below w.heap.size w w' := by
 obtain rfl := Option.some.inj h
 clear h
 by_cases hl : l0.length ≤ 27
 ·have HI := Z.k (cfI_any w A0 c0 l0 101 #[] (fun args w => enters_ Try.func101 (by kernel_rfl) rfl args w) badB hr0 (fun W x _ hb => (areBad1_any x W).mono fun e w2 ⟨he, h2⟩ => ⟨he, below_step hb h2⟩) (by omega))
  have d : decide (l0.length ≤ 27) = true := decide_eq_true hl
  have d2 : decide ((l0.length : Int) ≤ 27) = true := decide_eq_true (by omega)
  rw [d, Bool.true_and]
  generalize l0.any badB = b at HI ⊢
  clear hr0 hc0 hl
  go_enter Try.func84, Try.ntmps84
  go_wp2_with (go_at_call 100; refine HI.out.mono ?_; rintro e w' ⟨rfl, hb'⟩)
  go_ret
  exact ⟨by rfl, hb'⟩
 ·have d : decide (l0.length ≤ 27) = false := decide_eq_false hl
  have d2 : decide ((l0.length : Int) ≤ 27) = false := decide_eq_false (by omega)
  rw [d, Bool.false_and]
  clear hr0 hc0 hl
  go_enter Try.func84, Try.ntmps84
  go_wp2
  go_ret
  exact ⟨by rfl, Below.refl _ _⟩

/-! ### slices_Index_int_int: function 102 -/
def slices_Index_int_int.l0 : Nat → List Int → Int → Int → Int → Option (Int)
 | 0, _, _, _, _ => none
 | k + 1, x0, x1, x7, x8 => if x8 < x7 then (if 0 ≤ x8 then (if x8 < (x0.length : Int) then (if x1 = (rd x0 x8) then (some x8) else (slices_Index_int_int.l0 k x0 x1 x7 (wrap64 (x8 + 1)))) else (none)) else (none)) else (some (-1))
def slices_Index_int_int.f (k : Nat) (l0 : List Int) (a1 : Int) : Option (Int) := slices_Index_int_int.l0 k l0 a1 (l0.length : Int) 0
set_option maxHeartbeats 8000000 in
set_option maxRecDepth 100000 in
theorem slices_Index_int_int.calls (k : Nat) (A0 : Option Addr) (c0 : Nat) (l0 : List Int) (a1 : Int) (r : Int) (w : World) (hr0 : Kd.C (Kd.int .i64) w A0 l0.length l0) (hc0 : l0.length ≤ c0) (h : slices_Index_int_int.f k l0 a1 = some r) :
  Calls Try.prog 102 #[.slice A0 l0.length c0, .int .i64 a1] w fun e w' => e = .returned (.int .i64 r) ∧ Drawn0 w w' := by
 have HR0 := Z.k hr0
 have HC0 := Z.k hc0
 clear hr0 hc0
 have H := h
 clear h
 unfold slices_Index_int_int.f at H
 have H' := Z.k H
 clear H
 go_enter Try.func102, Try.ntmps102
 go_wp2
 go_loopg [8] k (fun kq v8 w' => ∃ (x8_1 : Int), v8 = .int .i64 x8_1 ∧ Aside0 (slices_Index_int_int.l0 kq l0 a1 (l0.length : Int) x8_1 = some r) ∧ Aside0 (kq ≤ k) ∧ Drawn0 w w')
 case atStart => exact ⟨(0), (by rfl), H', ⟨Nat.le_refl _⟩, Drawn0.refl _⟩
 case round =>
  clear H'
  obtain ⟨x8_1, rfl, HA, HK1, ⟨m1, rfl⟩⟩ := hrel
  cases gk with
  | zero => exact absurd HA.out (by simp [slices_Index_int_int.l0])
  | succ k1 =>
   have H := HA.out
   clear HA
   simp only [slices_Index_int_int.l0] at H
   by_cases c3 : x8_1 < (l0.length : Int)
   ·rw [if_pos c3] at H
    have c3b0 := decide_eq_true c3
    clear c3
    obtain ⟨c4, H⟩ := Z.ifp H
    have c4b0 : decide (0 ≤ x8_1) = true := decide_eq_true c4
    clear c4
    obtain ⟨c5, H⟩ := Z.ifp H
    have c5b0 : decide (x8_1 < (l0.length : Int)) = true := decide_eq_true c5
    clear c5
    by_cases c6 : a1 = (rd l0 x8_1)
    ·rw [if_pos c6] at H
     have c6b0 : (a1 == (rd l0 x8_1)) = true := beq_iff_eq.mpr c6
     have c6b1 : (a1 != (rd l0 x8_1)) = false := bne_eq_false_iff_eq.mpr c6
     clear c6
     obtain rfl := Option.some.inj H
     have p1140 : 0 ≤ (x8_1 : Int) := Z.od
     have q1140 : x8_1 < (l0.length : Int) := Z.od
     obtain ⟨ad1140, rfl, hx1140_0⟩ := Kd.at_int HR0.out x8_1 p1140 q1140
     replace p1140 := eq_true p1140
     replace q1140 := eq_true q1140
     go_wp2
     go_ret
     exact ⟨by rfl, by repeat (first | exact Drawn0.refl _ | apply Drawn0.step)⟩
    ·rw [if_neg c6] at H
     have c6b0 : (a1 == (rd l0 x8_1)) = false := beq_eq_false_iff_ne.mpr c6
     have c6b1 : (a1 != (rd l0 x8_1)) = true := bne_iff_ne.mpr c6
     have H' := Z.k H
     clear H
     have p1140 : 0 ≤ (x8_1 : Int) := Z.od
     have q1140 : x8_1 < (l0.length : Int) := Z.od
     obtain ⟨ad1140, rfl, hx1140_0⟩ := Kd.at_int HR0.out x8_1 p1140 q1140
     replace p1140 := eq_true p1140
     replace q1140 := eq_true q1140
     go_wp2
     go_roundg k1
     case measure => have := HK1.out; omega
     case rel => exact ⟨(wrap64 (x8_1 + 1)), (by rfl), H', ⟨by have := HK1.out; omega⟩, by repeat (first | exact Drawn0.refl _ | apply Drawn0.step)⟩
   ·rw [if_neg c3] at H
    have c3b0 := decide_eq_false c3
    clear c3
    obtain rfl := Option.some.inj H
    go_wp2
    go_ret
    exact ⟨by rfl, by repeat (first | exact Drawn0.refl _ | apply Drawn0.step)⟩

/-! ### slices_Contains_int_int: function 85 -/
def slices_Contains_int_int.f (k : Nat) (l0 : List Int) (a1 : Int) : Option (Bool) := (slices_Index_int_int.f k l0 a1).bind fun t1141 => (some (decide (t1141 ≥ 0)))
set_option maxHeartbeats 8000000 in
set_option maxRecDepth 100000 in
theorem slices_Contains_int_int.calls (k : Nat) (A0 : Option Addr) (c0 : Nat) (l0 : List Int) (a1 : Int) (r : Bool) (w : World) (hr0 : Kd.C (Kd.int .i64) w A0 l0.length l0) (hc0 : l0.length ≤ c0) (h : slices_Contains_int_int.f k l0 a1 = some r) :
  Calls Try.prog 85 #[.slice A0 l0.length c0, .int .i64 a1] w fun e w' => e = .returned (.bool r) ∧ Drawn0 w w' := by
 have HR0 := Z.k hr0
 have HC0 := Z.k hc0
 clear hr0 hc0
 have H := h
 clear h
 unfold slices_Contains_int_int.f at H
 replace H := Option.bind_eq_some_iff.mp H
 obtain ⟨t1141, A30, H⟩ := H
 have A3 := Z.k A30
 clear A30
 obtain rfl := Option.some.inj H
 go_enter Try.func85, Try.ntmps85
 go_wp2_with (((with_reducible refine gate_callee (f := 102) rfl ?_); refine goesL_ (some 7) rfl rfl Try.func102 (by kernel_rfl) rfl #[.slice A0 l0.length c0, .int .i64 a1] rfl Z.ar ?_; (with_reducible refine (slices_Index_int_int.calls k _ _ l0 a1 t1141 _ ?q1 ?q2 A3.out).mono ?_); (case q1 => exact HR0.out); (case q2 => exact HC0.out); rintro e w' ⟨rfl, ⟨nd, rfl⟩⟩; refine ⟨_, rfl, ?_⟩))
 go_ret
 exact ⟨by rfl, by repeat (first | exact Drawn0.refl _ | apply Drawn0.step)⟩

end Go.Proofs.Ytojoblllgddckaa.PAll

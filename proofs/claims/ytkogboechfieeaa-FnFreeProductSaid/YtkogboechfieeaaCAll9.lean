/- Walks of functions that laws of this seat reach, in the form of the print. -/
import Derived.Test.YtkogboechfieeaaCAll8
-- PRINTED
namespace Go.Proofs.Ytkogboechfieeaa.PAll
open Go.RowKit Go.Proofs.YtkogboechfieeaaW.PrintWords Go.Proofs.YtkogboechfieeaaW.PrintLast Go.Proofs.YtkogboechfieeaaW.PrintMore
attribute [local go_sem] max2_int min2_int max_two min_two max_three min_three max_four min_four
set_option linter.unusedVariables false
set_option linter.unusedSimpArgs false

/-! ### impl_isState: function 62 -/
mutual
def impl_isState.j0 : Nat → List Int → Bool → Int → List Int → List (List (S37)) → Option (Bool)
 | 0, _, _, _, _, _ => none
 | k + 1, x1, x17, x59, x60, x53 => if x17 = true then (some false) else (impl_isState.l0 k x1 (x1.length : Int) 0 x59 x60 x53)
def impl_isState.l0 : Nat → List Int → Int → Int → Int → List Int → List (List (S37)) → Option (Bool)
 | 0, _, _, _, _, _, _ => none
 | k + 1, x18, x19, x20, x59, x60, x53 => if x20 < x19 then (if 0 ≤ x20 then (if x20 < (x18.length : Int) then (if (rd x18 x20) < 0 then (some false) else (if x20 < (x53.length : Int) then (if (rd x18 x20) ≥ ((rd_L5 x53 x20).length : Int) then (some false) else (impl_isState.l0 k x18 x19 (wrap64 (x20 + 1)) x59 x60 x53)) else (none))) else (none)) else (none)) else (some true)
end
def impl_isState.f (k : Nat) (a0_0 : Int) (l0_1 : List Int) (l0_2 : List (List (S37))) (l1 : List Int) : Option (Bool) := (impl_isCharter.f k a0_0 l0_1 l0_2).bind fun t65 => (if t65 = true then (impl_isState.j0 k l1 ((l1.length : Int) != (l0_2.length : Int)) a0_0 l0_1 l0_2) else (impl_isState.j0 k l1 true a0_0 l0_1 l0_2))
set_option maxHeartbeats 8000000 in
set_option maxRecDepth 100000 in
theorem impl_isState.calls (k : Nat) (a0_0 : Int) (A0_1 : Option Addr) (c0_1 : Nat) (l0_1 : List Int) (A0_2 : Option Addr) (c0_2 : Nat) (l0_2 : List (List (S37))) (A1 : Option Addr) (c1 : Nat) (l1 : List Int) (r : Bool) (w : World) (hr0_1 : Kd.C (Kd.int .i64) w A0_1 l0_1.length l0_1) (hc0_1 : l0_1.length ≤ c0_1) (hr0_2 : Kd.C (Kd.slice 37 k37) w A0_2 l0_2.length l0_2) (hc0_2 : l0_2.length ≤ c0_2) (hr1 : Kd.C (Kd.int .i64) w A1 l1.length l1) (hc1 : l1.length ≤ c1) (h : impl_isState.f k a0_0 l0_1 l0_2 l1 = some r) :
  Calls Try.prog 62 #[.agg #[.int .i64 a0_0, .slice A0_1 l0_1.length c0_1, .slice A0_2 l0_2.length c0_2], .slice A1 l1.length c1] w fun e w' => e = .returned (.bool r) ∧ Below w.heap.size w w' := by
 have hu46 := Try.underlying28
 have HR0_1 := Z.k hr0_1
 have HC0_1 := Z.k hc0_1
 clear hr0_1 hc0_1
 have HR0_2 := Z.k hr0_2
 have HC0_2 := Z.k hc0_2
 clear hr0_2 hc0_2
 have HR1 := Z.k hr1
 have HC1 := Z.k hc1
 clear hr1 hc1
 have HB := Z.k (Below.refl w.heap.size w)
 have H := h
 clear h
 unfold impl_isState.f at H
 have HC3 := Z.k H
 clear H
 go_enter Try.func62, Try.ntmps62
 go_upto_region 1 with (((with_reducible refine gate_dst (N := 2) rfl ?_); (try (refine gate_guard (by rfl) ?_; dsimp only)); refine Z.bx #[.int .i64 a0_0, .slice A0_1 l0_1.length c0_1, .slice A0_2 l0_2.length c0_2] 28 HB ?_; clear HB; intro gb32 w4 BK32 GE32 HB hg hb; have GW32 := GE32; clear hb hg))
 go_cut [17] (fun v17 wc => ∃ (kq : Nat) (x17_2 : Bool), v17 = .bool x17_2 ∧ Aside0 (impl_isState.j0 kq l1 x17_2 a0_0 l0_1 l0_2 = some r) ∧ Aside0 (kq ≤ k) ∧ Aside0 (wc.heap[gb32]? = some (.cells #[.int .i64 a0_0, (.slice A0_1 l0_1.length c0_1), (.slice A0_2 l0_2.length c0_2)] 28 (0, 0))) ∧ Aside0 (Below w.heap.size w wc))
 case first =>
  have H := HC3.out
  clear HC3
  revert H; refine Z.bd ?_; rintro t65 A5 H
  by_cases c6 : t65 = true
  ·subst c6
   rw [if_pos rfl] at H
   have H' := Z.k H
   clear H
   have hcz7 := Z.c3 BK32.out
   go_wp2_with (((with_reducible refine gate_callee (f := 92) rfl ?_); refine goesL_ (some 8) rfl rfl Try.func92 (by kernel_rfl) rfl #[.agg #[.int .i64 a0_0, .slice A0_1 l0_1.length c0_1, .slice A0_2 l0_2.length c0_2]] rfl Z.ar ?_; (with_reducible refine (impl_isCharter.calls k a0_0 _ _ l0_1 _ _ l0_2 true _ ?q1 ?q2 ?q3 ?q4 A5.out).mono ?_); (case q1 => exact Z.cc HR0_1 HB); (case q2 => exact HC0_1.out); (case q3 => exact Z.cc HR0_2 HB); (case q4 => exact HC0_2.out); rintro e w8 ⟨rfl, hb⟩; refine ⟨_, rfl, ?_⟩; replace BK32 := Z.bb BK32 hb; replace HB := Z.st (Z.bs HB.out GE32.out) hb; (try clear hb); have hcz9 := Z.c3 BK32.out))
   go_meet
   case rel => exact ⟨_, (((l1.length : Int) != (l0_2.length : Int))), (by rfl), H', ⟨by omega⟩, ⟨by exact BK32.out⟩, ⟨Z.bs HB.out GE32.out⟩⟩
  replace c6 := Bool.eq_false_iff.mpr c6
  subst c6
  rw [if_neg (show ¬ (false = true) by decide)] at H
  have H' := Z.k H
  clear H
  have hcz10 := Z.c3 BK32.out
  go_wp2_with (((with_reducible refine gate_callee (f := 92) rfl ?_); refine goesL_ (some 8) rfl rfl Try.func92 (by kernel_rfl) rfl #[.agg #[.int .i64 a0_0, .slice A0_1 l0_1.length c0_1, .slice A0_2 l0_2.length c0_2]] rfl Z.ar ?_; (with_reducible refine (impl_isCharter.calls k a0_0 _ _ l0_1 _ _ l0_2 false _ ?q1 ?q2 ?q3 ?q4 A5.out).mono ?_); (case q1 => exact Z.cc HR0_1 HB); (case q2 => exact HC0_1.out); (case q3 => exact Z.cc HR0_2 HB); (case q4 => exact HC0_2.out); rintro e w11 ⟨rfl, hb⟩; refine ⟨_, rfl, ?_⟩; replace BK32 := Z.bb BK32 hb; replace HB := Z.st (Z.bs HB.out GE32.out) hb; (try clear hb)))
  go_meet
  case rel => exact ⟨_, (true), (by rfl), H', ⟨by omega⟩, ⟨by exact BK32.out⟩, ⟨Z.bs HB.out GE32.out⟩⟩
 case rest =>
  clear HC3
  obtain ⟨kq, x17_2, rfl, HA, HJ2, BK32, HB⟩ := hcut
  cases kq with
  | zero => exact absurd HA.out (by simp [impl_isState.j0])
  | succ kj2 =>
   have H := HA.out
   clear HA
   simp only [impl_isState.j0] at H
   by_cases c12 : x17_2 = true
   ·subst c12
    rw [if_pos rfl] at H
    obtain rfl := Option.some.inj H
    go_wp2
    go_ret
    exact ⟨by rfl, Z.bs HB.out GE32.out⟩
   replace c12 := Bool.eq_false_iff.mpr c12
   subst c12
   rw [if_neg (show ¬ (false = true) by decide)] at H
   have H' := Z.k H
   clear H
   go_wp2
   go_loopg [20] kj2 (fun kq v20 w' => ∃ (x20_2 : Int), v20 = .int .i64 x20_2 ∧ Aside0 (impl_isState.l0 kq l1 (l1.length : Int) x20_2 a0_0 l0_1 l0_2 = some r) ∧ Aside0 (kq ≤ kj2) ∧ Aside0 (w'.heap[gb32]? = some (.cells #[.int .i64 a0_0, (.slice A0_1 l0_1.length c0_1), (.slice A0_2 l0_2.length c0_2)] 28 (0, 0))) ∧ Aside0 (Below w.heap.size w w'))
   case atStart => exact ⟨(0), (by rfl), H', ⟨Nat.le_refl _⟩, ⟨by exact BK32.out⟩, ⟨Z.bs HB.out GE32.out⟩⟩
   clear H'
   obtain ⟨x20_2, rfl, HA, HK2, BK32, HB⟩ := hrel
   cases gk with
   | zero => exact absurd HA.out (by simp [impl_isState.l0])
   | succ k2 =>
    have H := HA.out
    clear HA
    simp only [impl_isState.l0] at H
    revert H; refine Z.fm ?_ ?_ <;> intro c13b0 H
    ·obtain rfl := Option.some.inj H
     go_wp2
     go_ret
     exact ⟨by rfl, Z.bs HB.out GE32.out⟩

    obtain ⟨c14b0, H⟩ := Z.fd H
    obtain ⟨c15b0, H⟩ := Z.fd H
    revert H; refine Z.fc ?_ ?_ <;> intro c16b0 H
    ·obtain rfl := Option.some.inj H
     have p52 : (0 ≤ (x20_2 : Int)) = True := Z.oe
     have q52 : (x20_2 < (l1.length : Int)) = True := Z.oe
     obtain ⟨ad52, rfl, hx52_0⟩ := Kd.at_int HR1.out x20_2 Z.od Z.od
     replace hx52_0 := Z.up HB.out hx52_0
     go_wp2
     go_ret
     exact ⟨by rfl, Z.bs HB.out GE32.out⟩
    obtain ⟨c17b0, H⟩ := Z.fd H
    revert H; refine Z.fc ?_ ?_ <;> intro c18b0 H
    ·obtain rfl := Option.some.inj H
     have p52 : (0 ≤ (x20_2 : Int)) = True := Z.oe
     have q52 : (x20_2 < (l1.length : Int)) = True := Z.oe
     obtain ⟨ad52, rfl, hx52_0⟩ := Kd.at_int HR1.out x20_2 Z.od Z.od
     replace hx52_0 := Z.up HB.out hx52_0
     have hcz19 := Z.c3 BK32.out
     have p49 : (0 ≤ (x20_2 : Int)) = True := Z.oe
     have q49 : (x20_2 < (l0_2.length : Int)) = True := Z.oe
     obtain ⟨ad49, A49_0, c49_0, rfl, hx49_0, hl49_0, hi49_0⟩ := at_L5 HR0_2.out x20_2 Z.od Z.od
     replace hx49_0 := Z.up HB.out hx49_0
     have HR49_0 := Z.k hi49_0
     have HC49_0 := Z.k hl49_0
     clear hi49_0 hl49_0
     go_wp2
     go_ret
     exact ⟨by rfl, Z.bs HB.out GE32.out⟩
    have H' := Z.k H
    clear H
    have p52 : (0 ≤ (x20_2 : Int)) = True := Z.oe
    have q52 : (x20_2 < (l1.length : Int)) = True := Z.oe
    obtain ⟨ad52, rfl, hx52_0⟩ := Kd.at_int HR1.out x20_2 Z.od Z.od
    replace hx52_0 := Z.up HB.out hx52_0
    have hcz20 := Z.c3 BK32.out
    have p49 : (0 ≤ (x20_2 : Int)) = True := Z.oe
    have q49 : (x20_2 < (l0_2.length : Int)) = True := Z.oe
    obtain ⟨ad49, A49_0, c49_0, rfl, hx49_0, hl49_0, hi49_0⟩ := at_L5 HR0_2.out x20_2 Z.od Z.od
    replace hx49_0 := Z.up HB.out hx49_0
    have HR49_0 := Z.k hi49_0
    have HC49_0 := Z.k hl49_0
    clear hi49_0 hl49_0
    go_wp2
    go_roundg k2
    case measure => have := HJ2.out; have := HK2.out; omega
    case rel => exact ⟨(wrap64 (x20_2 + 1)), (by rfl), H', ⟨by have := HJ2.out; have := HK2.out; omega⟩, ⟨by exact BK32.out⟩, ⟨Z.bs HB.out GE32.out⟩⟩
/-! ### cmp_isNaN_int: function 136 -/
def cmp_isNaN_int.f (a0 : Int) : Option (Bool) := some (a0 != a0)
/-! ### cmp_Less_int: function 124 -/
def cmp_Less_int.f (a0 : Int) (a1 : Int) : Option (Bool) := (cmp_isNaN_int.f a0).bind fun t66 => (if t66 = true then ((cmp_isNaN_int.f a1).bind fun t67 => (if t67 = true then (some (decide (a0 < a1))) else (some true))) else (some (decide (a0 < a1))))
/-! ### slices_insertionSortOrdered_int: function 118 -/
mutual
def slices_insertionSortOrdered_int.l0 : Nat → List Int → Int → Int → Int → Option (List Int)
 | 0, _, _, _, _ => none
 | k + 1, x0, x1, x2, x6 => if x6 < x2 then (slices_insertionSortOrdered_int.l1 k x0 x1 x2 x6 x6) else (some x0)
def slices_insertionSortOrdered_int.l1 : Nat → List Int → Int → Int → Int → Int → Option (List Int)
 | 0, _, _, _, _, _ => none
 | k + 1, x0, x1, x2, x6, x7 => if x7 > x1 then (if 0 ≤ x7 then (if x7 < (x0.length : Int) then (if 0 ≤ (wrap64 (x7 - 1)) then (if (wrap64 (x7 - 1)) < (x0.length : Int) then ((cmp_Less_int.f (rd x0 x7) (rd x0 (wrap64 (x7 - 1)))).bind fun t61 => (if t61 = true then (slices_insertionSortOrdered_int.l1 k ((x0.set (x7 : Int).toNat (rd x0 (wrap64 (x7 - 1)))).set ((wrap64 (x7 - 1)) : Int).toNat (rd x0 x7)) x1 x2 x6 (wrap64 (x7 - 1))) else (slices_insertionSortOrdered_int.l0 k x0 x1 x2 (wrap64 (x6 + 1))))) else (none)) else (none)) else (none)) else (none)) else (slices_insertionSortOrdered_int.l0 k x0 x1 x2 (wrap64 (x6 + 1)))
end
def slices_insertionSortOrdered_int.f (k : Nat) (l0 : List Int) (a1 : Int) (a2 : Int) : Option (List Int) := slices_insertionSortOrdered_int.l0 k l0 a1 a2 (wrap64 (a1 + 1))
end Go.Proofs.Ytkogboechfieeaa.PAll

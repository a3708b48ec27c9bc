/- Walks of functions that some laws of this seat reach, in the form of the print. -/
import Derived.Test.YtcafckapdgaogaaCAll0
import Derived.Test.YtcafckapdgaogaaCAll1
import Derived.Test.YtcafckapdgaogaaZ
import Derived.Test.YtcafckapdgaogaaV2
import Derived.Shelf.Abstract
-- PRINTED
namespace Go.Proofs.Ytcafckapdgaogaa.PAll
open Go.RowKit Go.Proofs.YtcafckapdgaogaaW.PrintWords Go.Proofs.YtcafckapdgaogaaW.PrintLast Go.Proofs.YtcafckapdgaogaaW.PrintMore
attribute [local go_sem] max2_int min2_int max_two min_two max_three min_three max_four min_four
set_option linter.unusedVariables false
set_option linter.unusedSimpArgs false


/-! ### impl_areBad: function 81 -/
/-- The place of the first of which p says so, from i on; -1 if there is none. -/
def ixOf {α : Type} (p : α → Bool) : List α → Int → Int
 | [], _ => -1
 | x :: r, i => if p x then i else ixOf p r (i + 1)
theorem ixOf_iff {α : Type} (p : α → Bool) : ∀ (l : List α) (i : Int), 0 ≤ i → (0 ≤ ixOf p l i ↔ l.any p = true)
 | [], _, _ => by simp [ixOf]
 | x :: r, i, h => by
  have ih := ixOf_iff p r (i + 1) (by omega)
  by_cases e : p x = true
  ·simp [ixOf, e, h]
  ·simp only [ixOf, e, List.any_cons]; simpa using ih
theorem ixOf_any {α : Type} (p : α → Bool) (l : List α) (i : Int) (h : 0 ≤ i) : decide (0 ≤ ixOf p l i) = l.any p := by
 rw [Bool.eq_iff_iff, decide_eq_true_iff]; exact ixOf_iff p l i h
set_option maxHeartbeats 4000000 in
set_option maxRecDepth 100000 in
theorem ixI_any (w : World) (A : Option Addr) (cap : Nat) (l : List Int) (g : Nat) (lb : Array Value) (eg : ∀ args w, (callFunc g args).run Try.prog w = .ok (.enter g args) w) (p : Int → Bool) (hC : Kd.C (Kd.int .i64) w A l.length l)
  (hp : ∀ W x, x ∈ l → Below w.heap.size w W → Calls Try.prog g (#[.int .i64 x] ++ lb) W fun e w' => e = .returned (.bool (p x)) ∧ Below w.heap.size w w') (hl : l.length ≤ 9223372036854775807) :
  Calls Try.prog 133 #[.slice A l.length cap, .func (.func g) #[] lb] w fun e w' => e = .returned (.int .i64 (ixOf p l 0)) ∧ Below w.heap.size w w' := by
 have HC := Aside0.mk hC
 have HP := Aside0.mk hp
 clear hC hp
 go_enter Try.func133, Try.ntmps133
 go_wp2
 go_loopg [5, 8] l.length (fun gg _ s8 wr => ∃ kk : Nat, Aside0 (kk + gg = l.length ∧ ixOf p (l.drop kk) kk = ixOf p l 0) ∧ s8 = .int .i64 (kk : Int) ∧ Aside0 (Below w.heap.size w wr))
 case atStart => exact ⟨0, ⟨by omega, by simp⟩, by simp, ⟨Below.refl _ w⟩⟩
 case round =>
  obtain ⟨kk, hk, rfl, HB⟩ := hrel
  have hko := hk.out.1
  by_cases hlt : kk < l.length
  ·have d2 : (0 : Int) ≤ (kk : Int) := by omega
   have d3 : (kk : Int) < (l.length : Int) := by omega
   obtain ⟨ad, ea, hx⟩ := Kd.at_int HC.out (kk : Int) d2 d3
   cases ea
   replace hx := Z.up HB.out hx
   have ex : rd l (kk : Int) = l[kk] := by unfold rd; simp [List.getD_eq_getElem?_getD, List.getElem?_eq_getElem hlt]
   rw [ex, Int.toNat_natCast] at hx
   have hcall := HP.out wr l[kk] (List.getElem_mem hlt) HB.out
   have hd : ixOf p (l.drop kk) kk = if p l[kk] then (kk : Int) else ixOf p (l.drop (kk + 1)) ((kk : Int) + 1) := by rw [List.drop_eq_getElem_cons hlt]; rfl
   have HD := Aside0.mk hd
   clear ex hd
   generalize hy : l[kk] = y at hx hcall HD
   clear hy
   have d0 : decide ((kk : Int) < (l.length : Int)) = true := decide_eq_true d3
   have d1 : decide (kk < l.length) = true := decide_eq_true hlt
   clear hko
   cases hq : p y with
   | true =>
    have HQ := Aside0.mk hq
    rw [hq] at hcall
    clear hq
    go_wp2_with (go_at_fn g; refine hcall.mono ?_; rintro e w' ⟨rfl, hb'⟩)
    go_ret
    refine ⟨?_, hb'⟩
    have h2 := hk.out.2
    rw [HD.out, if_pos HQ.out] at h2
    rw [← h2]; rfl
   | false =>
    have HQ := Aside0.mk hq
    rw [hq] at hcall
    clear hq
    go_wp2_with (go_at_fn g; refine hcall.mono ?_; rintro e w' ⟨rfl, hb'⟩)
    go_roundg (gk - 1)
    case measure => have := hk.out.1; omega
    case rel =>
     refine ⟨kk + 1, ⟨by have := hk.out.1; omega, ?_⟩, by first | rfl | (simp; done), ⟨hb'⟩⟩
     have h2 := hk.out.2
     rw [HD.out, if_neg (by rw [HQ.out]; decide)] at h2
     exact h2
  ·obtain rfl : kk = l.length := by omega
   have d0 : decide ((l.length : Int) < (l.length : Int)) = false := decide_eq_false (by omega)
   have d1 : decide (l.length < l.length) = false := decide_eq_false hlt
   have e := hk.out.2
   rw [List.drop_length] at e
   have E := Aside0.mk e
   clear hko e
   go_wp2
   go_ret
   exact ⟨by rw [← E.out]; rfl, HB.out⟩
set_option maxHeartbeats 4000000 in
theorem cfI_any (w : World) (A : Option Addr) (cap : Nat) (l : List Int) (g : Nat) (lb : Array Value) (eg : ∀ args w, (callFunc g args).run Try.prog w = .ok (.enter g args) w) (p : Int → Bool) (hC : Kd.C (Kd.int .i64) w A l.length l)
  (hp : ∀ W x, x ∈ l → Below w.heap.size w W → Calls Try.prog g (#[.int .i64 x] ++ lb) W fun e w' => e = .returned (.bool (p x)) ∧ Below w.heap.size w w') (hl : l.length ≤ 9223372036854775807) :
  Calls Try.prog 114 #[.slice A l.length cap, .func (.func g) #[] lb] w fun e w' => e = .returned (.bool (l.any p)) ∧ Below w.heap.size w w' := by
 have HI := Aside0.mk (ixI_any w A cap l g lb eg p hC hp hl)
 have HA := Aside0.mk (ixOf_any p l 0 (by omega))
 clear hC hp eg
 go_enter Try.func114, Try.ntmps114
 go_wp2_with (go_at_call 133; refine HI.out.mono ?_; rintro e w' ⟨rfl, hb'⟩)
 go_ret
 exact ⟨by rw [← HA.out]; rfl, hb'⟩
set_option maxHeartbeats 4000000 in
theorem areBad1_any (x : Int) (w : World) : Calls Try.prog 115 #[.int .i64 x] w fun e w' => e = .returned (.bool (decide (x < 0) || decide (27 ≤ x))) ∧ Below w.heap.size w w' := by
 by_cases h : x < 0
 ·have d : decide (x < 0) = true := decide_eq_true h
  rw [d, Bool.true_or]
  go_enter Try.func115, Try.ntmps115
  go_wp2
  go_ret
  exact ⟨by rfl, Below.refl _ _⟩
 ·have d : decide (x < 0) = false := decide_eq_false h
  rw [d, Bool.false_or]
  go_enter Try.func115, Try.ntmps115
  go_wp2
  go_ret
  exact ⟨by rfl, Below.refl _ _⟩
def badB (n : Int) : Bool := decide (n < 0) || decide (27 ≤ n)
def impl_areBad.f (l0 : List Int) : Option (Bool) := some (decide (l0.length ≤ 27) && !(l0.any badB))
set_option maxHeartbeats 4000000 in
theorem impl_areBad.calls (A0 : Option Addr) (c0 : Nat) (l0 : List Int) (r : Bool) (w : World) (hr0 : Kd.C (Kd.int .i64) w A0 l0.length l0) (hc0 : l0.length ≤ c0) (h : impl_areBad.f l0 = some r) :
 Calls Try.prog 81 #[.slice A0 l0.length c0] w fun e w' => e = .returned (.bool r) ∧ Below w.heap.size w w' := by
 obtain rfl := Option.some.inj h
 clear h
 by_cases hl : l0.length ≤ 27
 ·have HI := Aside0.mk (cfI_any w A0 c0 l0 115 #[] (fun args w => enters_ Try.func115 (by kernel_rfl) rfl args w) badB hr0 (fun W x _ hb => (areBad1_any x W).mono fun e w2 ⟨he, h2⟩ => ⟨he, below_step hb h2⟩) (by omega))
  have d : decide (l0.length ≤ 27) = true := decide_eq_true hl
  have d2 : decide ((l0.length : Int) ≤ 27) = true := decide_eq_true (by omega)
  rw [d, Bool.true_and]
  generalize l0.any badB = b at HI ⊢
  clear hr0 hc0 hl
  go_enter Try.func81, Try.ntmps81
  go_wp2_with (go_at_call 114; refine HI.out.mono ?_; rintro e w' ⟨rfl, hb'⟩)
  go_ret
  exact ⟨by rfl, hb'⟩
 ·have d : decide (l0.length ≤ 27) = false := decide_eq_false hl
  have d2 : decide ((l0.length : Int) ≤ 27) = false := decide_eq_false (by omega)
  rw [d, Bool.false_and]
  clear hr0 hc0 hl
  go_enter Try.func81, Try.ntmps81
  go_wp2
  go_ret
  exact ⟨by rfl, Below.refl _ _⟩

end Go.Proofs.Ytcafckapdgaogaa.PAll

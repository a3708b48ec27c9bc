/- Walks of functions that laws of this seat reach, in the form of the print. -/
import Derived.Test.YtojoblllgddckaaCAll0
import Derived.Test.YtojoblllgddckaaCAll1
import Derived.Test.YtojoblllgddckaaZ
import Derived.Shelf.Abstract
-- PRINTED
namespace Go.Proofs.Ytojoblllgddckaa.PAll
open Go.RowKit Go.Proofs.YtojoblllgddckaaW.PrintWords Go.Proofs.YtojoblllgddckaaW.PrintLast Go.Proofs.YtojoblllgddckaaW.PrintMore
attribute [local go_sem] max2_int min2_int max_two min_two max_three min_three max_four min_four
set_option linter.unusedVariables false
set_option linter.unusedSimpArgs false

/-! ### impl_hasClause: function 68 -/
def impl_hasClause.f (a0_0 : Int) (l0_1 : List Int) (l0_2 : List (List (S91))) (a1 : Int) : Option (Bool) := if a1 ≥ 0 then (some (decide (a1 < (l0_2.length : Int)))) else (some false)
set_option maxHeartbeats 8000000 in
set_option maxRecDepth 100000 in
theorem impl_hasClause.calls (a0_0 : Int) (A0_1 : Option Addr) (c0_1 : Nat) (l0_1 : List Int) (A0_2 : Option Addr) (c0_2 : Nat) (l0_2 : List (List (S91))) (a1 : Int) (r : Bool) (w : World) (hr0_1 : Kd.C (Kd.int .i64) w A0_1 l0_1.length l0_1) (hc0_1 : l0_1.length ≤ c0_1) (hr0_2 : Kd.C (Kd.slice 91 k91) w A0_2 l0_2.length l0_2) (hc0_2 : l0_2.length ≤ c0_2) (h : impl_hasClause.f a0_0 l0_1 l0_2 a1 = some r) :
  Calls Try.prog 68 #[.agg #[.int .i64 a0_0, .slice A0_1 l0_1.length c0_1, .slice A0_2 l0_2.length c0_2], .int .i64 a1] w fun e w' => e = .returned (.bool r) ∧ Below w.heap.size w w' := by
 have hu46 := Try.underlying46
 have HR0_1 := Z.k hr0_1
 have HC0_1 := Z.k hc0_1
 clear hr0_1 hc0_1
 have HR0_2 := Z.k hr0_2
 have HC0_2 := Z.k hc0_2
 clear hr0_2 hc0_2
 have HB := Z.k (Below.refl w.heap.size w)
 have H := h
 clear h
 unfold impl_hasClause.f at H
 by_cases c3 : a1 ≥ 0
 ·rw [if_pos c3] at H
  have c3b0 : decide (0 ≤ a1) = true := decide_eq_true c3
  clear c3
  obtain rfl := Option.some.inj H
  go_enter Try.func68, Try.ntmps68
  go_wp2_with (((with_reducible refine gate_dst (N := 2) rfl ?_); (try (refine gate_guard (by rfl) ?_; dsimp only)); refine Z.bx #[.int .i64 a0_0, .slice A0_1 l0_1.length c0_1, .slice A0_2 l0_2.length c0_2] 46 HB ?_; clear HB; intro gb506 w4 BK506 GE506 HB hg hb; have GW506 := GE506; clear hb hg; have hcz5 := Z.c3 BK506.out))
  go_ret
  exact ⟨by rfl, Z.bs HB.out GE506.out⟩
 ·rw [if_neg c3] at H
  have c3b0 : decide (0 ≤ a1) = false := decide_eq_false c3
  clear c3
  obtain rfl := Option.some.inj H
  go_enter Try.func68, Try.ntmps68
  go_wp2_with (((with_reducible refine gate_dst (N := 2) rfl ?_); (try (refine gate_guard (by rfl) ?_; dsimp only)); refine Z.bx #[.int .i64 a0_0, .slice A0_1 l0_1.length c0_1, .slice A0_2 l0_2.length c0_2] 46 HB ?_; clear HB; intro gb506 w6 BK506 GE506 HB hg hb; have GW506 := GE506; clear hb hg))
  go_ret
  exact ⟨by rfl, Z.bs HB.out GE506.out⟩

-- NOT PRINTED: function 105 (impl_Variant_105)

-- NOT PRINTED: function 97 (impl_Variant_97)

/-! ### impl_asksFor: function 69 -/
/-- (variants) The place of the first of which p says so, from i on; -1 if there is none. -/
def ixOf {α : Type} (p : α → Bool) : List α → Int → Int
 | [], _ => -1
 | x :: r, i => if p x then i else ixOf p r (i + 1)
theorem ixOf_iff {α : Type} (p : α → Bool) : ∀ (l : List α) (i : Int), 0 ≤ i → (0 ≤ ixOf p l i ↔ l.any p = true)
 | [], _, _ => by simp [ixOf]
 | x :: r, i, h => by
  have ih := ixOf_iff p r (i + 1) (by omega)
  by_cases e : p x = true
  ·simp [ixOf, e, h]
  ·simp only [ixOf, e, List.any_cons]; simpa using ih
theorem ixOf_any {α : Type} (p : α → Bool) (l : List α) (i : Int) (h : 0 ≤ i) : decide (0 ≤ ixOf p l i) = l.any p := by
 rw [Bool.eq_iff_iff, decide_eq_true_iff]; exact ixOf_iff p l i h
set_option maxHeartbeats 4000000 in
set_option maxRecDepth 100000 in
theorem ixV_any (w : World) (A : Option Addr) (cap : Nat) (l : List S91) (g : Nat) (lb : Array Value) (eg : ∀ args w, (callFunc g args).run Try.prog w = .ok (.enter g args) w) (p : S91 → Bool) (hC : Kd.C k91 w A l.length l)
  (hp : ∀ W x A0 c0, x ∈ l → Below w.heap.size w W → Calls Try.prog g (#[.agg #[.slice A0 x.f0.length c0, .int .i64 x.f1, .int .i64 x.f2]] ++ lb) W fun e w' => e = .returned (.bool (p x)) ∧ Below w.heap.size w w') (hl : l.length ≤ 9223372036854775807) :
  Calls Try.prog 105 #[.slice A l.length cap, .func (.func g) #[] lb] w fun e w' => e = .returned (.int .i64 (ixOf p l 0)) ∧ Below w.heap.size w w' := by
 have hu91 := Try.underlying91
 have HC := Z.k hC
 have HP := Z.k hp
 clear hC hp
 go_enter Try.func105, Try.ntmps105
 go_wp2
 go_loopg [5, 8] l.length (fun gg _ s8 wr => ∃ kk : Nat, Aside0 (kk + gg = l.length ∧ ixOf p (l.drop kk) kk = ixOf p l 0) ∧ s8 = .int .i64 (kk : Int) ∧ Aside0 (Below w.heap.size w wr))
 case atStart => exact ⟨0, ⟨by omega, by simp⟩, by simp, ⟨Below.refl _ w⟩⟩
 case round =>
  obtain ⟨kk, hk, rfl, HB⟩ := hrel
  have hko := hk.out.1
  by_cases hlt : kk < l.length
  ·have d2 : (0 : Int) ≤ (kk : Int) := by omega
   have d3 : (kk : Int) < (l.length : Int) := by omega
   obtain ⟨ad, A0, c0, ea, hx, hx1, hx2, _, _⟩ := at_T91 HC.out (kk : Int) d2 d3
   cases ea
   replace hx := Z.up HB.out hx
   replace hx1 := Z.up HB.out hx1
   replace hx2 := Z.up HB.out hx2
   have ex : rd_T91 l (kk : Int) = l[kk] := by unfold rd_T91; simp [List.getD_eq_getElem?_getD, List.getElem?_eq_getElem hlt]
   rw [ex, Int.toNat_natCast] at hx
   rw [ex, Int.toNat_natCast] at hx1
   rw [ex, Int.toNat_natCast] at hx2
   have hcall := HP.out wr l[kk] A0 c0 (List.getElem_mem hlt) HB.out
   have hd : ixOf p (l.drop kk) kk = if p l[kk] then (kk : Int) else ixOf p (l.drop (kk + 1)) ((kk : Int) + 1) := by rw [List.drop_eq_getElem_cons hlt]; rfl
   have HD := Z.k hd
   clear ex hd
   generalize hy : l[kk] = y at hx hx1 hx2 hcall HD
   clear hy
   have d0 : decide ((kk : Int) < (l.length : Int)) = true := decide_eq_true d3
   have d1 : decide (kk < l.length) = true := decide_eq_true hlt
   clear hko
   cases hq : p y with
   | true =>
    have HQ := Z.k hq
    rw [hq] at hcall
    clear hq
    go_wp2_with (go_at_fn g; refine hcall.mono ?_; rintro e w' ⟨rfl, hb'⟩)
    go_ret
    refine ⟨?_, hb'⟩
    have h2 := hk.out.2
    rw [HD.out, if_pos HQ.out] at h2
    rw [← h2]; rfl
   | false =>
    have HQ := Z.k hq
    rw [hq] at hcall
    clear hq
    go_wp2_with (go_at_fn g; refine hcall.mono ?_; rintro e w' ⟨rfl, hb'⟩)
    go_roundg (gk - 1)
    case measure => have := hk.out.1; omega
    case rel =>
     refine ⟨kk + 1, ⟨by have := hk.out.1; omega, ?_⟩, by rfl, ⟨hb'⟩⟩
     have h2 := hk.out.2
     rw [HD.out, if_neg (by rw [HQ.out]; decide)] at h2
     exact h2
  ·obtain rfl : kk = l.length := by omega
   have d0 : decide ((l.length : Int) < (l.length : Int)) = false := decide_eq_false (by omega)
   have d1 : decide (l.length < l.length) = false := decide_eq_false hlt
   have e := hk.out.2
   rw [List.drop_length] at e
   have E := Z.k e
   clear hko e
   go_wp2
   go_ret
   exact ⟨by rw [← E.out]; rfl, HB.out⟩
set_option maxHeartbeats 4000000 in
theorem cfV_any (w : World) (A : Option Addr) (cap : Nat) (l : List S91) (g : Nat) (lb : Array Value) (eg : ∀ args w, (callFunc g args).run Try.prog w = .ok (.enter g args) w) (p : S91 → Bool) (hC : Kd.C k91 w A l.length l)
  (hp : ∀ W x A0 c0, x ∈ l → Below w.heap.size w W → Calls Try.prog g (#[.agg #[.slice A0 x.f0.length c0, .int .i64 x.f1, .int .i64 x.f2]] ++ lb) W fun e w' => e = .returned (.bool (p x)) ∧ Below w.heap.size w w') (hl : l.length ≤ 9223372036854775807) :
  Calls Try.prog 97 #[.slice A l.length cap, .func (.func g) #[] lb] w fun e w' => e = .returned (.bool (l.any p)) ∧ Below w.heap.size w w' := by
 have HI := Z.k (ixV_any w A cap l g lb eg p hC hp hl)
 have HA := Z.k (ixOf_any p l 0 (by omega))
 clear hC hp eg
 go_enter Try.func97, Try.ntmps97
 go_wp2_with (go_at_call 105; refine HI.out.mono ?_; rintro e w' ⟨rfl, hb'⟩)
 go_ret
 exact ⟨by rw [← HA.out]; rfl, hb'⟩
set_option maxHeartbeats 4000000 in
theorem asksFor1_any (x : S91) (A0 : Option Addr) (c0 g : Nat) (y : Int) (W0 W : World) (hg : Aside0 (W0.heap[g]? = some (.cells #[.int .i64 y] 3 (0, 0)))) (hb : Below W0.heap.size W0 W) : Calls Try.prog 98 (#[.agg #[.slice A0 x.f0.length c0, .int .i64 x.f1, .int .i64 x.f2]] ++ #[.pointer (some ⟨g, 0, none⟩)]) W fun e w' => e = .returned (.bool (x.f1 == y)) ∧ Below W.heap.size W w' := by
 have hu91 := Try.underlying91
 have hg1 : W.heap[g]? = some (.cells #[.int .i64 y] 3 (0, 0)) := blk_below hg.out hb
 have HG := Z.k hg1
 clear hg hb hg1
 go_enter Try.func98, Try.ntmps98
 go_wp2_with ((with_reducible refine gate_dst (N := 2) rfl ?_); refine box_event ?hg (N := 2) ?hd (cs := #[.slice A0 x.f0.length c0, .int .i64 x.f1, .int .i64 x.f2]) (t := 91) ?hr ?_; (case hd | hg => rfl); (case hr => (go_simp; done)); intro gb hg w1 hbox hb; have HB := Z.k hb; have hcz := Z.c3 hbox; have hcy := Z.c1 (blk_below HG.out hb); clear hb hg hbox)
 go_ret
 exact ⟨by rfl, HB.out⟩
def impl_asksFor.f (a0_0 : Int) (l0_1 : List Int) (l0_2 : List (List (S91))) (a1 : Int) (a2 : Int) : Option (Bool) := if 0 ≤ a1 then (if a1 < (l0_2.length : Int) then (some ((rd_L5 l0_2 a1).any fun x => x.f1 == a2)) else (none)) else (none)
set_option maxHeartbeats 4000000 in
set_option maxRecDepth 100000 in
theorem impl_asksFor.calls (a0_0 : Int) (A0_1 : Option Addr) (c0_1 : Nat) (l0_1 : List Int) (A0_2 : Option Addr) (c0_2 : Nat) (l0_2 : List (List (S91))) (a1 : Int) (a2 : Int) (r : Bool) (w : World) (hr0_1 : Kd.C (Kd.int .i64) w A0_1 l0_1.length l0_1) (hc0_1 : l0_1.length ≤ c0_1) (hr0_2 : Kd.C (Kd.slice 91 k91) w A0_2 l0_2.length l0_2) (hc0_2 : l0_2.length ≤ c0_2) (h : impl_asksFor.f a0_0 l0_1 l0_2 a1 a2 = some r) :
 Calls Try.prog 69 #[.agg #[.int .i64 a0_0, .slice A0_1 l0_1.length c0_1, .slice A0_2 l0_2.length c0_2], .int .i64 a1, .int .i64 a2] w fun e w' => e = .returned (.bool r) ∧ Below w.heap.size w w' := by
 unfold impl_asksFor.f at h
 obtain ⟨b1, h⟩ := Z.ifp h
 obtain ⟨b2, h⟩ := Z.ifp h
 obtain rfl := Option.some.inj h
 clear h hc0_1 hc0_2 hr0_1
 have hu46 := Try.underlying46
 obtain ⟨ad, A0, c0, ea, hx, hl, hi⟩ := at_L5 hr0_2 a1 b1 b2
 cases ea
 have HX := Z.k hx
 have HI := Z.k hi
 have d1 : decide (0 ≤ a1) = true := decide_eq_true b1
 have d2 : decide (a1 < (l0_2.length : Int)) = true := decide_eq_true b2
 clear hx hl hi hr0_2
 generalize rd_L5 l0_2 a1 = l at HX HI ⊢
 have hn : l.length ≤ 9223372036854775807 := HI.out.2.1
 go_enter Try.func69, Try.ntmps69
 go_wp2_with (first
  | ((with_reducible refine gate_dst (N := 3) rfl ?_); refine box_event ?hg (N := 3) ?hd (cs := #[.int .i64 a0_0, .slice A0_1 l0_1.length c0_1, .slice (some ad) l0_2.length c0_2]) (t := 46) ?hr ?_; (case hd | hg => rfl); (case hr => (go_simp; done)); intro gb hg w1 hbox hb; have HB := Z.k hb; have BK := Z.k hbox; clear hb hg hbox)
  | ((with_reducible refine gate_dst (N := 5) rfl ?_); refine box_event ?hg (N := 5) ?hd (cs := #[.int .i64 a2]) (t := 3) ?hr ?_; (case hd | hg => rfl); (case hr => (go_simp; done)); intro gc hg w2 hbox hb; replace BK := Z.k (blk_below BK.out hb); replace HB := Z.k (below_step HB.out hb); have BC := Z.k hbox; clear hb hg hbox; have hcz := Z.c3 BK.out; have hx := Z.up HB.out HX.out)
  | (go_at_call 97; refine (cfV_any w2 A0 c0 l 98 #[.pointer (some ⟨gc, 0, none⟩)] (fun args w => enters_ Try.func98 (by kernel_rfl) rfl args w) (fun x => x.f1 == a2) (Kd.C_below HI.out HB.out) (fun W x A1 c1 _ hb => (asksFor1_any x A1 c1 gc a2 w2 W BC hb).mono fun e w3 ⟨he, h2⟩ => ⟨he, below_step hb h2⟩) ?ql).mono ?_; (case ql => exact hn); rintro e w' ⟨rfl, hb'⟩))
 go_ret
 exact ⟨by rfl, below_step HB.out hb'⟩

end Go.Proofs.Ytojoblllgddckaa.PAll

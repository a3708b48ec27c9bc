/- Walks of functions that some laws of this seat reach, in the form of the print. -/
import Derived.Test.YtcafckapdgaogaaCAll0
import Derived.Test.YtcafckapdgaogaaCAll1
import Derived.Test.YtcafckapdgaogaaCAll13
import Derived.Test.YtcafckapdgaogaaCAll27
import Derived.Test.YtcafckapdgaogaaZ
import Derived.Test.YtcafckapdgaogaaV2
import Derived.Shelf.Abstract
-- PRINTED
namespace Go.Proofs.Ytcafckapdgaogaa.PAll
open Go.RowKit Go.Proofs.YtcafckapdgaogaaW.PrintWords Go.Proofs.YtcafckapdgaogaaW.PrintLast Go.Proofs.YtcafckapdgaogaaW.PrintMore
attribute [local go_sem] max2_int min2_int max_two min_two max_three min_three max_four min_four
set_option linter.unusedVariables false
set_option linter.unusedSimpArgs false


/-! ### impl_asksFor: function 76 -/
/-- (variants) The place of the first of which p says so, from i on; -1 if there is none. -/
def ixOf {α : Type} (p : α → Bool) : List α → Int → Int
 | [], _ => -1
 | x :: r, i => if p x then i else ixOf p r (i + 1)
theorem ixOf_iff {α : Type} (p : α → Bool) : ∀ (l : List α) (i : Int), 0 ≤ i → (0 ≤ ixOf p l i ↔ l.any p = true)
 | [], _, _ => by simp [ixOf]
 | x :: r, i, h => by
  have ih := ixOf_iff p r (i + 1) (by omega)
  by_cases e : p x = true
  ·simp [ixOf, e, h]
  ·simp only [ixOf, e, List.any_cons]; simpa using ih
theorem ixOf_any {α : Type} (p : α → Bool) (l : List α) (i : Int) (h : 0 ≤ i) : decide (0 ≤ ixOf p l i) = l.any p := by
 rw [Bool.eq_iff_iff, decide_eq_true_iff]; exact ixOf_iff p l i h
set_option maxHeartbeats 4000000 in
set_option maxRecDepth 100000 in
theorem ixV_any (w : World) (A : Option Addr) (cap : Nat) (l : List S86) (g : Nat) (lb : Array Value) (eg : ∀ args w, (callFunc g args).run Try.prog w = .ok (.enter g args) w) (p : S86 → Bool) (hC : Kd.C k86 w A l.length l)
  (hp : ∀ W x A0 c0, x ∈ l → Below w.heap.size w W → Calls Try.prog g (#[.agg #[.slice A0 x.f0.length c0, .int .i64 x.f1, .int .i64 x.f2]] ++ lb) W fun e w' => e = .returned (.bool (p x)) ∧ Below w.heap.size w w') (hl : l.length ≤ 9223372036854775807) :
  Calls Try.prog 132 #[.slice A l.length cap, .func (.func g) #[] lb] w fun e w' => e = .returned (.int .i64 (ixOf p l 0)) ∧ Below w.heap.size w w' := by
 have hu86 := Try.underlying86
 have HC := Aside0.mk hC
 have HP := Aside0.mk hp
 clear hC hp
 go_enter Try.func132, Try.ntmps132
 go_wp2
 go_loopg [5, 8] l.length (fun gg _ s8 wr => ∃ kk : Nat, Aside0 (kk + gg = l.length ∧ ixOf p (l.drop kk) kk = ixOf p l 0) ∧ s8 = .int .i64 (kk : Int) ∧ Aside0 (Below w.heap.size w wr))
 case atStart => exact ⟨0, ⟨by omega, by simp⟩, by simp, ⟨Below.refl _ w⟩⟩
 case round =>
  obtain ⟨kk, hk, rfl, HB⟩ := hrel
  have hko := hk.out.1
  by_cases hlt : kk < l.length
  ·have d2 : (0 : Int) ≤ (kk : Int) := by omega
   have d3 : (kk : Int) < (l.length : Int) := by omega
   obtain ⟨ad, A0, c0, ea, hx, hx1, hx2, _, _⟩ := at_T86 HC.out (kk : Int) d2 d3
   cases ea
   replace hx := Z.up HB.out hx
   replace hx1 := Z.up HB.out hx1
   replace hx2 := Z.up HB.out hx2
   have ex : rd_T86 l (kk : Int) = l[kk] := by unfold rd_T86; simp [List.getD_eq_getElem?_getD, List.getElem?_eq_getElem hlt]
   rw [ex, Int.toNat_natCast] at hx
   rw [ex, Int.toNat_natCast] at hx1
   rw [ex, Int.toNat_natCast] at hx2
   have hcall := HP.out wr l[kk] A0 c0 (List.getElem_mem hlt) HB.out
   have hd : ixOf p (l.drop kk) kk = if p l[kk] then (kk : Int) else ixOf p (l.drop (kk + 1)) ((kk : Int) + 1) := by rw [List.drop_eq_getElem_cons hlt]; rfl
   have HD := Aside0.mk hd
   clear ex hd
   generalize hy : l[kk] = y at hx hx1 hx2 hcall HD
   clear hy
   have d0 : decide ((kk : Int) < (l.length : Int)) = true := decide_eq_true d3
   have d1 : decide (kk < l.length) = true := decide_eq_true hlt
   clear hko
   cases hq : p y with
   | true =>
    have HQ := Aside0.mk hq
    rw [hq] at hcall
    clear hq
    go_wp2_with (go_at_fn g; refine hcall.mono ?_; rintro e w' ⟨rfl, hb'⟩)
    go_ret
    refine ⟨?_, hb'⟩
    have h2 := hk.out.2
    rw [HD.out, if_pos HQ.out] at h2
    rw [← h2]; rfl
   | false =>
    have HQ := Aside0.mk hq
    rw [hq] at hcall
    clear hq
    go_wp2_with (go_at_fn g; refine hcall.mono ?_; rintro e w' ⟨rfl, hb'⟩)
    go_roundg (gk - 1)
    case measure => have := hk.out.1; omega
    case rel =>
     refine ⟨kk + 1, ⟨by have := hk.out.1; omega, ?_⟩, by first | rfl | (simp; done), ⟨hb'⟩⟩
     have h2 := hk.out.2
     rw [HD.out, if_neg (by rw [HQ.out]; decide)] at h2
     exact h2
  ·obtain rfl : kk = l.length := by omega
   have d0 : decide ((l.length : Int) < (l.length : Int)) = false := decide_eq_false (by omega)
   have d1 : decide (l.length < l.length) = false := decide_eq_false hlt
   have e := hk.out.2
   rw [List.drop_length] at e
   have E := Aside0.mk e
   clear hko e
   go_wp2
   go_ret
   exact ⟨by rw [← E.out]; rfl, HB.out⟩
set_option maxHeartbeats 4000000 in
theorem cfV_any (w : World) (A : Option Addr) (cap : Nat) (l : List S86) (g : Nat) (lb : Array Value) (eg : ∀ args w, (callFunc g args).run Try.prog w = .ok (.enter g args) w) (p : S86 → Bool) (hC : Kd.C k86 w A l.length l)
  (hp : ∀ W x A0 c0, x ∈ l → Below w.heap.size w W → Calls Try.prog g (#[.agg #[.slice A0 x.f0.length c0, .int .i64 x.f1, .int .i64 x.f2]] ++ lb) W fun e w' => e = .returned (.bool (p x)) ∧ Below w.heap.size w w') (hl : l.length ≤ 9223372036854775807) :
  Calls Try.prog 112 #[.slice A l.length cap, .func (.func g) #[] lb] w fun e w' => e = .returned (.bool (l.any p)) ∧ Below w.heap.size w w' := by
 have HI := Aside0.mk (ixV_any w A cap l g lb eg p hC hp hl)
 have HA := Aside0.mk (ixOf_any p l 0 (by omega))
 clear hC hp eg
 go_enter Try.func112, Try.ntmps112
 go_wp2_with (go_at_call 132; refine HI.out.mono ?_; rintro e w' ⟨rfl, hb'⟩)
 go_ret
 exact ⟨by rw [← HA.out]; rfl, hb'⟩
set_option maxHeartbeats 4000000 in
theorem asksFor1_any (x : S86) (A0 : Option Addr) (c0 g : Nat) (y : Int) (W0 W : World) (hg : Aside0 (W0.heap[g]? = some (.cells #[.int .i64 y] 3 (0, 0)))) (hb : Below W0.heap.size W0 W) : Calls Try.prog 113 (#[.agg #[.slice A0 x.f0.length c0, .int .i64 x.f1, .int .i64 x.f2]] ++ #[.pointer (some ⟨g, 0, none⟩)]) W fun e w' => e = .returned (.bool (x.f1 == y)) ∧ Below W.heap.size W w' := by
 have hu86 := Try.underlying86
 have hg1 : W.heap[g]? = some (.cells #[.int .i64 y] 3 (0, 0)) := blk_below hg.out hb
 have HG := Aside0.mk hg1
 clear hg hb hg1
 go_enter Try.func113, Try.ntmps113
 go_wp2_with ((with_reducible refine gate_dst (N := 2) rfl ?_); refine box_event ?hg (N := 2) ?hd (cs := #[.slice A0 x.f0.length c0, .int .i64 x.f1, .int .i64 x.f2]) (t := 86) ?hr ?_; (case hd | hg => rfl); (case hr => (go_simp; done)); intro gb hg w1 hbox hb; have HB := Aside0.mk hb; have hcz := Z.c3 hbox; have hcy := Z.c1 (blk_below HG.out hb); clear hb hg hbox)
 go_ret
 exact ⟨by rfl, HB.out⟩
def impl_asksFor.f (a0_0 : Int) (l0_1 : List Int) (l0_2 : List (List (S86))) (a1 : Int) (a2 : Int) : Option (Bool) := if 0 ≤ a1 then (if a1 < (l0_2.length : Int) then (some ((rd_L9 l0_2 a1).any fun x => x.f1 == a2)) else (none)) else (none)
set_option maxHeartbeats 4000000 in
set_option maxRecDepth 100000 in
theorem impl_asksFor.calls (a0_0 : Int) (A0_1 : Option Addr) (c0_1 : Nat) (l0_1 : List Int) (A0_2 : Option Addr) (c0_2 : Nat) (l0_2 : List (List (S86))) (a1 : Int) (a2 : Int) (r : Bool) (w : World) (hr0_1 : Kd.C (Kd.int .i64) w A0_1 l0_1.length l0_1) (hc0_1 : l0_1.length ≤ c0_1) (hr0_2 : Kd.C (Kd.slice 86 k86) w A0_2 l0_2.length l0_2) (hc0_2 : l0_2.length ≤ c0_2) (h : impl_asksFor.f a0_0 l0_1 l0_2 a1 a2 = some r) :
 Calls Try.prog 76 #[.agg #[.int .i64 a0_0, .slice A0_1 l0_1.length c0_1, .slice A0_2 l0_2.length c0_2], .int .i64 a1, .int .i64 a2] w fun e w' => e = .returned (.bool r) ∧ Below w.heap.size w w' := by
 unfold impl_asksFor.f at h
 obtain ⟨b1, h⟩ := Z.ifp h
 obtain ⟨b2, h⟩ := Z.ifp h
 obtain rfl := Option.some.inj h
 clear h hc0_1 hc0_2 hr0_1
 have hu35 := Try.underlying35
 obtain ⟨ad, A0, c0, ea, hx, hl, hi⟩ := at_L9 hr0_2 a1 b1 b2
 cases ea
 have HX := Aside0.mk hx
 have HI := Aside0.mk hi
 have d1 : decide (0 ≤ a1) = true := decide_eq_true b1
 have d2 : decide (a1 < (l0_2.length : Int)) = true := decide_eq_true b2
 clear hx hl hi hr0_2
 generalize rd_L9 l0_2 a1 = l at HX HI ⊢
 have hn : l.length ≤ 9223372036854775807 := HI.out.2.1
 go_enter Try.func76, Try.ntmps76
 go_wp2_with (first
  | ((with_reducible refine gate_dst (N := 3) rfl ?_); refine box_event ?hg (N := 3) ?hd (cs := #[.int .i64 a0_0, .slice A0_1 l0_1.length c0_1, .slice (some ad) l0_2.length c0_2]) (t := 35) ?hr ?_; (case hd | hg => rfl); (case hr => (go_simp; done)); intro gb hg w1 hbox hb; have HB := Aside0.mk hb; have BK := Aside0.mk hbox; clear hb hg hbox)
  | ((with_reducible refine gate_dst (N := 5) rfl ?_); refine box_event ?hg (N := 5) ?hd (cs := #[.int .i64 a2]) (t := 3) ?hr ?_; (case hd | hg => rfl); (case hr => (go_simp; done)); intro gc hg w2 hbox hb; replace BK := Aside0.mk (blk_below BK.out hb); replace HB := Aside0.mk (below_step HB.out hb); have BC := Aside0.mk hbox; clear hb hg hbox; have hcz := Z.c3 BK.out; have hx := Z.up HB.out HX.out)
  | (go_at_call 112; refine (cfV_any w2 A0 c0 l 113 #[.pointer (some ⟨gc, 0, none⟩)] (fun args w => enters_ Try.func113 (by kernel_rfl) rfl args w) (fun x => x.f1 == a2) (Kd.C_below HI.out HB.out) (fun W x A1 c1 _ hb => (asksFor1_any x A1 c1 gc a2 w2 W BC hb).mono fun e w3 ⟨he, h2⟩ => ⟨he, below_step hb h2⟩) ?ql).mono ?_; (case ql => exact hn); rintro e w' ⟨rfl, hb'⟩))
 go_ret
 exact ⟨by rfl, below_step HB.out hb'⟩

/-! ### impl_ApartOk: function 38 -/
def impl_ApartOk.f (k : Nat) (a0_0 : Int) (l0_1 : List Int) (l0_2 : List (List (S86))) (a1_0 : Int) (a1_1 : Int) (a1_2 : Int) (a2_0 : Int) (a2_1 : Int) (a2_2 : Int) : Option (Bool) := (impl_isCharter.f k a0_0 l0_1 l0_2).bind fun t703 => (if t703 = true then ((impl_hasClause.f a0_0 l0_1 l0_2 a1_0).bind fun t704 => (if t704 = true then ((impl_hasClause.f a0_0 l0_1 l0_2 a2_0).bind fun t705 => (if t705 = true then (if a1_0 = a2_0 then (some false) else ((impl_asksFor.f a0_0 l0_1 l0_2 a1_0 a2_0).bind fun t706 => (if t706 = true then (some false) else ((impl_asksFor.f a0_0 l0_1 l0_2 a2_0 a1_0).bind fun t707 => (some (!t707)))))) else (some false))) else (some false))) else (some false))
set_option maxHeartbeats 8000000 in
set_option maxRecDepth 100000 in
theorem impl_ApartOk.calls (k : Nat) (a0_0 : Int) (A0_1 : Option Addr) (c0_1 : Nat) (l0_1 : List Int) (A0_2 : Option Addr) (c0_2 : Nat) (l0_2 : List (List (S86))) (a1_0 : Int) (a1_1 : Int) (a1_2 : Int) (a2_0 : Int) (a2_1 : Int) (a2_2 : Int) (r : Bool) (w : World) (hr0_1 : Kd.C (Kd.int .i64) w A0_1 l0_1.length l0_1) (hc0_1 : l0_1.length ≤ c0_1) (hr0_2 : Kd.C (Kd.slice 86 k86) w A0_2 l0_2.length l0_2) (hc0_2 : l0_2.length ≤ c0_2) (h : impl_ApartOk.f k a0_0 l0_1 l0_2 a1_0 a1_1 a1_2 a2_0 a2_1 a2_2 = some r) :
  Calls Try.prog 38 #[.agg #[.int .i64 a0_0, .slice A0_1 l0_1.length c0_1, .slice A0_2 l0_2.length c0_2], .agg #[.int .i64 a1_0, .int .i64 a1_1, .int .i64 a1_2], .agg #[.int .i64 a2_0, .int .i64 a2_1, .int .i64 a2_2]] w fun e w' => e = .returned (.bool r) ∧ Below w.heap.size w w' := by
 have hu35 := Try.underlying35
 have hu53 := Try.underlying53
 have HR0_1 := Aside0.mk hr0_1
 have HC0_1 := Aside0.mk hc0_1
 clear hr0_1 hc0_1
 have HR0_2 := Aside0.mk hr0_2
 have HC0_2 := Aside0.mk hc0_2
 clear hr0_2 hc0_2
 have HB := Aside0.mk (Below.refl w.heap.size w)
 have H := h
 clear h
 unfold impl_ApartOk.f at H
 replace H := Option.bind_eq_some_iff.mp H
 obtain ⟨t703, A40, H⟩ := H
 try dsimp only at H
 have A4 := Aside0.mk A40
 clear A40
 by_cases c5 : t703 = true
 ·subst c5
  rw [if_pos rfl] at H
  replace H := Option.bind_eq_some_iff.mp H
  obtain ⟨t704, A60, H⟩ := H
  try dsimp only at H
  have A6 := Aside0.mk A60
  clear A60
  by_cases c7 : t704 = true
  ·subst c7
   rw [if_pos rfl] at H
   replace H := Option.bind_eq_some_iff.mp H
   obtain ⟨t705, A80, H⟩ := H
   try dsimp only at H
   have A8 := Aside0.mk A80
   clear A80
   by_cases c9 : t705 = true
   ·subst c9
    rw [if_pos rfl] at H
    by_cases c10 : a1_0 = a2_0
    ·rw [if_pos c10] at H
     have c10b0 : (a1_0 == a2_0) = true := beq_iff_eq.mpr c10
     have c10b1 : (a1_0 != a2_0) = false := bne_eq_false_iff_eq.mpr c10
     clear c10
     obtain rfl := Option.some.inj H
     go_enter Try.func38, Try.ntmps38
     go_wp2_with (first | ((with_reducible refine gate_dst (N := 3) rfl ?_); refine Z.bx #[.int .i64 a0_0, .slice A0_1 l0_1.length c0_1, .slice A0_2 l0_2.length c0_2] 35 HB ?_; clear HB; intro gb700 w11 BK700 GE700 HB hg hb; have GW700 := GE700; clear hb hg) | ((with_reducible refine gate_dst (N := 4) rfl ?_); refine Z.bz #[.int .i64 a1_0, .int .i64 a1_1, .int .i64 a1_2] 53 HB GE700 ?_; clear HB; intro gb701 w12 BK701 GE701 HB hg hb; have GW701 := GE701; have NB700_701 := Z.nl hg BK700; have NB701_700 := Z.ng hg BK700; replace BK700 := Z.bb BK700 hb; clear hb hg) | ((with_reducible refine gate_dst (N := 5) rfl ?_); refine box_event ?hg (N := 5) ?hd (cs := #[.int .i64 a2_0, .int .i64 a2_1, .int .i64 a2_2]) (t := 53) ?hr ?_; (case hd | hg => rfl); (case hr => first | (go_simp; done) | (go_simp; rfl)); intro gb702 hg w13 hbox hb; have BK702 := Aside0.mk (hbox); have GW702 := Aside0.mk ((by rw [hg]; exact (below_size (by repeat (first | (with_reducible first | exact HB.out | apply below_alloc | apply pw_below_drewN | apply below_drew1 | refine below_set ?_ GE700.out | refine below_set ?_ GE701.out) | exact HB.out))) : w.heap.size ≤ gb702)); have GE702 := Aside0.mk ((by rw [hg]; exact (below_size (by repeat (first | (with_reducible first | exact HB.out | apply below_alloc | apply pw_below_drewN | apply below_drew1 | refine below_set ?_ GE700.out | refine below_set ?_ GE701.out) | exact HB.out))) : w.heap.size ≤ gb702)); replace HB := Aside0.mk (below_step (by repeat (first | (with_reducible first | exact HB.out | apply below_alloc | apply pw_below_drewN | apply below_drew1 | refine below_set ?_ GE700.out | refine below_set ?_ GE701.out) | exact HB.out)) hb); have NB700_702 := Z.nl hg BK700; have NB702_700 := Z.ng hg BK700; replace BK700 := Z.bb BK700 hb; have NB701_702 := Z.nl hg BK701; have NB702_701 := Z.ng hg BK701; replace BK701 := Z.bb BK701 hb; clear hb hbox hg; have hnb14 := NB700_701.out; have hnc14 := NB701_700.out; have hnb15 := NB700_702.out; have hnc15 := NB702_700.out; have hcz16 := Z.c3 BK700.out) | ((with_reducible refine gate_callee (f := 74) rfl ?_); refine goesL_ (some 8) rfl rfl Try.func74 (by kernel_rfl) rfl #[.agg #[.int .i64 a0_0, .slice A0_1 l0_1.length c0_1, .slice A0_2 l0_2.length c0_2]] rfl Z.ar ?_; (with_reducible refine (impl_isCharter.calls k a0_0 _ _ l0_1 _ _ l0_2 true _ ?q1 ?q2 ?q3 ?q4 A4.out).mono ?_); (case q1 => exact Z.cc HR0_1 HB); (case q2 => exact HC0_1.out); (case q3 => exact Z.cc HR0_2 HB); (case q4 => exact HC0_2.out); rintro e w17 ⟨rfl, hb⟩; refine ⟨_, rfl, ?_⟩; replace BK700 := Z.bb BK700 hb; replace BK701 := Z.bb BK701 hb; replace BK702 := Z.bb BK702 hb; replace HB := Aside0.mk (below_step (by repeat (first | (with_reducible first | exact HB.out | apply below_alloc | apply pw_below_drewN | apply below_drew1 | refine below_set ?_ GE700.out | refine below_set ?_ GE701.out | refine below_set ?_ GE702.out) | exact HB.out)) hb); (try clear hb); (try clear hb2); (try clear hk); (try clear hi); have hcz18 := Z.c3 BK700.out; have hnb19 := NB701_702.out; have hnc19 := NB702_701.out; have hcz20 := Z.c3 BK701.out) | (go_at_call 75; (with_reducible refine (impl_hasClause.calls a0_0 _ _ l0_1 _ _ l0_2 a1_0 true _ ?q1 ?q2 ?q3 ?q4 A6.out).mono ?_); (case q1 => exact Z.cc HR0_1 HB); (case q2 => exact HC0_1.out); (case q3 => exact Z.cc HR0_2 HB); (case q4 => exact HC0_2.out); rintro e w21 ⟨rfl, hb⟩; replace BK700 := Z.bb BK700 hb; replace BK701 := Z.bb BK701 hb; replace BK702 := Z.bb BK702 hb; replace HB := Aside0.mk (below_step (by repeat (first | (with_reducible first | exact HB.out | apply below_alloc | apply pw_below_drewN | apply below_drew1 | refine below_set ?_ GE700.out | refine below_set ?_ GE701.out | refine below_set ?_ GE702.out) | exact HB.out)) hb); (try clear hb); (try clear hb2); (try clear hk); (try clear hi); have hcz22 := Z.c3 BK700.out; have hcz23 := Z.c3 BK702.out) | (go_at_call 75; (with_reducible refine (impl_hasClause.calls a0_0 _ _ l0_1 _ _ l0_2 a2_0 true _ ?q1 ?q2 ?q3 ?q4 A8.out).mono ?_); (case q1 => exact Z.cc HR0_1 HB); (case q2 => exact HC0_1.out); (case q3 => exact Z.cc HR0_2 HB); (case q4 => exact HC0_2.out); rintro e w24 ⟨rfl, hb⟩; replace BK700 := Z.bb BK700 hb; replace BK701 := Z.bb BK701 hb; replace BK702 := Z.bb BK702 hb; replace HB := Aside0.mk (below_step (by repeat (first | (with_reducible first | exact HB.out | apply below_alloc | apply pw_below_drewN | apply below_drew1 | refine below_set ?_ GE700.out | refine below_set ?_ GE701.out | refine below_set ?_ GE702.out) | exact HB.out)) hb); (try clear hb); (try clear hb2); (try clear hk); (try clear hi); have hcz25 := Z.c3 BK701.out; have hcz26 := Z.c3 BK702.out))
     go_ret
     exact ⟨by first | rfl | (simp [errW_none, errW_some] <;> rfl) | (simp [*, errW_none, errW_some] <;> rfl), by repeat (first | (with_reducible first | exact HB.out | apply below_alloc | apply pw_below_drewN | apply below_drew1 | refine below_set ?_ GE700.out | refine below_set ?_ GE701.out | refine below_set ?_ GE702.out) | exact HB.out)⟩
    ·rw [if_neg c10] at H
     have c10b0 : (a1_0 == a2_0) = false := beq_eq_false_iff_ne.mpr c10
     have c10b1 : (a1_0 != a2_0) = true := bne_iff_ne.mpr c10
     replace H := Option.bind_eq_some_iff.mp H
     obtain ⟨t706, A270, H⟩ := H
     try dsimp only at H
     have A27 := Aside0.mk A270
     clear A270
     by_cases c28 : t706 = true
     ·subst c28
      rw [if_pos rfl] at H
      obtain rfl := Option.some.inj H
      go_enter Try.func38, Try.ntmps38
      go_wp2_with (first | ((with_reducible refine gate_dst (N := 3) rfl ?_); refine Z.bx #[.int .i64 a0_0, .slice A0_1 l0_1.length c0_1, .slice A0_2 l0_2.length c0_2] 35 HB ?_; clear HB; intro gb700 w29 BK700 GE700 HB hg hb; have GW700 := GE700; clear hb hg) | ((with_reducible refine gate_dst (N := 4) rfl ?_); refine Z.bz #[.int .i64 a1_0, .int .i64 a1_1, .int .i64 a1_2] 53 HB GE700 ?_; clear HB; intro gb701 w30 BK701 GE701 HB hg hb; have GW701 := GE701; have NB700_701 := Z.nl hg BK700; have NB701_700 := Z.ng hg BK700; replace BK700 := Z.bb BK700 hb; clear hb hg) | ((with_reducible refine gate_dst (N := 5) rfl ?_); refine box_event ?hg (N := 5) ?hd (cs := #[.int .i64 a2_0, .int .i64 a2_1, .int .i64 a2_2]) (t := 53) ?hr ?_; (case hd | hg => rfl); (case hr => first | (go_simp; done) | (go_simp; rfl)); intro gb702 hg w31 hbox hb; have BK702 := Aside0.mk (hbox); have GW702 := Aside0.mk ((by rw [hg]; exact (below_size (by repeat (first | (with_reducible first | exact HB.out | apply below_alloc | apply pw_below_drewN | apply below_drew1 | refine below_set ?_ GE700.out | refine below_set ?_ GE701.out) | exact HB.out))) : w.heap.size ≤ gb702)); have GE702 := Aside0.mk ((by rw [hg]; exact (below_size (by repeat (first | (with_reducible first | exact HB.out | apply below_alloc | apply pw_below_drewN | apply below_drew1 | refine below_set ?_ GE700.out | refine below_set ?_ GE701.out) | exact HB.out))) : w.heap.size ≤ gb702)); replace HB := Aside0.mk (below_step (by repeat (first | (with_reducible first | exact HB.out | apply below_alloc | apply pw_below_drewN | apply below_drew1 | refine below_set ?_ GE700.out | refine below_set ?_ GE701.out) | exact HB.out)) hb); have NB700_702 := Z.nl hg BK700; have NB702_700 := Z.ng hg BK700; replace BK700 := Z.bb BK700 hb; have NB701_702 := Z.nl hg BK701; have NB702_701 := Z.ng hg BK701; replace BK701 := Z.bb BK701 hb; clear hb hbox hg; have hnb32 := NB700_701.out; have hnc32 := NB701_700.out; have hnb33 := NB700_702.out; have hnc33 := NB702_700.out; have hcz34 := Z.c3 BK700.out) | ((with_reducible refine gate_callee (f := 74) rfl ?_); refine goesL_ (some 8) rfl rfl Try.func74 (by kernel_rfl) rfl #[.agg #[.int .i64 a0_0, .slice A0_1 l0_1.length c0_1, .slice A0_2 l0_2.length c0_2]] rfl Z.ar ?_; (with_reducible refine (impl_isCharter.calls k a0_0 _ _ l0_1 _ _ l0_2 true _ ?q1 ?q2 ?q3 ?q4 A4.out).mono ?_); (case q1 => exact Z.cc HR0_1 HB); (case q2 => exact HC0_1.out); (case q3 => exact Z.cc HR0_2 HB); (case q4 => exact HC0_2.out); rintro e w35 ⟨rfl, hb⟩; refine ⟨_, rfl, ?_⟩; replace BK700 := Z.bb BK700 hb; replace BK701 := Z.bb BK701 hb; replace BK702 := Z.bb BK702 hb; replace HB := Aside0.mk (below_step (by repeat (first | (with_reducible first | exact HB.out | apply below_alloc | apply pw_below_drewN | apply below_drew1 | refine below_set ?_ GE700.out | refine below_set ?_ GE701.out | refine below_set ?_ GE702.out) | exact HB.out)) hb); (try clear hb); (try clear hb2); (try clear hk); (try clear hi); have hcz36 := Z.c3 BK700.out; have hnb37 := NB701_702.out; have hnc37 := NB702_701.out; have hcz38 := Z.c3 BK701.out) | (go_at_call 75; (with_reducible refine (impl_hasClause.calls a0_0 _ _ l0_1 _ _ l0_2 a1_0 true _ ?q1 ?q2 ?q3 ?q4 A6.out).mono ?_); (case q1 => exact Z.cc HR0_1 HB); (case q2 => exact HC0_1.out); (case q3 => exact Z.cc HR0_2 HB); (case q4 => exact HC0_2.out); rintro e w39 ⟨rfl, hb⟩; replace BK700 := Z.bb BK700 hb; replace BK701 := Z.bb BK701 hb; replace BK702 := Z.bb BK702 hb; replace HB := Aside0.mk (below_step (by repeat (first | (with_reducible first | exact HB.out | apply below_alloc | apply pw_below_drewN | apply below_drew1 | refine below_set ?_ GE700.out | refine below_set ?_ GE701.out | refine below_set ?_ GE702.out) | exact HB.out)) hb); (try clear hb); (try clear hb2); (try clear hk); (try clear hi); have hcz40 := Z.c3 BK700.out; have hcz41 := Z.c3 BK702.out) | (go_at_call 75; (with_reducible refine (impl_hasClause.calls a0_0 _ _ l0_1 _ _ l0_2 a2_0 true _ ?q1 ?q2 ?q3 ?q4 A8.out).mono ?_); (case q1 => exact Z.cc HR0_1 HB); (case q2 => exact HC0_1.out); (case q3 => exact Z.cc HR0_2 HB); (case q4 => exact HC0_2.out); rintro e w42 ⟨rfl, hb⟩; replace BK700 := Z.bb BK700 hb; replace BK701 := Z.bb BK701 hb; replace BK702 := Z.bb BK702 hb; replace HB := Aside0.mk (below_step (by repeat (first | (with_reducible first | exact HB.out | apply below_alloc | apply pw_below_drewN | apply below_drew1 | refine below_set ?_ GE700.out | refine below_set ?_ GE701.out | refine below_set ?_ GE702.out) | exact HB.out)) hb); (try clear hb); (try clear hb2); (try clear hk); (try clear hi); have hcz43 := Z.c3 BK701.out; have hcz44 := Z.c3 BK702.out; have hcz45 := Z.c3 BK700.out) | (go_at_call 76; (with_reducible refine (impl_asksFor.calls a0_0 _ _ l0_1 _ _ l0_2 a1_0 a2_0 true _ ?q1 ?q2 ?q3 ?q4 A27.out).mono ?_); (case q1 => exact Z.cc HR0_1 HB); (case q2 => exact HC0_1.out); (case q3 => exact Z.cc HR0_2 HB); (case q4 => exact HC0_2.out); rintro e w46 ⟨rfl, hb⟩; replace BK700 := Z.bb BK700 hb; replace BK701 := Z.bb BK701 hb; replace BK702 := Z.bb BK702 hb; replace HB := Aside0.mk (below_step (by repeat (first | (with_reducible first | exact HB.out | apply below_alloc | apply pw_below_drewN | apply below_drew1 | refine below_set ?_ GE700.out | refine below_set ?_ GE701.out | refine below_set ?_ GE702.out) | exact HB.out)) hb); (try clear hb); (try clear hb2); (try clear hk); (try clear hi)))
      go_ret
      exact ⟨by first | rfl | (simp [errW_none, errW_some] <;> rfl) | (simp [*, errW_none, errW_some] <;> rfl), by repeat (first | (with_reducible first | exact HB.out | apply below_alloc | apply pw_below_drewN | apply below_drew1 | refine below_set ?_ GE700.out | refine below_set ?_ GE701.out | refine below_set ?_ GE702.out) | exact HB.out)⟩
     ·replace c28 := Bool.eq_false_iff.mpr c28
      subst c28
      rw [if_neg (show ¬ (false = true) by decide)] at H
      replace H := Option.bind_eq_some_iff.mp H
      obtain ⟨t707, A470, H⟩ := H
      try dsimp only at H
      have A47 := Aside0.mk A470
      clear A470
      obtain rfl := Option.some.inj H
      go_enter Try.func38, Try.ntmps38
      go_wp2_with (first | ((with_reducible refine gate_dst (N := 3) rfl ?_); refine Z.bx #[.int .i64 a0_0, .slice A0_1 l0_1.length c0_1, .slice A0_2 l0_2.length c0_2] 35 HB ?_; clear HB; intro gb700 w48 BK700 GE700 HB hg hb; have GW700 := GE700; clear hb hg) | ((with_reducible refine gate_dst (N := 4) rfl ?_); refine Z.bz #[.int .i64 a1_0, .int .i64 a1_1, .int .i64 a1_2] 53 HB GE700 ?_; clear HB; intro gb701 w49 BK701 GE701 HB hg hb; have GW701 := GE701; have NB700_701 := Z.nl hg BK700; have NB701_700 := Z.ng hg BK700; replace BK700 := Z.bb BK700 hb; clear hb hg) | ((with_reducible refine gate_dst (N := 5) rfl ?_); refine box_event ?hg (N := 5) ?hd (cs := #[.int .i64 a2_0, .int .i64 a2_1, .int .i64 a2_2]) (t := 53) ?hr ?_; (case hd | hg => rfl); (case hr => first | (go_simp; done) | (go_simp; rfl)); intro gb702 hg w50 hbox hb; have BK702 := Aside0.mk (hbox); have GW702 := Aside0.mk ((by rw [hg]; exact (below_size (by repeat (first | (with_reducible first | exact HB.out | apply below_alloc | apply pw_below_drewN | apply below_drew1 | refine below_set ?_ GE700.out | refine below_set ?_ GE701.out) | exact HB.out))) : w.heap.size ≤ gb702)); have GE702 := Aside0.mk ((by rw [hg]; exact (below_size (by repeat (first | (with_reducible first | exact HB.out | apply below_alloc | apply pw_below_drewN | apply below_drew1 | refine below_set ?_ GE700.out | refine below_set ?_ GE701.out) | exact HB.out))) : w.heap.size ≤ gb702)); replace HB := Aside0.mk (below_step (by repeat (first | (with_reducible first | exact HB.out | apply below_alloc | apply pw_below_drewN | apply below_drew1 | refine below_set ?_ GE700.out | refine below_set ?_ GE701.out) | exact HB.out)) hb); have NB700_702 := Z.nl hg BK700; have NB702_700 := Z.ng hg BK700; replace BK700 := Z.bb BK700 hb; have NB701_702 := Z.nl hg BK701; have NB702_701 := Z.ng hg BK701; replace BK701 := Z.bb BK701 hb; clear hb hbox hg; have hnb51 := NB700_701.out; have hnc51 := NB701_700.out; have hnb52 := NB700_702.out; have hnc52 := NB702_700.out; have hcz53 := Z.c3 BK700.out) | ((with_reducible refine gate_callee (f := 74) rfl ?_); refine goesL_ (some 8) rfl rfl Try.func74 (by kernel_rfl) rfl #[.agg #[.int .i64 a0_0, .slice A0_1 l0_1.length c0_1, .slice A0_2 l0_2.length c0_2]] rfl Z.ar ?_; (with_reducible refine (impl_isCharter.calls k a0_0 _ _ l0_1 _ _ l0_2 true _ ?q1 ?q2 ?q3 ?q4 A4.out).mono ?_); (case q1 => exact Z.cc HR0_1 HB); (case q2 => exact HC0_1.out); (case q3 => exact Z.cc HR0_2 HB); (case q4 => exact HC0_2.out); rintro e w54 ⟨rfl, hb⟩; refine ⟨_, rfl, ?_⟩; replace BK700 := Z.bb BK700 hb; replace BK701 := Z.bb BK701 hb; replace BK702 := Z.bb BK702 hb; replace HB := Aside0.mk (below_step (by repeat (first | (with_reducible first | exact HB.out | apply below_alloc | apply pw_below_drewN | apply below_drew1 | refine below_set ?_ GE700.out | refine below_set ?_ GE701.out | refine below_set ?_ GE702.out) | exact HB.out)) hb); (try clear hb); (try clear hb2); (try clear hk); (try clear hi); have hcz55 := Z.c3 BK700.out; have hnb56 := NB701_702.out; have hnc56 := NB702_701.out; have hcz57 := Z.c3 BK701.out) | (go_at_call 75; (with_reducible refine (impl_hasClause.calls a0_0 _ _ l0_1 _ _ l0_2 a1_0 true _ ?q1 ?q2 ?q3 ?q4 A6.out).mono ?_); (case q1 => exact Z.cc HR0_1 HB); (case q2 => exact HC0_1.out); (case q3 => exact Z.cc HR0_2 HB); (case q4 => exact HC0_2.out); rintro e w58 ⟨rfl, hb⟩; replace BK700 := Z.bb BK700 hb; replace BK701 := Z.bb BK701 hb; replace BK702 := Z.bb BK702 hb; replace HB := Aside0.mk (below_step (by repeat (first | (with_reducible first | exact HB.out | apply below_alloc | apply pw_below_drewN | apply below_drew1 | refine below_set ?_ GE700.out | refine below_set ?_ GE701.out | refine below_set ?_ GE702.out) | exact HB.out)) hb); (try clear hb); (try clear hb2); (try clear hk); (try clear hi); have hcz59 := Z.c3 BK700.out; have hcz60 := Z.c3 BK702.out) | (go_at_call 75; (with_reducible refine (impl_hasClause.calls a0_0 _ _ l0_1 _ _ l0_2 a2_0 true _ ?q1 ?q2 ?q3 ?q4 A8.out).mono ?_); (case q1 => exact Z.cc HR0_1 HB); (case q2 => exact HC0_1.out); (case q3 => exact Z.cc HR0_2 HB); (case q4 => exact HC0_2.out); rintro e w61 ⟨rfl, hb⟩; replace BK700 := Z.bb BK700 hb; replace BK701 := Z.bb BK701 hb; replace BK702 := Z.bb BK702 hb; replace HB := Aside0.mk (below_step (by repeat (first | (with_reducible first | exact HB.out | apply below_alloc | apply pw_below_drewN | apply below_drew1 | refine below_set ?_ GE700.out | refine below_set ?_ GE701.out | refine below_set ?_ GE702.out) | exact HB.out)) hb); (try clear hb); (try clear hb2); (try clear hk); (try clear hi); have hcz62 := Z.c3 BK701.out; have hcz63 := Z.c3 BK702.out; have hcz64 := Z.c3 BK700.out) | (go_at_call 76; (with_reducible refine (impl_asksFor.calls a0_0 _ _ l0_1 _ _ l0_2 a1_0 a2_0 false _ ?q1 ?q2 ?q3 ?q4 A27.out).mono ?_); (case q1 => exact Z.cc HR0_1 HB); (case q2 => exact HC0_1.out); (case q3 => exact Z.cc HR0_2 HB); (case q4 => exact HC0_2.out); rintro e w65 ⟨rfl, hb⟩; replace BK700 := Z.bb BK700 hb; replace BK701 := Z.bb BK701 hb; replace BK702 := Z.bb BK702 hb; replace HB := Aside0.mk (below_step (by repeat (first | (with_reducible first | exact HB.out | apply below_alloc | apply pw_below_drewN | apply below_drew1 | refine below_set ?_ GE700.out | refine below_set ?_ GE701.out | refine below_set ?_ GE702.out) | exact HB.out)) hb); (try clear hb); (try clear hb2); (try clear hk); (try clear hi); have hcz66 := Z.c3 BK700.out; have hcz67 := Z.c3 BK702.out; have hcz68 := Z.c3 BK701.out) | (go_at_call 76; (with_reducible refine (impl_asksFor.calls a0_0 _ _ l0_1 _ _ l0_2 a2_0 a1_0 t707 _ ?q1 ?q2 ?q3 ?q4 A47.out).mono ?_); (case q1 => exact Z.cc HR0_1 HB); (case q2 => exact HC0_1.out); (case q3 => exact Z.cc HR0_2 HB); (case q4 => exact HC0_2.out); rintro e w69 ⟨rfl, hb⟩; replace BK700 := Z.bb BK700 hb; replace BK701 := Z.bb BK701 hb; replace BK702 := Z.bb BK702 hb; replace HB := Aside0.mk (below_step (by repeat (first | (with_reducible first | exact HB.out | apply below_alloc | apply pw_below_drewN | apply below_drew1 | refine below_set ?_ GE700.out | refine below_set ?_ GE701.out | refine below_set ?_ GE702.out) | exact HB.out)) hb); (try clear hb); (try clear hb2); (try clear hk); (try clear hi)))
      go_ret
      exact ⟨by first | rfl | (simp [errW_none, errW_some] <;> rfl) | (simp [*, errW_none, errW_some] <;> rfl), by repeat (first | (with_reducible first | exact HB.out | apply below_alloc | apply pw_below_drewN | apply below_drew1 | refine below_set ?_ GE700.out | refine below_set ?_ GE701.out | refine below_set ?_ GE702.out) | exact HB.out)⟩
   ·replace c9 := Bool.eq_false_iff.mpr c9
    subst c9
    rw [if_neg (show ¬ (false = true) by decide)] at H
    obtain rfl := Option.some.inj H
    go_enter Try.func38, Try.ntmps38
    go_wp2_with (first | ((with_reducible refine gate_dst (N := 3) rfl ?_); refine Z.bx #[.int .i64 a0_0, .slice A0_1 l0_1.length c0_1, .slice A0_2 l0_2.length c0_2] 35 HB ?_; clear HB; intro gb700 w70 BK700 GE700 HB hg hb; have GW700 := GE700; clear hb hg) | ((with_reducible refine gate_dst (N := 4) rfl ?_); refine Z.bz #[.int .i64 a1_0, .int .i64 a1_1, .int .i64 a1_2] 53 HB GE700 ?_; clear HB; intro gb701 w71 BK701 GE701 HB hg hb; have GW701 := GE701; have NB700_701 := Z.nl hg BK700; have NB701_700 := Z.ng hg BK700; replace BK700 := Z.bb BK700 hb; clear hb hg) | ((with_reducible refine gate_dst (N := 5) rfl ?_); refine box_event ?hg (N := 5) ?hd (cs := #[.int .i64 a2_0, .int .i64 a2_1, .int .i64 a2_2]) (t := 53) ?hr ?_; (case hd | hg => rfl); (case hr => first | (go_simp; done) | (go_simp; rfl)); intro gb702 hg w72 hbox hb; have BK702 := Aside0.mk (hbox); have GW702 := Aside0.mk ((by rw [hg]; exact (below_size (by repeat (first | (with_reducible first | exact HB.out | apply below_alloc | apply pw_below_drewN | apply below_drew1 | refine below_set ?_ GE700.out | refine below_set ?_ GE701.out) | exact HB.out))) : w.heap.size ≤ gb702)); have GE702 := Aside0.mk ((by rw [hg]; exact (below_size (by repeat (first | (with_reducible first | exact HB.out | apply below_alloc | apply pw_below_drewN | apply below_drew1 | refine below_set ?_ GE700.out | refine below_set ?_ GE701.out) | exact HB.out))) : w.heap.size ≤ gb702)); replace HB := Aside0.mk (below_step (by repeat (first | (with_reducible first | exact HB.out | apply below_alloc | apply pw_below_drewN | apply below_drew1 | refine below_set ?_ GE700.out | refine below_set ?_ GE701.out) | exact HB.out)) hb); have NB700_702 := Z.nl hg BK700; have NB702_700 := Z.ng hg BK700; replace BK700 := Z.bb BK700 hb; have NB701_702 := Z.nl hg BK701; have NB702_701 := Z.ng hg BK701; replace BK701 := Z.bb BK701 hb; clear hb hbox hg; have hnb73 := NB700_701.out; have hnc73 := NB701_700.out; have hnb74 := NB700_702.out; have hnc74 := NB702_700.out; have hcz75 := Z.c3 BK700.out) | ((with_reducible refine gate_callee (f := 74) rfl ?_); refine goesL_ (some 8) rfl rfl Try.func74 (by kernel_rfl) rfl #[.agg #[.int .i64 a0_0, .slice A0_1 l0_1.length c0_1, .slice A0_2 l0_2.length c0_2]] rfl Z.ar ?_; (with_reducible refine (impl_isCharter.calls k a0_0 _ _ l0_1 _ _ l0_2 true _ ?q1 ?q2 ?q3 ?q4 A4.out).mono ?_); (case q1 => exact Z.cc HR0_1 HB); (case q2 => exact HC0_1.out); (case q3 => exact Z.cc HR0_2 HB); (case q4 => exact HC0_2.out); rintro e w76 ⟨rfl, hb⟩; refine ⟨_, rfl, ?_⟩; replace BK700 := Z.bb BK700 hb; replace BK701 := Z.bb BK701 hb; replace BK702 := Z.bb BK702 hb; replace HB := Aside0.mk (below_step (by repeat (first | (with_reducible first | exact HB.out | apply below_alloc | apply pw_below_drewN | apply below_drew1 | refine below_set ?_ GE700.out | refine below_set ?_ GE701.out | refine below_set ?_ GE702.out) | exact HB.out)) hb); (try clear hb); (try clear hb2); (try clear hk); (try clear hi); have hcz77 := Z.c3 BK700.out; have hnb78 := NB701_702.out; have hnc78 := NB702_701.out; have hcz79 := Z.c3 BK701.out) | (go_at_call 75; (with_reducible refine (impl_hasClause.calls a0_0 _ _ l0_1 _ _ l0_2 a1_0 true _ ?q1 ?q2 ?q3 ?q4 A6.out).mono ?_); (case q1 => exact Z.cc HR0_1 HB); (case q2 => exact HC0_1.out); (case q3 => exact Z.cc HR0_2 HB); (case q4 => exact HC0_2.out); rintro e w80 ⟨rfl, hb⟩; replace BK700 := Z.bb BK700 hb; replace BK701 := Z.bb BK701 hb; replace BK702 := Z.bb BK702 hb; replace HB := Aside0.mk (below_step (by repeat (first | (with_reducible first | exact HB.out | apply below_alloc | apply pw_below_drewN | apply below_drew1 | refine below_set ?_ GE700.out | refine below_set ?_ GE701.out | refine below_set ?_ GE702.out) | exact HB.out)) hb); (try clear hb); (try clear hb2); (try clear hk); (try clear hi); have hcz81 := Z.c3 BK700.out; have hcz82 := Z.c3 BK702.out) | (go_at_call 75; (with_reducible refine (impl_hasClause.calls a0_0 _ _ l0_1 _ _ l0_2 a2_0 false _ ?q1 ?q2 ?q3 ?q4 A8.out).mono ?_); (case q1 => exact Z.cc HR0_1 HB); (case q2 => exact HC0_1.out); (case q3 => exact Z.cc HR0_2 HB); (case q4 => exact HC0_2.out); rintro e w83 ⟨rfl, hb⟩; replace BK700 := Z.bb BK700 hb; replace BK701 := Z.bb BK701 hb; replace BK702 := Z.bb BK702 hb; replace HB := Aside0.mk (below_step (by repeat (first | (with_reducible first | exact HB.out | apply below_alloc | apply pw_below_drewN | apply below_drew1 | refine below_set ?_ GE700.out | refine below_set ?_ GE701.out | refine below_set ?_ GE702.out) | exact HB.out)) hb); (try clear hb); (try clear hb2); (try clear hk); (try clear hi)))
    go_ret
    exact ⟨by first | rfl | (simp [errW_none, errW_some] <;> rfl) | (simp [*, errW_none, errW_some] <;> rfl), by repeat (first | (with_reducible first | exact HB.out | apply below_alloc | apply pw_below_drewN | apply below_drew1 | refine below_set ?_ GE700.out | refine below_set ?_ GE701.out | refine below_set ?_ GE702.out) | exact HB.out)⟩
  ·replace c7 := Bool.eq_false_iff.mpr c7
   subst c7
   rw [if_neg (show ¬ (false = true) by decide)] at H
   obtain rfl := Option.some.inj H
   go_enter Try.func38, Try.ntmps38
   go_wp2_with (first | ((with_reducible refine gate_dst (N := 3) rfl ?_); refine Z.bx #[.int .i64 a0_0, .slice A0_1 l0_1.length c0_1, .slice A0_2 l0_2.length c0_2] 35 HB ?_; clear HB; intro gb700 w84 BK700 GE700 HB hg hb; have GW700 := GE700; clear hb hg) | ((with_reducible refine gate_dst (N := 4) rfl ?_); refine Z.bz #[.int .i64 a1_0, .int .i64 a1_1, .int .i64 a1_2] 53 HB GE700 ?_; clear HB; intro gb701 w85 BK701 GE701 HB hg hb; have GW701 := GE701; have NB700_701 := Z.nl hg BK700; have NB701_700 := Z.ng hg BK700; replace BK700 := Z.bb BK700 hb; clear hb hg) | ((with_reducible refine gate_dst (N := 5) rfl ?_); refine box_event ?hg (N := 5) ?hd (cs := #[.int .i64 a2_0, .int .i64 a2_1, .int .i64 a2_2]) (t := 53) ?hr ?_; (case hd | hg => rfl); (case hr => first | (go_simp; done) | (go_simp; rfl)); intro gb702 hg w86 hbox hb; have BK702 := Aside0.mk (hbox); have GW702 := Aside0.mk ((by rw [hg]; exact (below_size (by repeat (first | (with_reducible first | exact HB.out | apply below_alloc | apply pw_below_drewN | apply below_drew1 | refine below_set ?_ GE700.out | refine below_set ?_ GE701.out) | exact HB.out))) : w.heap.size ≤ gb702)); have GE702 := Aside0.mk ((by rw [hg]; exact (below_size (by repeat (first | (with_reducible first | exact HB.out | apply below_alloc | apply pw_below_drewN | apply below_drew1 | refine below_set ?_ GE700.out | refine below_set ?_ GE701.out) | exact HB.out))) : w.heap.size ≤ gb702)); replace HB := Aside0.mk (below_step (by repeat (first | (with_reducible first | exact HB.out | apply below_alloc | apply pw_below_drewN | apply below_drew1 | refine below_set ?_ GE700.out | refine below_set ?_ GE701.out) | exact HB.out)) hb); have NB700_702 := Z.nl hg BK700; have NB702_700 := Z.ng hg BK700; replace BK700 := Z.bb BK700 hb; have NB701_702 := Z.nl hg BK701; have NB702_701 := Z.ng hg BK701; replace BK701 := Z.bb BK701 hb; clear hb hbox hg; have hnb87 := NB700_701.out; have hnc87 := NB701_700.out; have hnb88 := NB700_702.out; have hnc88 := NB702_700.out; have hcz89 := Z.c3 BK700.out) | ((with_reducible refine gate_callee (f := 74) rfl ?_); refine goesL_ (some 8) rfl rfl Try.func74 (by kernel_rfl) rfl #[.agg #[.int .i64 a0_0, .slice A0_1 l0_1.length c0_1, .slice A0_2 l0_2.length c0_2]] rfl Z.ar ?_; (with_reducible refine (impl_isCharter.calls k a0_0 _ _ l0_1 _ _ l0_2 true _ ?q1 ?q2 ?q3 ?q4 A4.out).mono ?_); (case q1 => exact Z.cc HR0_1 HB); (case q2 => exact HC0_1.out); (case q3 => exact Z.cc HR0_2 HB); (case q4 => exact HC0_2.out); rintro e w90 ⟨rfl, hb⟩; refine ⟨_, rfl, ?_⟩; replace BK700 := Z.bb BK700 hb; replace BK701 := Z.bb BK701 hb; replace BK702 := Z.bb BK702 hb; replace HB := Aside0.mk (below_step (by repeat (first | (with_reducible first | exact HB.out | apply below_alloc | apply pw_below_drewN | apply below_drew1 | refine below_set ?_ GE700.out | refine below_set ?_ GE701.out | refine below_set ?_ GE702.out) | exact HB.out)) hb); (try clear hb); (try clear hb2); (try clear hk); (try clear hi); have hcz91 := Z.c3 BK700.out; have hnb92 := NB701_702.out; have hnc92 := NB702_701.out; have hcz93 := Z.c3 BK701.out) | (go_at_call 75; (with_reducible refine (impl_hasClause.calls a0_0 _ _ l0_1 _ _ l0_2 a1_0 false _ ?q1 ?q2 ?q3 ?q4 A6.out).mono ?_); (case q1 => exact Z.cc HR0_1 HB); (case q2 => exact HC0_1.out); (case q3 => exact Z.cc HR0_2 HB); (case q4 => exact HC0_2.out); rintro e w94 ⟨rfl, hb⟩; replace BK700 := Z.bb BK700 hb; replace BK701 := Z.bb BK701 hb; replace BK702 := Z.bb BK702 hb; replace HB := Aside0.mk (below_step (by repeat (first | (with_reducible first | exact HB.out | apply below_alloc | apply pw_below_drewN | apply below_drew1 | refine below_set ?_ GE700.out | refine below_set ?_ GE701.out | refine below_set ?_ GE702.out) | exact HB.out)) hb); (try clear hb); (try clear hb2); (try clear hk); (try clear hi)))
   go_ret
   exact ⟨by first | rfl | (simp [errW_none, errW_some] <;> rfl) | (simp [*, errW_none, errW_some] <;> rfl), by repeat (first | (with_reducible first | exact HB.out | apply below_alloc | apply pw_below_drewN | apply below_drew1 | refine below_set ?_ GE700.out | refine below_set ?_ GE701.out | refine below_set ?_ GE702.out) | exact HB.out)⟩
 ·replace c5 := Bool.eq_false_iff.mpr c5
  subst c5
  rw [if_neg (show ¬ (false = true) by decide)] at H
  obtain rfl := Option.some.inj H
  go_enter Try.func38, Try.ntmps38
  go_wp2_with (first | ((with_reducible refine gate_dst (N := 3) rfl ?_); refine Z.bx #[.int .i64 a0_0, .slice A0_1 l0_1.length c0_1, .slice A0_2 l0_2.length c0_2] 35 HB ?_; clear HB; intro gb700 w95 BK700 GE700 HB hg hb; have GW700 := GE700; clear hb hg) | ((with_reducible refine gate_dst (N := 4) rfl ?_); refine Z.bz #[.int .i64 a1_0, .int .i64 a1_1, .int .i64 a1_2] 53 HB GE700 ?_; clear HB; intro gb701 w96 BK701 GE701 HB hg hb; have GW701 := GE701; have NB700_701 := Z.nl hg BK700; have NB701_700 := Z.ng hg BK700; replace BK700 := Z.bb BK700 hb; clear hb hg) | ((with_reducible refine gate_dst (N := 5) rfl ?_); refine box_event ?hg (N := 5) ?hd (cs := #[.int .i64 a2_0, .int .i64 a2_1, .int .i64 a2_2]) (t := 53) ?hr ?_; (case hd | hg => rfl); (case hr => first | (go_simp; done) | (go_simp; rfl)); intro gb702 hg w97 hbox hb; have BK702 := Aside0.mk (hbox); have GW702 := Aside0.mk ((by rw [hg]; exact (below_size (by repeat (first | (with_reducible first | exact HB.out | apply below_alloc | apply pw_below_drewN | apply below_drew1 | refine below_set ?_ GE700.out | refine below_set ?_ GE701.out) | exact HB.out))) : w.heap.size ≤ gb702)); have GE702 := Aside0.mk ((by rw [hg]; exact (below_size (by repeat (first | (with_reducible first | exact HB.out | apply below_alloc | apply pw_below_drewN | apply below_drew1 | refine below_set ?_ GE700.out | refine below_set ?_ GE701.out) | exact HB.out))) : w.heap.size ≤ gb702)); replace HB := Aside0.mk (below_step (by repeat (first | (with_reducible first | exact HB.out | apply below_alloc | apply pw_below_drewN | apply below_drew1 | refine below_set ?_ GE700.out | refine below_set ?_ GE701.out) | exact HB.out)) hb); have NB700_702 := Z.nl hg BK700; have NB702_700 := Z.ng hg BK700; replace BK700 := Z.bb BK700 hb; have NB701_702 := Z.nl hg BK701; have NB702_701 := Z.ng hg BK701; replace BK701 := Z.bb BK701 hb; clear hb hbox hg; have hnb98 := NB700_701.out; have hnc98 := NB701_700.out; have hnb99 := NB700_702.out; have hnc99 := NB702_700.out; have hcz100 := Z.c3 BK700.out) | ((with_reducible refine gate_callee (f := 74) rfl ?_); refine goesL_ (some 8) rfl rfl Try.func74 (by kernel_rfl) rfl #[.agg #[.int .i64 a0_0, .slice A0_1 l0_1.length c0_1, .slice A0_2 l0_2.length c0_2]] rfl Z.ar ?_; (with_reducible refine (impl_isCharter.calls k a0_0 _ _ l0_1 _ _ l0_2 false _ ?q1 ?q2 ?q3 ?q4 A4.out).mono ?_); (case q1 => exact Z.cc HR0_1 HB); (case q2 => exact HC0_1.out); (case q3 => exact Z.cc HR0_2 HB); (case q4 => exact HC0_2.out); rintro e w101 ⟨rfl, hb⟩; refine ⟨_, rfl, ?_⟩; replace BK700 := Z.bb BK700 hb; replace BK701 := Z.bb BK701 hb; replace BK702 := Z.bb BK702 hb; replace HB := Aside0.mk (below_step (by repeat (first | (with_reducible first | exact HB.out | apply below_alloc | apply pw_below_drewN | apply below_drew1 | refine below_set ?_ GE700.out | refine below_set ?_ GE701.out | refine below_set ?_ GE702.out) | exact HB.out)) hb); (try clear hb); (try clear hb2); (try clear hk); (try clear hi)))
  go_ret
  exact ⟨by first | rfl | (simp [errW_none, errW_some] <;> rfl) | (simp [*, errW_none, errW_some] <;> rfl), by repeat (first | (with_reducible first | exact HB.out | apply below_alloc | apply pw_below_drewN | apply below_drew1 | refine below_set ?_ GE700.out | refine below_set ?_ GE701.out | refine below_set ?_ GE702.out) | exact HB.out)⟩

end Go.Proofs.Ytcafckapdgaogaa.PAll

/- Walks by hand of functions that some laws of this seat reach: GuardsOf. -/
import Derived.Test.YtkogboechfieeaaCAll75
import Derived.Shelf.Abstract
import Derived.Maps.OwnSet
namespace Go.Proofs.Ytkogboechfieeaa.PAll
open Go.RowKit Go.Proofs.YtkogboechfieeaaW.PrintWords Go.Proofs.YtkogboechfieeaaW.PrintLast Go.Proofs.YtkogboechfieeaaW.PrintMore
set_option linter.unusedVariables false
set_option maxHeartbeats 4000000 in
set_option maxRecDepth 100000 in
set_option linter.unusedSimpArgs false

/-! ### impl_GuardsOf: function 0 -/
theorem gd1_any (k : Nat) (a0_0 : Int) (A0_1 : Option Addr) (c0_1 : Nat) (l0_1 : List Int) (A0_2 : Option Addr) (c0_2 : Nat) (l0_2 : List (List (S37))) (A1 : Option Addr) (c1 : Nat) (l1 : List Int) (A2 : Option Addr) (c2 : Nat) (l2 : List Int) (x : Int) (all : Int) (b : Bool) (w W0 W : World) (gb gf gt ga : Nat)
    (hx : Bx3 w W0 gb gf gt #[.int .i64 a0_0, .slice A0_1 l0_1.length c0_1, .slice A0_2 l0_2.length c0_2] (.slice A1 l1.length c1) (.slice A2 l2.length c2)) (hga : W0.heap[ga]? = some (.cells #[.int .i64 all] 3 (0, 0))) (hb : Below W0.heap.size W0 W)
    (hr0_1 : Kd.C (Kd.int .i64) w A0_1 l0_1.length l0_1) (hc0_1 : l0_1.length ≤ c0_1) (hr0_2 : Kd.C (Kd.slice 37 k37) w A0_2 l0_2.length l0_2) (hc0_2 : l0_2.length ≤ c0_2) (hr1 : Kd.C (Kd.int .i64) w A1 l1.length l1) (hc1 : l1.length ≤ c1) (hr2 : Kd.C (Kd.int .i64) w A2 l2.length l2) (hc2 : l2.length ≤ c2) (hF : impl_safeFor.f k a0_0 l0_1 l0_2 l1 l2 (Go.bits .xor .i64 all x) = some b) :
    Calls Try.prog 72 (#[.int .i64 x] ++ #[.pointer (some ⟨gb, 0, none⟩), .pointer (some ⟨gf, 0, none⟩), .pointer (some ⟨gt, 0, none⟩), .pointer (some ⟨ga, 0, none⟩)]) W fun e w' => e = .returned (.bool b) ∧ Below W.heap.size W w' := by
  have hu35 := Try.underlying28
  have HX := Z.k (hx.step hb)
  have HR0_1 := Z.k hr0_1
  have HR0_2 := Z.k hr0_2
  have HR1 := Z.k hr1
  have HR2 := Z.k hr2
  have HC0_1 := Z.k hc0_1
  have HC0_2 := Z.k hc0_2
  have HC1 := Z.k hc1
  have HC2 := Z.k hc2
  have HF := Z.k hF
  have hcw := Z.c1 (blk_below hga hb)
  clear hga
  clear hx hb hr0_1 hr0_2 hr1 hr2 hc0_1 hc0_2 hc1 hc2 hF
  have hcz := Z.c3 HX.out.c
  have hcy := Z.c1 HX.out.f
  have hcx := Z.c1 HX.out.t
  have HB := Z.k (Below.refl W.heap.size W)
  go_enter Try.func72, Try.ntmps72
  go_wp2_with (go_at_call 70; (with_reducible refine (impl_safeFor.calls k a0_0 _ _ l0_1 _ _ l0_2 _ _ l1 _ _ l2 (Go.bits .xor .i64 all x) b _ ?q1 ?q2 ?q3 ?q4 ?q5 ?q6 ?q7 ?q8 HF.out).mono ?_); (case q1 => exact Kd.C_below HR0_1.out HX.out.b); (case q2 => exact HC0_1.out); (case q3 => exact Kd.C_below HR0_2.out HX.out.b); (case q4 => exact HC0_2.out); (case q5 => exact Kd.C_below HR1.out HX.out.b); (case q6 => exact HC1.out); (case q7 => exact Kd.C_below HR2.out HX.out.b); (case q8 => exact HC2.out); rintro e w5 ⟨rfl, hb⟩; replace HB := Z.k (below_step HB.out hb); clear hb hcz hcy hcx)
  go_ret
  exact ⟨rfl, HB.out⟩
def impl_GuardsOf.F (k : Nat) (P : Int) (B : List Int) (C : List (List S37)) (s t : List Int) (all : Int) (c : Int) : Option Bool := impl_safeFor.f k P B C s t (Go.bits .xor .i64 all c)
def impl_GuardsOf.f (k : Nat) (P : Int) (B : List Int) (C : List (List S37)) (s t : List Int) : Option (List Int) := (impl_isState.f k P B C s).bind fun a => if a = true then ((impl_areBad.f t).bind fun b => if b = true then ((impl_everybody.f P).bind fun all => if 0 ≤ P ∧ P ≤ 6 then crowdsF (impl_GuardsOf.F k P B C s t all) (2 ^ P.toNat) else none) else some []) else some []
set_option maxHeartbeats 4000000 in
set_option maxRecDepth 100000 in
theorem impl_GuardsOf.calls (k : Nat) (a0_0 : Int) (A0_1 : Option Addr) (c0_1 : Nat) (l0_1 : List Int) (A0_2 : Option Addr) (c0_2 : Nat) (l0_2 : List (List (S37))) (A1 : Option Addr) (c1 : Nat) (l1 : List Int) (A2 : Option Addr) (c2 : Nat) (l2 : List Int) (r : List Int) (w : World) (hr0_1 : Kd.C (Kd.int .i64) w A0_1 l0_1.length l0_1) (hc0_1 : l0_1.length ≤ c0_1) (hr0_2 : Kd.C (Kd.slice 37 k37) w A0_2 l0_2.length l0_2) (hc0_2 : l0_2.length ≤ c0_2) (hr1 : Kd.C (Kd.int .i64) w A1 l1.length l1) (hc1 : l1.length ≤ c1) (hr2 : Kd.C (Kd.int .i64) w A2 l2.length l2) (hc2 : l2.length ≤ c2) (h : impl_GuardsOf.f k a0_0 l0_1 l0_2 l1 l2 = some r) :
  Calls Try.prog 23 #[.agg #[.int .i64 a0_0, .slice A0_1 l0_1.length c0_1, .slice A0_2 l0_2.length c0_2], .slice A1 l1.length c1, .slice A2 l2.length c2] w fun e w' => ∃ v0_ : Value, e = .returned (v0_) ∧ Kd.R (Kd.int .i64) 3 w' w.heap.size (fun _ => True) v0_ r ∧ Below w.heap.size w w' := by
  have hu35 := Try.underlying28
  have hu32 := Try.underlying25
  have HR0_1 := Z.k hr0_1
  have HR0_2 := Z.k hr0_2
  have HR1 := Z.k hr1
  have HR2 := Z.k hr2
  have HC0_1 := Z.k hc0_1
  have HC0_2 := Z.k hc0_2
  have HC1 := Z.k hc1
  have HC2 := Z.k hc2
  clear hr0_1 hr0_2 hr1 hr2 hc0_1 hc0_2 hc1 hc2
  unfold impl_GuardsOf.f at h
  obtain ⟨a, ha, h⟩ := Option.bind_eq_some_iff.mp h
  have HA := Z.k ha
  clear ha
  cases a with
  | false =>
    rw [if_neg (by decide)] at h
    obtain rfl := Option.some.inj h
    clear h
    go_enter Try.func23, Try.ntmps23
    go_wp2_with (first
      | ((with_reducible refine gate_dst (N := 3) rfl ?_); refine box_event ?hg (N := 3) ?hd (cs := #[.int .i64 a0_0, .slice A0_1 l0_1.length c0_1, .slice A0_2 l0_2.length c0_2]) (t := 28) ?hr ?_; (case hd => rfl); (case hg => rfl); (case hr => (go_simp; done)); intro gb hg w1 hbox hb; have HB1 := Z.k hb; have HX1 := Z.k hbox; clear hb hg hbox)
      | ((with_reducible refine gate_dst (N := 4) rfl ?_); refine box_event ?hg (N := 4) ?hd (cs := #[.slice A1 l1.length c1]) (t := 23) ?hr ?_; (case hd => rfl); (case hg => rfl); (case hr => (go_simp; done)); intro gf hg w2 hbox hb; replace HX1 := Z.k (blk_below HX1.out hb); replace HB1 := Z.k (below_step HB1.out hb); have HX2 := Z.k hbox; clear hb hg hbox)
      | ((with_reducible refine gate_dst (N := 5) rfl ?_); refine box_event ?hg (N := 5) ?hd (cs := #[.slice A2 l2.length c2]) (t := 23) ?hr ?_; (case hd => rfl); (case hg => rfl); (case hr => (go_simp; done)); intro gt hg w3 hbox hb; have HX : Aside0 (Bx3 w w3 gb gf gt #[.int .i64 a0_0, .slice A0_1 l0_1.length c0_1, .slice A0_2 l0_2.length c0_2] (.slice A1 l1.length c1) (.slice A2 l2.length c2)) := ⟨⟨below_step HB1.out hb, blk_below HX1.out hb, blk_below HX2.out hb, hbox⟩⟩; clear hb hg hbox HX1 HX2 HB1; have hcz := Z.c3 HX.out.c; have hcy := Z.c1 HX.out.f; have hcx := Z.c1 HX.out.t)
      | (go_at_call 62; (with_reducible refine (impl_isState.calls k a0_0 _ _ l0_1 _ _ l0_2 _ _ l1 false _ ?q1 ?q2 ?q3 ?q4 ?q5 ?q6 HA.out).mono ?_); (case q1 => exact Kd.C_below HR0_1.out HX.out.b); (case q2 => exact HC0_1.out); (case q3 => exact Kd.C_below HR0_2.out HX.out.b); (case q4 => exact HC0_2.out); (case q5 => exact Kd.C_below HR1.out HX.out.b); (case q6 => exact HC1.out); rintro e w4 ⟨rfl, hb⟩; replace HX := Z.k (HX.out.step hb); clear hb hcz hcy hcx; have hcz := Z.c3 HX.out.c; have hcy := Z.c1 HX.out.f; have hcx := Z.c1 HX.out.t))
    go_ret
    exact ⟨_, rfl, Kd.R_nil _ _ _ _ _, HX.out.b⟩
  | true =>
  rw [if_pos rfl] at h
  obtain ⟨b, hb0, h⟩ := Option.bind_eq_some_iff.mp h
  have HBb := Z.k hb0
  clear hb0
  cases b with
  | false =>
    rw [if_neg (by decide)] at h
    obtain rfl := Option.some.inj h
    clear h
    go_enter Try.func23, Try.ntmps23
    go_wp2_with (first
      | ((with_reducible refine gate_dst (N := 3) rfl ?_); refine box_event ?hg (N := 3) ?hd (cs := #[.int .i64 a0_0, .slice A0_1 l0_1.length c0_1, .slice A0_2 l0_2.length c0_2]) (t := 28) ?hr ?_; (case hd => rfl); (case hg => rfl); (case hr => (go_simp; done)); intro gb hg w1 hbox hb; have HB1 := Z.k hb; have HX1 := Z.k hbox; clear hb hg hbox)
      | ((with_reducible refine gate_dst (N := 4) rfl ?_); refine box_event ?hg (N := 4) ?hd (cs := #[.slice A1 l1.length c1]) (t := 23) ?hr ?_; (case hd => rfl); (case hg => rfl); (case hr => (go_simp; done)); intro gf hg w2 hbox hb; replace HX1 := Z.k (blk_below HX1.out hb); replace HB1 := Z.k (below_step HB1.out hb); have HX2 := Z.k hbox; clear hb hg hbox)
      | ((with_reducible refine gate_dst (N := 5) rfl ?_); refine box_event ?hg (N := 5) ?hd (cs := #[.slice A2 l2.length c2]) (t := 23) ?hr ?_; (case hd => rfl); (case hg => rfl); (case hr => (go_simp; done)); intro gt hg w3 hbox hb; have HX : Aside0 (Bx3 w w3 gb gf gt #[.int .i64 a0_0, .slice A0_1 l0_1.length c0_1, .slice A0_2 l0_2.length c0_2] (.slice A1 l1.length c1) (.slice A2 l2.length c2)) := ⟨⟨below_step HB1.out hb, blk_below HX1.out hb, blk_below HX2.out hb, hbox⟩⟩; clear hb hg hbox HX1 HX2 HB1; have hcz := Z.c3 HX.out.c; have hcy := Z.c1 HX.out.f; have hcx := Z.c1 HX.out.t)
      | (go_at_call 62; (with_reducible refine (impl_isState.calls k a0_0 _ _ l0_1 _ _ l0_2 _ _ l1 true _ ?q1 ?q2 ?q3 ?q4 ?q5 ?q6 HA.out).mono ?_); (case q1 => exact Kd.C_below HR0_1.out HX.out.b); (case q2 => exact HC0_1.out); (case q3 => exact Kd.C_below HR0_2.out HX.out.b); (case q4 => exact HC0_2.out); (case q5 => exact Kd.C_below HR1.out HX.out.b); (case q6 => exact HC1.out); rintro e w4 ⟨rfl, hb⟩; replace HX := Z.k (HX.out.step hb); clear hb hcz hcy hcx; have hcz := Z.c3 HX.out.c; have hcy := Z.c1 HX.out.f; have hcx := Z.c1 HX.out.t)
      | (go_at_call 67; (with_reducible refine (impl_areBad.calls _ _ l2 false _ ?q1 ?q2 HBb.out).mono ?_); (case q1 => exact Kd.C_below HR2.out HX.out.b); (case q2 => exact HC2.out); rintro e w5 ⟨rfl, hb⟩; replace HX := Z.k (HX.out.step hb); clear hb hcz hcy hcx; have hcz := Z.c3 HX.out.c; have hcy := Z.c1 HX.out.f; have hcx := Z.c1 HX.out.t))
    go_ret
    exact ⟨_, rfl, Kd.R_nil _ _ _ _ _, HX.out.b⟩
  | true =>
  rw [if_pos rfl] at h
  obtain ⟨all, hal, h⟩ := Option.bind_eq_some_iff.mp h
  have HAl := Z.k hal
  clear hal
  obtain ⟨hP, h⟩ := Z.ifp h
  obtain ⟨n, rfl⟩ := Int.eq_ofNat_of_zero_le hP.1
  have hn6 : n ≤ 6 := by omega
  rw [Int.toNat_natCast] at h
  have hall : (List.range (2 ^ n)).all (fun c => (impl_GuardsOf.F k (n : Int) l0_1 l0_2 l1 l2 all (c : Int)).isSome) = true := by
    by_cases q : (List.range (2 ^ n)).all (fun c => (impl_GuardsOf.F k (n : Int) l0_1 l0_2 l1 l2 all (c : Int)).isSome) = true
    · exact q
    · rw [crowdsF, if_neg q] at h; cases h
  rw [crowdsF, if_pos hall] at h
  obtain rfl := Option.some.inj h
  have HAll := Z.k hall
  clear h hall hP
  go_enter Try.func23, Try.ntmps23
  go_wp2_with (first
    | ((with_reducible refine gate_dst (N := 3) rfl ?_); refine box_event ?hg (N := 3) ?hd (cs := #[.int .i64 (n : Int), .slice A0_1 l0_1.length c0_1, .slice A0_2 l0_2.length c0_2]) (t := 28) ?hr ?_; (case hd => rfl); (case hg => rfl); (case hr => (go_simp; done)); intro gb hg w1 hbox hb; have HB1 := Z.k hb; have HX1 := Z.k hbox; clear hb hg hbox)
      | ((with_reducible refine gate_dst (N := 4) rfl ?_); refine box_event ?hg (N := 4) ?hd (cs := #[.slice A1 l1.length c1]) (t := 23) ?hr ?_; (case hd => rfl); (case hg => rfl); (case hr => (go_simp; done)); intro gf hg w2 hbox hb; replace HX1 := Z.k (blk_below HX1.out hb); replace HB1 := Z.k (below_step HB1.out hb); have HX2 := Z.k hbox; clear hb hg hbox)
      | ((with_reducible refine gate_dst (N := 5) rfl ?_); refine box_event ?hg (N := 5) ?hd (cs := #[.slice A2 l2.length c2]) (t := 23) ?hr ?_; (case hd => rfl); (case hg => rfl); (case hr => (go_simp; done)); intro gt hg w3 hbox hb; have HX : Aside0 (Bx3 w w3 gb gf gt #[.int .i64 (n : Int), .slice A0_1 l0_1.length c0_1, .slice A0_2 l0_2.length c0_2] (.slice A1 l1.length c1) (.slice A2 l2.length c2)) := ⟨⟨below_step HB1.out hb, blk_below HX1.out hb, blk_below HX2.out hb, hbox⟩⟩; clear hb hg hbox HX1 HX2 HB1; have hcz := Z.c3 HX.out.c; have hcy := Z.c1 HX.out.f; have hcx := Z.c1 HX.out.t)
    | (go_at_call 62; (with_reducible refine (impl_isState.calls k (n : Int) _ _ l0_1 _ _ l0_2 _ _ l1 true _ ?q1 ?q2 ?q3 ?q4 ?q5 ?q6 HA.out).mono ?_); (case q1 => exact Kd.C_below HR0_1.out HX.out.b); (case q2 => exact HC0_1.out); (case q3 => exact Kd.C_below HR0_2.out HX.out.b); (case q4 => exact HC0_2.out); (case q5 => exact Kd.C_below HR1.out HX.out.b); (case q6 => exact HC1.out); rintro e w4 ⟨rfl, hb⟩; replace HX := Z.k (HX.out.step hb); clear hb hcz hcy hcx; have hcz := Z.c3 HX.out.c; have hcy := Z.c1 HX.out.f; have hcx := Z.c1 HX.out.t)
    | (go_at_call 67; (with_reducible refine (impl_areBad.calls _ _ l2 true _ ?q1 ?q2 HBb.out).mono ?_); (case q1 => exact Kd.C_below HR2.out HX.out.b); (case q2 => exact HC2.out); rintro e w5 ⟨rfl, hb⟩; replace HX := Z.k (HX.out.step hb); clear hb hcz hcy hcx; have hcz := Z.c3 HX.out.c; have hcy := Z.c1 HX.out.f; have hcx := Z.c1 HX.out.t)
    | (go_at_call 71; (with_reducible refine (impl_everybody.calls _ all _ HAl.out).mono ?_); rintro e w6 ⟨rfl, hd⟩; replace HX := Z.k (HX.out.step (below_alloc hd.below (.cells #[.int .i64 all] 3))); have HGA := Z.k (heap_alloc_new w6 (.cells #[.int .i64 all] 3)); clear hd hcz hcy hcx; have hcz := Z.c3 (HX.out.c))
    | (go_at_call 68; refine (leastOf_any _ n hn6 72 #[.pointer (some ⟨gb, 0, none⟩), .pointer (some ⟨gf, 0, none⟩), .pointer (some ⟨gt, 0, none⟩), .pointer (some ⟨w6.heap.size, 0, none⟩)] (fun args w => enters_ Try.func72 (by kernel_rfl) rfl args w) (fun c => (impl_GuardsOf.F k (n : Int) l0_1 l0_2 l1 l2 all c).getD false) (fun W c hc hb => ?cl)).mono ?_; (case cl => (obtain ⟨b, hb1⟩ := crowdsF_at HAll.out hc; rw [hb1]; exact gd1_any k _ _ _ l0_1 _ _ l0_2 _ _ l1 _ _ l2 _ all b w _ W gb gf gt w6.heap.size HX.out HGA.out hb HR0_1.out HC0_1.out HR0_2.out HC0_2.out HR1.out HC1.out HR2.out HC2.out hb1)); rintro e w8 ⟨v8, rfl, hR, hb⟩; have HR := Z.k (Kd.R_lower hR (below_size HX.out.b)); replace HX := Z.k (HX.out.step hb); clear hR hb hcz))
  go_ret
  exact ⟨_, rfl, HR.out, HX.out.b⟩

end Go.Proofs.Ytkogboechfieeaa.PAll

/- Walks by hand of functions that some laws of this seat reach: ReachOf. -/
import Derived.Test.YtkogboechfieeaaCAll80
import Derived.Shelf.Abstract
namespace Go.Proofs.Ytkogboechfieeaa.PAll
open Go.RowKit Go.Proofs.YtkogboechfieeaaW.PrintWords Go.Proofs.YtkogboechfieeaaW.PrintLast Go.Proofs.YtkogboechfieeaaW.PrintMore
set_option linter.unusedVariables false
set_option linter.unusedSimpArgs false

/-! ### impl_ReachOf: function 0 -/
def impl_ReachOf.f (k : Nat) (P : Int) (B : List Int) (C : List (List S37)) (s : List Int) (cr : Int) : Option (List Int) := (impl_isState.f k P B C s).bind fun a => if a = true then ((impl_isCrowd.f P cr).bind fun c => if c = true then ((impl_reach.f k P B C s cr).bind fun D => if (D.map (·.1)).Nodup ∧ D.length ≤ 4096 then some (sortedKeys D) else none) else some []) else some []
set_option maxHeartbeats 4000000 in
set_option maxRecDepth 100000 in
theorem impl_ReachOf.calls (k : Nat) (a0_0 : Int) (A0_1 : Option Addr) (c0_1 : Nat) (l0_1 : List Int) (A0_2 : Option Addr) (c0_2 : Nat) (l0_2 : List (List (S37))) (A1 : Option Addr) (c1 : Nat) (l1 : List Int) (a2 : Int) (r : List Int) (w : World) (hr0_1 : Kd.C (Kd.int .i64) w A0_1 l0_1.length l0_1) (hc0_1 : l0_1.length ≤ c0_1) (hr0_2 : Kd.C (Kd.slice 37 k37) w A0_2 l0_2.length l0_2) (hc0_2 : l0_2.length ≤ c0_2) (hr1 : Kd.C (Kd.int .i64) w A1 l1.length l1) (hc1 : l1.length ≤ c1) (h : impl_ReachOf.f k a0_0 l0_1 l0_2 l1 a2 = some r) :
  Calls Try.prog 19 #[.agg #[.int .i64 a0_0, .slice A0_1 l0_1.length c0_1, .slice A0_2 l0_2.length c0_2], .slice A1 l1.length c1, .int .i64 a2] w fun e w' => ∃ v0_ : Value, e = .returned (v0_) ∧ Kd.R (Kd.int .i64) 3 w' w.heap.size (fun _ => True) v0_ r ∧ Below w.heap.size w w' := by
  have hu35 := Try.underlying28
  have hu32 := Try.underlying25
  have HR0_1 := Z.k hr0_1
  have HR0_2 := Z.k hr0_2
  have HR1 := Z.k hr1
  have HC0_1 := Z.k hc0_1
  have HC0_2 := Z.k hc0_2
  have HC1 := Z.k hc1
  clear hr0_1 hr0_2 hr1 hc0_1 hc0_2 hc1
  unfold impl_ReachOf.f at h
  obtain ⟨a, ha, h⟩ := Option.bind_eq_some_iff.mp h
  have HA := Z.k ha
  clear ha
  cases a with
  | false =>
    rw [if_neg (by decide)] at h
    obtain rfl := Option.some.inj h
    clear h
    go_enter Try.func19, Try.ntmps19
    go_wp2_with (first
      | ((with_reducible refine gate_dst (N := 3) rfl ?_); refine box_event ?hg (N := 3) ?hd (cs := #[.int .i64 a0_0, .slice A0_1 l0_1.length c0_1, .slice A0_2 l0_2.length c0_2]) (t := 28) ?hr ?_; (case hd => rfl); (case hg => rfl); (case hr => (go_simp; done)); intro gb hg w1 hbox hb; have HB := Z.k hb; have HX := Z.k hbox; have hcz := Z.c3 hbox; clear hb hg hbox)
      | (go_at_call 62; (with_reducible refine (impl_isState.calls k a0_0 _ _ l0_1 _ _ l0_2 _ _ l1 false _ ?q1 ?q2 ?q3 ?q4 ?q5 ?q6 HA.out).mono ?_); (case q1 => exact Kd.C_below HR0_1.out HB.out); (case q2 => exact HC0_1.out); (case q3 => exact Kd.C_below HR0_2.out HB.out); (case q4 => exact HC0_2.out); (case q5 => exact Kd.C_below HR1.out HB.out); (case q6 => exact HC1.out); rintro e w2 ⟨rfl, hb⟩; replace HX := Z.k (blk_below HX.out hb); replace HB := Z.k (below_step HB.out hb); clear hb hcz; have hcz := Z.c3 HX.out))
    go_ret
    exact ⟨_, rfl, Kd.R_nil _ _ _ _ _, HB.out⟩
  | true =>
  rw [if_pos rfl] at h
  obtain ⟨c, hc, h⟩ := Option.bind_eq_some_iff.mp h
  have HCr := Z.k hc
  clear hc
  cases c with
  | false =>
    rw [if_neg (by decide)] at h
    obtain rfl := Option.some.inj h
    clear h
    go_enter Try.func19, Try.ntmps19
    go_wp2_with (first
      | ((with_reducible refine gate_dst (N := 3) rfl ?_); refine box_event ?hg (N := 3) ?hd (cs := #[.int .i64 a0_0, .slice A0_1 l0_1.length c0_1, .slice A0_2 l0_2.length c0_2]) (t := 28) ?hr ?_; (case hd => rfl); (case hg => rfl); (case hr => (go_simp; done)); intro gb hg w1 hbox hb; have HB := Z.k hb; have HX := Z.k hbox; have hcz := Z.c3 hbox; clear hb hg hbox)
      | (go_at_call 62; (with_reducible refine (impl_isState.calls k a0_0 _ _ l0_1 _ _ l0_2 _ _ l1 true _ ?q1 ?q2 ?q3 ?q4 ?q5 ?q6 HA.out).mono ?_); (case q1 => exact Kd.C_below HR0_1.out HB.out); (case q2 => exact HC0_1.out); (case q3 => exact Kd.C_below HR0_2.out HB.out); (case q4 => exact HC0_2.out); (case q5 => exact Kd.C_below HR1.out HB.out); (case q6 => exact HC1.out); rintro e w2 ⟨rfl, hb⟩; replace HX := Z.k (blk_below HX.out hb); replace HB := Z.k (below_step HB.out hb); clear hb hcz; have hcz := Z.c3 HX.out)
      | (go_at_call 63; (with_reducible refine (impl_isCrowd.calls a0_0 a2 false _ HCr.out).mono ?_); rintro e w3 ⟨rfl, hd⟩; have hb := hd.below; clear hd; replace HX := Z.k (blk_below HX.out hb); replace HB := Z.k (below_step HB.out hb); clear hb hcz; have hcz := Z.c3 HX.out))
    go_ret
    exact ⟨_, rfl, Kd.R_nil _ _ _ _ _, HB.out⟩
  | true =>
  rw [if_pos rfl] at h
  obtain ⟨D, hD, h⟩ := Option.bind_eq_some_iff.mp h
  have HD := Z.k hD
  obtain ⟨hnd, h⟩ := Z.ifp h
  have HND := Z.k hnd
  obtain rfl := Option.some.inj h
  clear hD h hnd
  go_enter Try.func19, Try.ntmps19
  go_wp2_with (first
    | ((with_reducible refine gate_dst (N := 3) rfl ?_); refine box_event ?hg (N := 3) ?hd (cs := #[.int .i64 a0_0, .slice A0_1 l0_1.length c0_1, .slice A0_2 l0_2.length c0_2]) (t := 28) ?hr ?_; (case hd => rfl); (case hg => rfl); (case hr => (go_simp; done)); intro gb hg w1 hbox hb; have HB := Z.k hb; have HX := Z.k hbox; have hcz := Z.c3 hbox; clear hb hg hbox)
    | (go_at_call 62; (with_reducible refine (impl_isState.calls k a0_0 _ _ l0_1 _ _ l0_2 _ _ l1 true _ ?q1 ?q2 ?q3 ?q4 ?q5 ?q6 HA.out).mono ?_); (case q1 => exact Kd.C_below HR0_1.out HB.out); (case q2 => exact HC0_1.out); (case q3 => exact Kd.C_below HR0_2.out HB.out); (case q4 => exact HC0_2.out); (case q5 => exact Kd.C_below HR1.out HB.out); (case q6 => exact HC1.out); rintro e w2 ⟨rfl, hb⟩; replace HX := Z.k (blk_below HX.out hb); replace HB := Z.k (below_step HB.out hb); clear hb hcz; have hcz := Z.c3 HX.out)
    | (go_at_call 63; (with_reducible refine (impl_isCrowd.calls a0_0 a2 true _ HCr.out).mono ?_); rintro e w3 ⟨rfl, hd⟩; have hb := hd.below; clear hd; replace HX := Z.k (blk_below HX.out hb); replace HB := Z.k (below_step HB.out hb); clear hb hcz; have hcz := Z.c3 HX.out)
    | (go_at_call 65; (with_reducible refine (impl_reach.calls k a0_0 _ _ l0_1 _ _ l0_2 _ _ l1 a2 D _ ?q1 ?q2 ?q3 ?q4 ?q5 ?q6 HD.out).mono ?_); (case q1 => exact Kd.C_below HR0_1.out HB.out); (case q2 => exact HC0_1.out); (case q3 => exact Kd.C_below HR0_2.out HB.out); (case q4 => exact HC0_2.out); (case q5 => exact Kd.C_below HR1.out HB.out); (case q6 => exact HC1.out); rintro e w5 ⟨gm, rfl, hm, hb⟩; have HM := Z.k hm; replace HB := Z.k (below_step HB.out hb); clear hm hb)
    | (go_at_call 64; refine (numbersOf_any _ gm D HM.out HND.out.1 HND.out.2).mono ?_; rintro e w6 ⟨v6, rfl, hR, hb⟩; have HR := Z.k (Kd.R_lower hR (below_size HB.out)); replace HB := Z.k (below_step HB.out hb); clear hR hb))
  go_ret
  exact ⟨_, rfl, HR.out, HB.out⟩

end Go.Proofs.Ytkogboechfieeaa.PAll

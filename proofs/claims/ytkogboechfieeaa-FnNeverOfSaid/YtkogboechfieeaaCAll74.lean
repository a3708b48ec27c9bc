/- Walks by hand of functions that some laws of this seat reach: AmendersOf. -/
import Derived.Test.YtkogboechfieeaaCAll73
import Derived.Shelf.Abstract
import Derived.Maps.OwnSet
namespace Go.Proofs.Ytkogboechfieeaa.PAll
open Go.RowKit Go.Proofs.YtkogboechfieeaaW.PrintWords Go.Proofs.YtkogboechfieeaaW.PrintLast Go.Proofs.YtkogboechfieeaaW.PrintMore
set_option linter.unusedVariables false
set_option linter.unusedSimpArgs false

/-! ### impl_AmendersOf: function 0 -/
theorem map_look {W : World} {g : Nat} {L : List (Int × Int)} {n : Int} (h : MapAt W g L) (hkey : keyOf Try.prog 3 (.int .i64 n) = some (.int .i64 n)) : ∃ c : Int, (Instr.lookup 75 (.map (some g)) (.int .i64 n) true).run Try.prog W = .ok (.tuple #[.int .i64 c, .bool (mhas n L)]) W := by
  obtain ⟨v, ps, hrun, hv⟩ := World.ownsMap.look_ok h keyed3 Try.underlying75 (zero3 W) (plainElem_int Try.underlying3 (by decide)) hkey
  obtain ⟨c, rfl, hc, hwc⟩ := plainElem_int_inv Try.underlying3 hv
  rw [mapD_has] at hrun
  exact ⟨c, hrun⟩
def impl_AmendersOf_1.T1 : Bool × List (List Nat × List Nat) := (true, [([], []), ([], []), ([], []), ([0, 1, 2], [0, 1, 2]), ([], []), ([4, 3], [4]), ([3, 5], [3, 5]), ([6], [6]), ([7], [7]), ([7], [7]), ([8, 5, 0, 1, 2, 3, 4, 5, 6, 7, 8], [8]), ([9, 10, 0, 1, 2, 3, 4, 5, 6, 7, 8, 9, 10], [9])])
def impl_AmendersOf_1.B1 : List Nat := [0, 0, 0, 7, 0, 31, 63, 127, 255, 255, 511, 2047]
theorem impl_AmendersOf_1.tab1 : rtab .any (opsOf Try.f85 1) = impl_AmendersOf_1.T1 := by kernel_rfl
theorem impl_AmendersOf_1.bits1 : waitsOk impl_AmendersOf_1.T1.2 impl_AmendersOf_1.B1 = true := by kernel_rfl
set_option maxHeartbeats 4000000 in
set_option maxRecDepth 100000 in
theorem am1_any (k : Nat) (a0_0 : Int) (A0_1 : Option Addr) (c0_1 : Nat) (l0_1 : List Int) (A0_2 : Option Addr) (c0_2 : Nat) (l0_2 : List (List (S37))) (A1 : Option Addr) (c1 : Nat) (l1 : List Int) (A2 : Option Addr) (c2 : Nat) (l2 : List Int) (x n : Int) (D : List (Int × Int)) (w W0 W : World) (gb gf gt : Nat)
    (hx : Bx3 w W0 gb gf gt #[.int .i64 a0_0, .slice A0_1 l0_1.length c0_1, .slice A0_2 l0_2.length c0_2] (.slice A1 l1.length c1) (.slice A2 l2.length c2)) (hb : Below W0.heap.size W0 W)
    (hr0_1 : Kd.C (Kd.int .i64) w A0_1 l0_1.length l0_1) (hc0_1 : l0_1.length ≤ c0_1) (hr0_2 : Kd.C (Kd.slice 37 k37) w A0_2 l0_2.length l0_2) (hc0_2 : l0_2.length ≤ c0_2) (hr1 : Kd.C (Kd.int .i64) w A1 l1.length l1) (hc1 : l1.length ≤ c1) (hr2 : Kd.C (Kd.int .i64) w A2 l2.length l2) (hc2 : l2.length ≤ c2) (hD : impl_reach.f k a0_0 l0_1 l0_2 l1 x = some D) (hn : impl_stateNumber.f k l2 = some n) :
    Calls Try.prog 85 (#[.int .i64 x] ++ #[.pointer (some ⟨gb, 0, none⟩), .pointer (some ⟨gf, 0, none⟩), .pointer (some ⟨gt, 0, none⟩)]) W fun e w' => e = .returned (.bool (mhas n D)) ∧ Below W.heap.size W w' := by
  have hu35 := Try.underlying28
  have HX := Z.k (hx.step hb)
  have HR0_1 := Z.k hr0_1
  have HR0_2 := Z.k hr0_2
  have HR1 := Z.k hr1
  have HR2 := Z.k hr2
  have HC0_1 := Z.k hc0_1
  have HC0_2 := Z.k hc0_2
  have HC1 := Z.k hc1
  have HC2 := Z.k hc2
  have HD := Z.k hD
  have HN := Z.k hn
  clear hx hb hr0_1 hr0_2 hr1 hr2 hc0_1 hc0_2 hc1 hc2 hD hn
  have hcz := Z.c3 HX.out.c
  have hcy := Z.c1 HX.out.f
  have hcx := Z.c1 HX.out.t
  have HB := Z.k (Below.refl W.heap.size W)
  go_enter Try.func85, Try.ntmps85
  go_wp2
  replace HX := Z.k (HX.out.step (below_drew1 (Below.refl W.heap.size W)))
  replace HB := Z.k (below_drew1 HB.out)
  clear hcz hcy hcx
  refine start_ (n := 12) (S := fun w' => w'.cell? ⟨gb, 0, none⟩ = some (.int .i64 a0_0) ∧ w'.cell? ⟨gb, 1, none⟩ = some (.slice A0_1 l0_1.length c0_1) ∧ w'.cell? ⟨gb, 2, none⟩ = some (.slice A0_2 l0_2.length c0_2) ∧ w'.cell? ⟨gf, 0, none⟩ = some (.slice A1 l1.length c1) ∧ w'.cell? ⟨gt, 0, none⟩ = some (.slice A2 l2.length c2)) (ds := []) (Z.mb 12 0) (by kernel_rfl) rfl rfl ⟨(blk_cell HX.out.c 0).trans rfl, (blk_cell HX.out.c 1).trans rfl, (blk_cell HX.out.c 2).trans rfl, (blk_cell HX.out.f 0).trans rfl, (blk_cell HX.out.t 0).trans rfl⟩ (fun hHeld => ?_); refine with_tabW impl_AmendersOf_1.tab1 impl_AmendersOf_1.bits1 (fun HT_ HW_ => ?_)
  generalize W.drew = w1 at HX HB hHeld ⊢
  refine Z.pv 2 11 12 4 HT_.out ?_
  refine Z.t5 0 9 12 5 HT_.out HW_.out hHeld ?_
  refine Z.t5 1 10 12 7 HT_.out HW_.out hHeld ?_
  refine Z.t5 4 13 12 23 HT_.out HW_.out hHeld ?_
  refine one_ (i := 3) (N := some 12) (Z.mb 12 31) rfl rfl (one_of HT_.out (by kernel_rfl)) (by decide) (fun K hK => ?_)
  refine goes_ Try.func65 (by kernel_rfl) rfl #[.agg #[.int .i64 a0_0, .slice A0_1 l0_1.length c0_1, .slice A0_2 l0_2.length c0_2], .slice A1 l1.length c1, .int .i64 x] (by rfl) rfl rfl Z.ar ?_
  (with_reducible refine (impl_reach.calls k a0_0 _ _ l0_1 _ _ l0_2 _ _ l1 x D _ ?q1 ?q2 ?q3 ?q4 ?q5 ?q6 HD.out).mono ?_)
  (case q1 => exact Kd.C_below HR0_1.out HX.out.b)
  (case q2 => exact HC0_1.out)
  (case q3 => exact Kd.C_below HR0_2.out HX.out.b)
  (case q4 => exact HC0_2.out)
  (case q5 => exact Kd.C_below HR1.out HX.out.b)
  (case q6 => exact HC1.out)
  rintro e w5 ⟨gm, rfl, hm, hb⟩
  refine ⟨_, rfl, ?_⟩
  have HM := Z.k hm
  replace HX := Z.k (HX.out.step hb)
  replace HB := Z.k (below_step HB.out hb)
  clear hm hb
  refine hK.out _ _ ⟨(blk_cell HX.out.c 0).trans rfl, (blk_cell HX.out.c 1).trans rfl, (blk_cell HX.out.c 2).trans rfl, (blk_cell HX.out.f 0).trans rfl, (blk_cell HX.out.t 0).trans rfl⟩ (fun hHeld => ?_)
  clear hK K
  refine Z.nm ?_
  refine one_ (i := 5) (N := some 14) (Z.mb 12 63) rfl rfl (one_of HT_.out (by kernel_rfl)) (by decide) (fun K hK => ?_)
  refine goes_ Try.func76 (by kernel_rfl) rfl #[.slice A2 l2.length c2] (by rfl) rfl rfl Z.ar ?_
  (with_reducible refine (impl_stateNumber.calls k _ _ l2 n _ ?q1 ?q2 HN.out).mono ?_)
  (case q1 => exact Kd.C_below HR2.out HX.out.b)
  (case q2 => exact HC2.out)
  rintro e w6 ⟨rfl, hd⟩
  refine ⟨_, rfl, ?_⟩
  replace HX := Z.k (HX.out.step hd.below)
  replace HB := Z.k (below_step HB.out hd.below)
  obtain ⟨c, hrun⟩ := map_look (W := w6) (World.ownsMap.kept HM.out (grown0 hd.below) (by simp)) (stNum_key HN.out)
  clear hd HM
  refine hK.out _ _ ⟨(blk_cell HX.out.c 0).trans rfl, (blk_cell HX.out.c 1).trans rfl, (blk_cell HX.out.c 2).trans rfl, (blk_cell HX.out.f 0).trans rfl, (blk_cell HX.out.t 0).trans rfl⟩ (fun hHeld => ?_)
  clear hK K
  refine Z.nm ?_
  refine one_ (i := 6) (N := some 15) (Z.mb 12 127) rfl rfl (one_of HT_.out (by kernel_rfl)) (by decide) (fun K hK => ?_)
  refine value_ (w1 := w6) (v := .tuple #[.int .i64 c, .bool (mhas n D)]) rfl rfl (by unfold execOp; simp only [Act.eval]; simp [hrun, Result.andThen]) ?_
  refine hK.out _ _ hHeld (fun hHeld => ?_)
  clear hK K
  refine Z.nm ?_
  refine Z.pv 7 8 12 255 HT_.out ?_
  refine Z.pv 8 16 12 511 HT_.out ?_
  refine Z.pv 9 17 12 1023 HT_.out ?_
  refine Z.pv 10 6 12 2047 HT_.out ?_
  refine Z.pv 11 7 12 4095 HT_.out ?_
  refine done_ (done_of HT_.out (by kernel_rfl)) ?_
  go_wp2
  go_ret
  exact ⟨rfl, HB.out⟩
def impl_AmendersOf.F (k : Nat) (P : Int) (B : List Int) (C : List (List S37)) (s t : List Int) (c : Int) : Option Bool := (impl_reach.f k P B C s c).bind fun D => (impl_stateNumber.f k t).bind fun n => some (mhas n D)
def impl_AmendersOf.f (k : Nat) (P : Int) (B : List Int) (C : List (List S37)) (s t : List Int) : Option (List Int) := (impl_isState.f k P B C s).bind fun a => if a = true then ((impl_isState.f k P B C t).bind fun b => if b = true then (if 0 ≤ P ∧ P ≤ 6 then crowdsF (impl_AmendersOf.F k P B C s t) (2 ^ P.toNat) else none) else some []) else some []
set_option maxHeartbeats 4000000 in
set_option maxRecDepth 100000 in
theorem impl_AmendersOf.calls (k : Nat) (a0_0 : Int) (A0_1 : Option Addr) (c0_1 : Nat) (l0_1 : List Int) (A0_2 : Option Addr) (c0_2 : Nat) (l0_2 : List (List (S37))) (A1 : Option Addr) (c1 : Nat) (l1 : List Int) (A2 : Option Addr) (c2 : Nat) (l2 : List Int) (r : List Int) (w : World) (hr0_1 : Kd.C (Kd.int .i64) w A0_1 l0_1.length l0_1) (hc0_1 : l0_1.length ≤ c0_1) (hr0_2 : Kd.C (Kd.slice 37 k37) w A0_2 l0_2.length l0_2) (hc0_2 : l0_2.length ≤ c0_2) (hr1 : Kd.C (Kd.int .i64) w A1 l1.length l1) (hc1 : l1.length ≤ c1) (hr2 : Kd.C (Kd.int .i64) w A2 l2.length l2) (hc2 : l2.length ≤ c2) (h : impl_AmendersOf.f k a0_0 l0_1 l0_2 l1 l2 = some r) :
  Calls Try.prog 48 #[.agg #[.int .i64 a0_0, .slice A0_1 l0_1.length c0_1, .slice A0_2 l0_2.length c0_2], .slice A1 l1.length c1, .slice A2 l2.length c2] w fun e w' => ∃ v0_ : Value, e = .returned (v0_) ∧ Kd.R (Kd.int .i64) 3 w' w.heap.size (fun _ => True) v0_ r ∧ Below w.heap.size w w' := by
  have hu35 := Try.underlying28
  have hu32 := Try.underlying25
  have HR0_1 := Z.k hr0_1
  have HR0_2 := Z.k hr0_2
  have HR1 := Z.k hr1
  have HR2 := Z.k hr2
  have HC0_1 := Z.k hc0_1
  have HC0_2 := Z.k hc0_2
  have HC1 := Z.k hc1
  have HC2 := Z.k hc2
  clear hr0_1 hr0_2 hr1 hr2 hc0_1 hc0_2 hc1 hc2
  unfold impl_AmendersOf.f at h
  obtain ⟨a, ha, h⟩ := Option.bind_eq_some_iff.mp h
  have HA := Z.k ha
  clear ha
  cases a with
  | false =>
    rw [if_neg (by decide)] at h
    obtain rfl := Option.some.inj h
    clear h
    go_enter Try.func48, Try.ntmps48
    go_wp2_with (first
      | ((with_reducible refine gate_dst (N := 3) rfl ?_); refine box_event ?hg (N := 3) ?hd (cs := #[.int .i64 a0_0, .slice A0_1 l0_1.length c0_1, .slice A0_2 l0_2.length c0_2]) (t := 28) ?hr ?_; (case hd => rfl); (case hg => rfl); (case hr => (go_simp; done)); intro gb hg w1 hbox hb; have HB1 := Z.k hb; have HX1 := Z.k hbox; clear hb hg hbox)
      | ((with_reducible refine gate_dst (N := 4) rfl ?_); refine box_event ?hg (N := 4) ?hd (cs := #[.slice A1 l1.length c1]) (t := 23) ?hr ?_; (case hd => rfl); (case hg => rfl); (case hr => (go_simp; done)); intro gf hg w2 hbox hb; replace HX1 := Z.k (blk_below HX1.out hb); replace HB1 := Z.k (below_step HB1.out hb); have HX2 := Z.k hbox; clear hb hg hbox)
      | ((with_reducible refine gate_dst (N := 5) rfl ?_); refine box_event ?hg (N := 5) ?hd (cs := #[.slice A2 l2.length c2]) (t := 23) ?hr ?_; (case hd => rfl); (case hg => rfl); (case hr => (go_simp; done)); intro gt hg w3 hbox hb; have HX : Aside0 (Bx3 w w3 gb gf gt #[.int .i64 a0_0, .slice A0_1 l0_1.length c0_1, .slice A0_2 l0_2.length c0_2] (.slice A1 l1.length c1) (.slice A2 l2.length c2)) := ⟨⟨below_step HB1.out hb, blk_below HX1.out hb, blk_below HX2.out hb, hbox⟩⟩; clear hb hg hbox HX1 HX2 HB1; have hcz := Z.c3 HX.out.c; have hcy := Z.c1 HX.out.f; have hcx := Z.c1 HX.out.t)
      | (go_at_call 62; (with_reducible refine (impl_isState.calls k a0_0 _ _ l0_1 _ _ l0_2 _ _ l1 false _ ?q1 ?q2 ?q3 ?q4 ?q5 ?q6 HA.out).mono ?_); (case q1 => exact Kd.C_below HR0_1.out HX.out.b); (case q2 => exact HC0_1.out); (case q3 => exact Kd.C_below HR0_2.out HX.out.b); (case q4 => exact HC0_2.out); (case q5 => exact Kd.C_below HR1.out HX.out.b); (case q6 => exact HC1.out); rintro e w4 ⟨rfl, hb⟩; replace HX := Z.k (HX.out.step hb); clear hb hcz hcy hcx; have hcz := Z.c3 HX.out.c; have hcy := Z.c1 HX.out.f; have hcx := Z.c1 HX.out.t))
    go_ret
    exact ⟨_, rfl, Kd.R_nil _ _ _ _ _, HX.out.b⟩
  | true =>
  rw [if_pos rfl] at h
  obtain ⟨b, hb0, h⟩ := Option.bind_eq_some_iff.mp h
  have HBb := Z.k hb0
  clear hb0
  cases b with
  | false =>
    rw [if_neg (by decide)] at h
    obtain rfl := Option.some.inj h
    clear h
    go_enter Try.func48, Try.ntmps48
    go_wp2_with (first
      | ((with_reducible refine gate_dst (N := 3) rfl ?_); refine box_event ?hg (N := 3) ?hd (cs := #[.int .i64 a0_0, .slice A0_1 l0_1.length c0_1, .slice A0_2 l0_2.length c0_2]) (t := 28) ?hr ?_; (case hd => rfl); (case hg => rfl); (case hr => (go_simp; done)); intro gb hg w1 hbox hb; have HB1 := Z.k hb; have HX1 := Z.k hbox; clear hb hg hbox)
      | ((with_reducible refine gate_dst (N := 4) rfl ?_); refine box_event ?hg (N := 4) ?hd (cs := #[.slice A1 l1.length c1]) (t := 23) ?hr ?_; (case hd => rfl); (case hg => rfl); (case hr => (go_simp; done)); intro gf hg w2 hbox hb; replace HX1 := Z.k (blk_below HX1.out hb); replace HB1 := Z.k (below_step HB1.out hb); have HX2 := Z.k hbox; clear hb hg hbox)
      | ((with_reducible refine gate_dst (N := 5) rfl ?_); refine box_event ?hg (N := 5) ?hd (cs := #[.slice A2 l2.length c2]) (t := 23) ?hr ?_; (case hd => rfl); (case hg => rfl); (case hr => (go_simp; done)); intro gt hg w3 hbox hb; have HX : Aside0 (Bx3 w w3 gb gf gt #[.int .i64 a0_0, .slice A0_1 l0_1.length c0_1, .slice A0_2 l0_2.length c0_2] (.slice A1 l1.length c1) (.slice A2 l2.length c2)) := ⟨⟨below_step HB1.out hb, blk_below HX1.out hb, blk_below HX2.out hb, hbox⟩⟩; clear hb hg hbox HX1 HX2 HB1; have hcz := Z.c3 HX.out.c; have hcy := Z.c1 HX.out.f; have hcx := Z.c1 HX.out.t)
      | (go_at_call 62; (with_reducible refine (impl_isState.calls k a0_0 _ _ l0_1 _ _ l0_2 _ _ l1 true _ ?q1 ?q2 ?q3 ?q4 ?q5 ?q6 HA.out).mono ?_); (case q1 => exact Kd.C_below HR0_1.out HX.out.b); (case q2 => exact HC0_1.out); (case q3 => exact Kd.C_below HR0_2.out HX.out.b); (case q4 => exact HC0_2.out); (case q5 => exact Kd.C_below HR1.out HX.out.b); (case q6 => exact HC1.out); rintro e w4 ⟨rfl, hb⟩; replace HX := Z.k (HX.out.step hb); clear hb hcz hcy hcx; have hcz := Z.c3 HX.out.c; have hcy := Z.c1 HX.out.f; have hcx := Z.c1 HX.out.t)
      | (go_at_call 62; (with_reducible refine (impl_isState.calls k a0_0 _ _ l0_1 _ _ l0_2 _ _ l2 false _ ?q1 ?q2 ?q3 ?q4 ?q5 ?q6 HBb.out).mono ?_); (case q1 => exact Kd.C_below HR0_1.out HX.out.b); (case q2 => exact HC0_1.out); (case q3 => exact Kd.C_below HR0_2.out HX.out.b); (case q4 => exact HC0_2.out); (case q5 => exact Kd.C_below HR2.out HX.out.b); (case q6 => exact HC2.out); rintro e w5 ⟨rfl, hb⟩; replace HX := Z.k (HX.out.step hb); clear hb hcz hcy hcx; have hcz := Z.c3 HX.out.c; have hcy := Z.c1 HX.out.f; have hcx := Z.c1 HX.out.t))
    go_ret
    exact ⟨_, rfl, Kd.R_nil _ _ _ _ _, HX.out.b⟩
  | true =>
  rw [if_pos rfl] at h
  obtain ⟨hP, h⟩ := Z.ifp h
  obtain ⟨n, rfl⟩ := Int.eq_ofNat_of_zero_le hP.1
  have hn6 : n ≤ 6 := by omega
  rw [Int.toNat_natCast] at h
  have hall : (List.range (2 ^ n)).all (fun c => (impl_AmendersOf.F k (n : Int) l0_1 l0_2 l1 l2 (c : Int)).isSome) = true := by
    by_cases q : (List.range (2 ^ n)).all (fun c => (impl_AmendersOf.F k (n : Int) l0_1 l0_2 l1 l2 (c : Int)).isSome) = true
    · exact q
    · rw [crowdsF, if_neg q] at h; cases h
  rw [crowdsF, if_pos hall] at h
  obtain rfl := Option.some.inj h
  have HAll := Z.k hall
  clear h hall hP
  go_enter Try.func48, Try.ntmps48
  go_wp2_with (first
    | ((with_reducible refine gate_dst (N := 3) rfl ?_); refine box_event ?hg (N := 3) ?hd (cs := #[.int .i64 (n : Int), .slice A0_1 l0_1.length c0_1, .slice A0_2 l0_2.length c0_2]) (t := 28) ?hr ?_; (case hd => rfl); (case hg => rfl); (case hr => (go_simp; done)); intro gb hg w1 hbox hb; have HB1 := Z.k hb; have HX1 := Z.k hbox; clear hb hg hbox)
      | ((with_reducible refine gate_dst (N := 4) rfl ?_); refine box_event ?hg (N := 4) ?hd (cs := #[.slice A1 l1.length c1]) (t := 23) ?hr ?_; (case hd => rfl); (case hg => rfl); (case hr => (go_simp; done)); intro gf hg w2 hbox hb; replace HX1 := Z.k (blk_below HX1.out hb); replace HB1 := Z.k (below_step HB1.out hb); have HX2 := Z.k hbox; clear hb hg hbox)
      | ((with_reducible refine gate_dst (N := 5) rfl ?_); refine box_event ?hg (N := 5) ?hd (cs := #[.slice A2 l2.length c2]) (t := 23) ?hr ?_; (case hd => rfl); (case hg => rfl); (case hr => (go_simp; done)); intro gt hg w3 hbox hb; have HX : Aside0 (Bx3 w w3 gb gf gt #[.int .i64 (n : Int), .slice A0_1 l0_1.length c0_1, .slice A0_2 l0_2.length c0_2] (.slice A1 l1.length c1) (.slice A2 l2.length c2)) := ⟨⟨below_step HB1.out hb, blk_below HX1.out hb, blk_below HX2.out hb, hbox⟩⟩; clear hb hg hbox HX1 HX2 HB1; have hcz := Z.c3 HX.out.c; have hcy := Z.c1 HX.out.f; have hcx := Z.c1 HX.out.t)
    | (go_at_call 62; (with_reducible refine (impl_isState.calls k (n : Int) _ _ l0_1 _ _ l0_2 _ _ l1 true _ ?q1 ?q2 ?q3 ?q4 ?q5 ?q6 HA.out).mono ?_); (case q1 => exact Kd.C_below HR0_1.out HX.out.b); (case q2 => exact HC0_1.out); (case q3 => exact Kd.C_below HR0_2.out HX.out.b); (case q4 => exact HC0_2.out); (case q5 => exact Kd.C_below HR1.out HX.out.b); (case q6 => exact HC1.out); rintro e w4 ⟨rfl, hb⟩; replace HX := Z.k (HX.out.step hb); clear hb hcz hcy hcx; have hcz := Z.c3 HX.out.c; have hcy := Z.c1 HX.out.f; have hcx := Z.c1 HX.out.t)
    | (go_at_call 62; (with_reducible refine (impl_isState.calls k (n : Int) _ _ l0_1 _ _ l0_2 _ _ l2 true _ ?q1 ?q2 ?q3 ?q4 ?q5 ?q6 HBb.out).mono ?_); (case q1 => exact Kd.C_below HR0_1.out HX.out.b); (case q2 => exact HC0_1.out); (case q3 => exact Kd.C_below HR0_2.out HX.out.b); (case q4 => exact HC0_2.out); (case q5 => exact Kd.C_below HR2.out HX.out.b); (case q6 => exact HC2.out); rintro e w5 ⟨rfl, hb⟩; replace HX := Z.k (HX.out.step hb); clear hb hcz hcy hcx; have hcz := Z.c3 HX.out.c; have hcy := Z.c1 HX.out.f; have hcx := Z.c1 HX.out.t)
    | (go_at_call 68; refine (leastOf_any _ n hn6 85 #[.pointer (some ⟨gb, 0, none⟩), .pointer (some ⟨gf, 0, none⟩), .pointer (some ⟨gt, 0, none⟩)] (fun args w => enters_ Try.func85 (by kernel_rfl) rfl args w) (fun c => (impl_AmendersOf.F k (n : Int) l0_1 l0_2 l1 l2 c).getD false) (fun W c hc hb => ?cl)).mono ?_; (case cl => (obtain ⟨b, hb1⟩ := crowdsF_at HAll.out hc; obtain ⟨D, hD, hb2⟩ := Option.bind_eq_some_iff.mp hb1; obtain ⟨n2, hn2, hb3⟩ := Option.bind_eq_some_iff.mp hb2; rw [hb1, ← hb3]; exact am1_any k _ _ _ l0_1 _ _ l0_2 _ _ l1 _ _ l2 _ n2 D w _ W gb gf gt HX.out hb HR0_1.out HC0_1.out HR0_2.out HC0_2.out HR1.out HC1.out HR2.out HC2.out hD hn2)); rintro e w8 ⟨v8, rfl, hR, hb⟩; have HR := Z.k (Kd.R_lower hR (below_size HX.out.b)); replace HX := Z.k (HX.out.step hb); clear hR hb hcz))
  go_ret
  exact ⟨_, rfl, HR.out, HX.out.b⟩

end Go.Proofs.Ytkogboechfieeaa.PAll

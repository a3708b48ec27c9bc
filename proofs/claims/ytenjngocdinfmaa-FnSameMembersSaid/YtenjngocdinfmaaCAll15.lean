/- Walks of functions that All reaches, in the form of the print. -/
-- PRINTED
import Derived.Test.YtenjngocdinfmaaCAll3
import Derived.Test.YtenjngocdinfmaaCAll12
import Derived.Test.YtenjngocdinfmaaCAll14
namespace Go.Proofs.Ytenjngocdinfmaa.PAll
open Go.RowKit Go.Proofs.YtenjngocdinfmaaW.PrintWords Go.Proofs.YtenjngocdinfmaaW.PrintLast Go.Proofs.YtenjngocdinfmaaW.PrintMore
attribute [local go_sem] max2_int min2_int max_two min_two max_three min_three max_four min_four
set_option linter.unusedVariables false
set_option linter.unusedSimpArgs false

/-! ### laws_FnPivotsByOrders: function 3 -/
mutual
def laws_FnPivotsByOrders.j0 : Nat → List (S35) → Int → Int → Bool → Int → List Int → Option (Bool)
 | 0, _, _, _, _, _, _ => none
 | k + 1, x4, x5, x6, x39, x441000, x441001 => if x39 = true then (if x6 ≥ (-1) then ((laws_alive.f).bind fun t443 => (some t443)) else (some false)) else (laws_FnPivotsByOrders.l0 k x4 x5 x6 1 0 x441000 x441001)
def laws_FnPivotsByOrders.l0 : Nat → List (S35) → Int → Int → Int → Int → Int → List Int → Option (Bool)
 | 0, _, _, _, _, _, _, _ => none
 | k + 1, x4, x5, x6, x7, x8, x441000, x441001 => if x8 < x441000 then (laws_FnPivotsByOrders.l0 k x4 x5 x6 (wrap64 (x7 * x441000)) (wrap64 (x8 + 1)) x441000 x441001) else (laws_FnPivotsByOrders.l1 k x4 x5 x6 x7 0 0 x441000 x441001)
def laws_FnPivotsByOrders.l1 : Nat → List (S35) → Int → Int → Int → Int → Int → Int → List Int → Option (Bool)
 | 0, _, _, _, _, _, _, _, _ => none
 | k + 1, x4, x5, x6, x7, x9, x10, x441000, x441001 => if x10 < x7 then (laws_FnPivotsByOrders.l2 k x4 x5 x6 x7 x9 x10 (([] : List Int)) x10 0 x441000 x441001) else ((laws_alive.f).bind fun t444 => (if t444 = true then (some (x9 == x6)) else (some false)))
def laws_FnPivotsByOrders.l2 : Nat → List (S35) → Int → Int → Int → Int → Int → List Int → Int → Int → Int → List Int → Option (Bool)
 | 0, _, _, _, _, _, _, _, _, _, _, _ => none
 | k + 1, x4, x5, x6, x7, x9, x10, x11, x12, x13, x441000, x441001 => if x13 < x441000 then (if x441000 = 0 then (none) else (if x11.length < 17592186044416 then (laws_FnPivotsByOrders.l2 k x4 x5 x6 x7 x9 x10 (x11 ++ [Int.tmod x12 x441000]) (wrap64 (Int.tdiv x12 x441000)) (wrap64 (x13 + 1)) x441000 x441001) else (none))) else ((impl_PivotIn.f k x441000 x441001 x4 x11).bind fun t451 => (if t451 = x5 then (laws_FnPivotsByOrders.l1 k x4 x5 x6 x7 (wrap64 (x9 + 1)) (wrap64 (x10 + 1)) x441000 x441001) else (laws_FnPivotsByOrders.l1 k x4 x5 x6 x7 x9 (wrap64 (x10 + 1)) x441000 x441001)))
end
def laws_FnPivotsByOrders.f (k : Nat) (l0 : List Int) : Option (Bool) := if (l0.length : Int) > 1048576 then (some true) else ((spec_DrawPivotsOf.f k l0).bind fun bt432 => ((impl_PivotsOf.f k bt432.1 bt432.2.1 bt432.2.2.1 bt432.2.2.2).bind fun t441 => (if t441 < 0 then (laws_FnPivotsByOrders.j0 k bt432.2.2.1 bt432.2.2.2 t441 true bt432.1 bt432.2.1) else ((spec_TermOk.f k bt432.1 bt432.2.1 bt432.2.2.1).bind fun t442 => (if t442 = true then (laws_FnPivotsByOrders.j0 k bt432.2.2.1 bt432.2.2.2 t441 (decide (bt432.1 > 4)) bt432.1 bt432.2.1) else (laws_FnPivotsByOrders.j0 k bt432.2.2.1 bt432.2.2.2 t441 true bt432.1 bt432.2.1))))))
/-! ### spec_DrawSwingsOf: function 11 -/
def spec_DrawSwingsOf.f (k : Nat) (l0 : List Int) : Option (Int × List Int × (List (S35)) × Int) := (spec_l20Open.f l0).bind fun bt453 => ((spec_l20Whose.f k bt453.1 bt453.2).bind fun bt456 => (some (bt456.1, bt456.2.1, bt456.2.2.1, bt456.2.2.2.1)))
set_option maxHeartbeats 8000000 in
set_option maxRecDepth 100000 in
theorem spec_DrawSwingsOf.calls (k : Nat) (A0 : Option Addr) (c0 : Nat) (l0 : List Int) (r1 : Int) (r2 : List Int) (r3 : List (S35)) (r4 : Int) (w : World) (hr0 : Kd.C (Kd.int .u8) w A0 l0.length l0) (hc0 : l0.length ≤ c0) (h : spec_DrawSwingsOf.f k l0 = some (r1, r2, r3, r4)) :
  Calls Try.prog 11 #[.slice A0 l0.length c0] w fun e w' => ∃ v1_ v2_ : Value, e = .returned (.tuple #[.agg #[.int .i64 r1, v1_], v2_, .int .i64 r4]) ∧ Kd.R (Kd.int .i64) 3 w' w.heap.size (fun k_ => (w.heap.size ≤ k_)) v1_ r2 ∧ Kd.V k35 35 w' w.heap.size (fun k_ => (w.heap.size ≤ k_) ∧ some k_ ≠ (v1_ : Value).ownBlock) v2_ r3 ∧ Below w.heap.size w w' := by
 have hu25 := Try.underlying25
 have HR0 := Aside0.mk hr0
 have HC0 := Aside0.mk hc0
 clear hr0 hc0
 have HB := Aside0.mk (Below.refl w.heap.size w)
 have H := h
 clear h
 unfold spec_DrawSwingsOf.f at H
 replace H := Option.bind_eq_some_iff.mp H
 obtain ⟨⟨t453, t454⟩, A20, H⟩ := H
 try dsimp only at H
 have A2 := Aside0.mk A20
 clear A20
 replace H := Option.bind_eq_some_iff.mp H
 obtain ⟨⟨t456, t457, t460, t463, t464⟩, A30, H⟩ := H
 try dsimp only at H
 have A3 := Aside0.mk A30
 clear A30
 simp only [Option.some.injEq, Prod.mk.injEq] at H
 obtain ⟨rfl, rfl, rfl, rfl⟩ := H
 go_enter Try.func11, Try.ntmps11
 go_wp2_with (first | ((with_reducible refine gate_dst (N := 2) rfl ?_); refine Z.bx #[.int .i64 0, .slice none 0 0] 25 HB ?_; clear HB; intro gb452 w4 BK452 GE452 HB hg hb; have GW452 := GE452; clear hb hg) | ((with_reducible refine gate_callee (f := 19) rfl ?_); refine goesL_ (some 6) rfl rfl Try.func19 (by kernel_rfl) rfl #[.slice A0 l0.length c0] rfl Z.ar ?_; (with_reducible refine (spec_l20Open.calls _ _ l0 t453 t454 w _ ?q1 ?q2 ?q3 A2.out).mono ?_); (case q1 => repeat (first | (with_reducible first | exact HB.out | apply below_alloc | apply pw_below_drewN | apply below_drew1 | refine below_set ?_ GE452.out) | exact HB.out)); (case q2 => exact HR0.out); (case q3 => exact HC0.out); rintro e w5 ⟨g455, rfl, hi, hb, hb2⟩; refine ⟨_, rfl, ?_⟩; replace HB := Aside0.mk (hb); have HI455 := Aside0.mk (hi); have NB455_452 := Aside0.mk (IsS56.ne_blk hi (blk_below (g := gb452) (o := .cells #[.int .i64 0, .slice none 0 0] 25 (0, 0)) (Z.bk BK452.out) hb2) (by decide)); have NB452_455 := Aside0.mk (Ne.symm (IsS56.ne_blk hi (blk_below (g := gb452) (o := .cells #[.int .i64 0, .slice none 0 0] 25 (0, 0)) (Z.bk BK452.out) hb2) (by decide))); replace BK452 := Aside0.mk (blk_below (g := gb452) (o := .cells #[.int .i64 0, .slice none 0 0] 25 (0, 0)) (Z.bk BK452.out) hb2); (try clear hb); (try clear hb2); (try clear hk); (try clear hi)) | ((with_reducible refine gate_callee (f := 18) rfl ?_); refine goesL_ (some 7) rfl rfl Try.func18 (by kernel_rfl) rfl #[.pointer (some ⟨g455, 0, none⟩)] rfl Z.ar ?_; (with_reducible refine (spec_l20Whose.calls k g455 t453 t454 t456 t457 t460 t463 t464 w _ ?q1 ?q2 A3.out).mono ?_); (case q1 => repeat (first | (with_reducible first | exact HI455.out | apply IsS56.alloc | apply IsS56.drewN | apply IsS56.drew | apply IsS56.set_1 | refine IsS56.far ?_ NB455_452.out _) | exact HI455.out)); (case q2 => repeat (first | (with_reducible first | exact HB.out | apply below_alloc | apply pw_below_drewN | apply below_drew1 | refine below_set ?_ (IsS56.ge HI455.out) | refine below_set ?_ GE452.out) | exact HB.out)); rintro e w6 ⟨v458, v461, rfl, ho0, ho1, hi, hb, hk⟩; refine ⟨_, rfl, ?_⟩; have HO459 := Aside0.mk (Kd.R_lower (Kd.R_newM (M := fun k_ => (w.heap.size ≤ k_)) (Kd.R_mono (ok' := fun k_ => True) ho0 (fun _ hk_ => trivial)) (below_size (by repeat (first | (with_reducible first | exact HB.out | apply below_alloc | apply pw_below_drewN | apply below_drew1 | refine below_set ?_ (IsS56.ge HI455.out) | refine below_set ?_ GE452.out) | exact HB.out))) (fun k_ h_ => h_)) (below_size (by repeat (first | (with_reducible first | exact HB.out | apply below_alloc | apply pw_below_drewN | apply below_drew1 | refine below_set ?_ (IsS56.ge HI455.out) | refine below_set ?_ GE452.out) | exact HB.out)))); have HO462 := Aside0.mk (Kd.V_lower (Kd.V_mono (ok' := fun k_ => (w.heap.size ≤ k_) ∧ some k_ ≠ (v458 : Value).ownBlock ∧ k_ ≠ gb452 ∧ k_ ≠ g455) ho1 (fun k_ hk_ => ⟨(Nat.le_trans (below_size (by repeat (first | (with_reducible first | exact HB.out | apply below_alloc | apply pw_below_drewN | apply below_drew1 | refine below_set ?_ (IsS56.ge HI455.out) | refine below_set ?_ GE452.out) | exact HB.out))) hk_.1), hk_.2, (Kd.freshB (g := gb452) (o := .cells #[.int .i64 0, .slice none 0 0] 25 (0, 0)) (Z.bk BK452.out) k_ hk_.1), (IsS56.fresh (by repeat (first | (with_reducible first | exact HI455.out | apply IsS56.alloc | apply IsS56.drewN | apply IsS56.drew | apply IsS56.set_1 | refine IsS56.far ?_ NB455_452.out _) | exact HI455.out)) k_ hk_.1)⟩)) (below_size (by repeat (first | (with_reducible first | exact HB.out | apply below_alloc | apply pw_below_drewN | apply below_drew1 | refine below_set ?_ (IsS56.ge HI455.out) | refine below_set ?_ GE452.out) | exact HB.out)))); replace BK452 := Aside0.mk (KeepBut.blk hk (g' := gb452) (o := .cells #[.int .i64 0, .slice none 0 0] 25 (0, 0)) (Z.bk BK452.out) NB452_455.out (by simp)); replace HB := Aside0.mk (hb); replace HI455 := Aside0.mk (hi); (try clear hb); (try clear hb2); (try clear hk); (try clear hi); (try clear ho0); (try clear ho1); have hnb7 := NB452_455.out; have hnc7 := NB455_452.out; have hcz8 := Z.c2 BK452.out; obtain ⟨Ao9, co9, eo9⟩ := Kd.R_slice HO459.out; subst eo9))
 refine bodyPost_ret (results_ctt rfl _ _ gb452 25 #[.int .i64 t456, .slice Ao9 t457.length co9] (0, 0) _ rfl (by (with_reducible repeat (first | refine blk_drewN ?_ _ | refine blk_drew ?_ | refine blk_alloc ?_ _)); refine blk_put (cs := #[.int .i64 t456, .slice none 0 0]) ?_ 1 _ rfl; (with_reducible repeat (first | refine blk_drewN ?_ _ | refine blk_drew ?_ | refine blk_alloc ?_ _)); refine blk_put (cs := #[.int .i64 0, .slice none 0 0]) ?_ 0 _ rfl; (with_reducible repeat (first | refine blk_drewN ?_ _ | refine blk_drew ?_ | refine blk_alloc ?_ _)); exact BK452.out) Try.underlying25 rfl (by kernel_rfl)) rfl ?_
 exact ⟨_, _, by first | rfl | (simp [errW_none, errW_some] <;> rfl) | (simp [*, errW_none, errW_some] <;> rfl), by (with_reducible repeat (first | apply Kd.R_alloc | apply Kd.R_drewN | apply Kd.R_drew)); exact Kd.R_mono (Kd.R_far (p := ⟨gb452, 1, none⟩) (Kd.R_far (p := ⟨gb452, 0, none⟩) (Kd.R_types HO459.out BK452.out (by decide)) (fun _ hk => hk.2) (.int .i64 t456)) (fun _ hk => hk.2) (.slice Ao9 t457.length co9)) (fun _ hk => hk.1.1), by (with_reducible repeat (first | apply Kd.V_alloc | apply Kd.V_drewN | apply Kd.V_drew)); exact Kd.V_mono (Kd.V_far (p := ⟨gb452, 1, none⟩) (Kd.V_far (p := ⟨gb452, 0, none⟩) (Kd.V_mono HO462.out (fun k_ hk => (⟨hk, hk.2.2.1⟩ : _ ∧ k_ ≠ gb452))) (fun _ hk => hk.2) (.int .i64 t456)) (fun _ hk => hk.2) (.slice Ao9 t457.length co9)) (fun _ hk => ⟨hk.1.1, hk.1.2.1⟩), by repeat (first | (with_reducible first | exact HB.out | apply below_alloc | apply pw_below_drewN | apply below_drew1 | refine below_set ?_ (IsS56.ge HI455.out) | refine below_set ?_ GE452.out) | exact HB.out)⟩

/-! ### impl_SwingsOf: function 12 -/
def impl_SwingsOf.f (k : Nat) (a0_0 : Int) (l0_1 : List Int) (l1 : List (S35)) (a2 : Int) : Option (Int) := (impl_isTerm.f k a0_0 l0_1 l1).bind fun t466 => (if t466 = true then (if a2 < 0 then (some (-1)) else (if a2 ≥ a0_0 then (some (-1)) else ((impl_swingsOf.f k a0_0 l0_1 l1 a2).bind fun t467 => (some (t467.length : Int))))) else (some (-1)))
set_option maxHeartbeats 8000000 in
set_option maxRecDepth 100000 in
theorem impl_SwingsOf.calls (k : Nat) (a0_0 : Int) (A0_1 : Option Addr) (c0_1 : Nat) (l0_1 : List Int) (A1 : Option Addr) (c1 : Nat) (l1 : List (S35)) (a2 : Int) (r : Int) (w : World) (hr0_1 : Kd.C (Kd.int .i64) w A0_1 l0_1.length l0_1) (hc0_1 : l0_1.length ≤ c0_1) (hr1 : Kd.C k35 w A1 l1.length l1) (hc1 : l1.length ≤ c1) (h : impl_SwingsOf.f k a0_0 l0_1 l1 a2 = some r) :
  Calls Try.prog 12 #[.agg #[.int .i64 a0_0, .slice A0_1 l0_1.length c0_1], .slice A1 l1.length c1, .int .i64 a2] w fun e w' => e = .returned (.int .i64 r) ∧ Below w.heap.size w w' := by
 have hu25 := Try.underlying25
 have HR0_1 := Aside0.mk hr0_1
 have HC0_1 := Aside0.mk hc0_1
 clear hr0_1 hc0_1
 have HR1 := Aside0.mk hr1
 have HC1 := Aside0.mk hc1
 clear hr1 hc1
 have HB := Aside0.mk (Below.refl w.heap.size w)
 have H := h
 clear h
 unfold impl_SwingsOf.f at H
 replace H := Option.bind_eq_some_iff.mp H
 obtain ⟨t466, A40, H⟩ := H
 try dsimp only at H
 have A4 := Aside0.mk A40
 clear A40
 by_cases c5 : t466 = true
 ·subst c5
  rw [if_pos rfl] at H
  by_cases c6 : a2 < 0
  ·rw [if_pos c6] at H
   have c6b0 := decide_eq_true c6
   clear c6
   obtain rfl := Option.some.inj H
   go_enter Try.func12, Try.ntmps12
   go_wp2_with (first | ((with_reducible refine gate_dst (N := 3) rfl ?_); refine Z.bx #[.int .i64 a0_0, .slice A0_1 l0_1.length c0_1] 25 HB ?_; clear HB; intro gb465 w7 BK465 GE465 HB hg hb; have GW465 := GE465; clear hb hg; have hcz8 := Z.c2 BK465.out) | ((with_reducible refine gate_callee (f := 20) rfl ?_); refine goesL_ (some 9) rfl rfl Try.func20 (by kernel_rfl) rfl #[.agg #[.int .i64 a0_0, .slice A0_1 l0_1.length c0_1], .slice A1 l1.length c1] rfl Z.ar ?_; (with_reducible refine (impl_isTerm.calls k a0_0 _ _ l0_1 _ _ l1 true _ ?q1 ?q2 ?q3 ?q4 A4.out).mono ?_); (case q1 => exact Z.cc HR0_1 HB); (case q2 => exact HC0_1.out); (case q3 => exact Z.cc HR1 HB); (case q4 => exact HC1.out); rintro e w9 ⟨rfl, hb⟩; refine ⟨_, rfl, ?_⟩; replace BK465 := Z.bb BK465 hb; replace HB := Z.st (Z.bs HB.out GE465.out) hb; (try clear hb); (try clear hb2); (try clear hk); (try clear hi)))
   go_ret
   exact ⟨by first | rfl | (simp [errW_none, errW_some] <;> rfl) | (simp [*, errW_none, errW_some] <;> rfl), Z.bs HB.out GE465.out⟩
  ·rw [if_neg c6] at H
   have c6b0 := decide_eq_false c6
   clear c6
   by_cases c10 : a2 ≥ a0_0
   ·rw [if_pos c10] at H
    have c10b0 : decide (a0_0 ≤ a2) = true := decide_eq_true c10
    clear c10
    obtain rfl := Option.some.inj H
    go_enter Try.func12, Try.ntmps12
    go_wp2_with (first | ((with_reducible refine gate_dst (N := 3) rfl ?_); refine Z.bx #[.int .i64 a0_0, .slice A0_1 l0_1.length c0_1] 25 HB ?_; clear HB; intro gb465 w11 BK465 GE465 HB hg hb; have GW465 := GE465; clear hb hg; have hcz12 := Z.c2 BK465.out) | ((with_reducible refine gate_callee (f := 20) rfl ?_); refine goesL_ (some 9) rfl rfl Try.func20 (by kernel_rfl) rfl #[.agg #[.int .i64 a0_0, .slice A0_1 l0_1.length c0_1], .slice A1 l1.length c1] rfl Z.ar ?_; (with_reducible refine (impl_isTerm.calls k a0_0 _ _ l0_1 _ _ l1 true _ ?q1 ?q2 ?q3 ?q4 A4.out).mono ?_); (case q1 => exact Z.cc HR0_1 HB); (case q2 => exact HC0_1.out); (case q3 => exact Z.cc HR1 HB); (case q4 => exact HC1.out); rintro e w13 ⟨rfl, hb⟩; refine ⟨_, rfl, ?_⟩; replace BK465 := Z.bb BK465 hb; replace HB := Z.st (Z.bs HB.out GE465.out) hb; (try clear hb); (try clear hb2); (try clear hk); (try clear hi); have hcz14 := Z.c2 BK465.out))
    go_ret
    exact ⟨by first | rfl | (simp [errW_none, errW_some] <;> rfl) | (simp [*, errW_none, errW_some] <;> rfl), Z.bs HB.out GE465.out⟩
   ·rw [if_neg c10] at H
    have c10b0 : decide (a0_0 ≤ a2) = false := decide_eq_false c10
    clear c10
    replace H := Option.bind_eq_some_iff.mp H
    obtain ⟨t467, A150, H⟩ := H
    try dsimp only at H
    have A15 := Aside0.mk A150
    clear A150
    obtain rfl := Option.some.inj H
    go_enter Try.func12, Try.ntmps12
    go_wp2_with (first | ((with_reducible refine gate_dst (N := 3) rfl ?_); refine Z.bx #[.int .i64 a0_0, .slice A0_1 l0_1.length c0_1] 25 HB ?_; clear HB; intro gb465 w16 BK465 GE465 HB hg hb; have GW465 := GE465; clear hb hg; have hcz17 := Z.c2 BK465.out) | ((with_reducible refine gate_callee (f := 20) rfl ?_); refine goesL_ (some 9) rfl rfl Try.func20 (by kernel_rfl) rfl #[.agg #[.int .i64 a0_0, .slice A0_1 l0_1.length c0_1], .slice A1 l1.length c1] rfl Z.ar ?_; (with_reducible refine (impl_isTerm.calls k a0_0 _ _ l0_1 _ _ l1 true _ ?q1 ?q2 ?q3 ?q4 A4.out).mono ?_); (case q1 => exact Z.cc HR0_1 HB); (case q2 => exact HC0_1.out); (case q3 => exact Z.cc HR1 HB); (case q4 => exact HC1.out); rintro e w18 ⟨rfl, hb⟩; refine ⟨_, rfl, ?_⟩; replace BK465 := Z.bb BK465 hb; replace HB := Z.st (Z.bs HB.out GE465.out) hb; (try clear hb); (try clear hb2); (try clear hk); (try clear hi); have hcz19 := Z.c2 BK465.out) | ((with_reducible refine gate_callee (f := 21) rfl ?_); refine goesL_ (some 24) rfl rfl Try.func21 (by kernel_rfl) rfl #[.agg #[.int .i64 a0_0, .slice A0_1 l0_1.length c0_1], .slice A1 l1.length c1, .int .i64 a2] rfl Z.ar ?_; (with_reducible refine (impl_swingsOf.calls k a0_0 _ _ l0_1 _ _ l1 a2 t467 _ ?q1 ?q2 ?q3 ?q4 A15.out).mono ?_); (case q1 => exact Z.cc HR0_1 HB); (case q2 => exact HC0_1.out); (case q3 => exact Z.cc HR1 HB); (case q4 => exact HC1.out); rintro e w20 ⟨v468, rfl, ho0, hb⟩; refine ⟨_, rfl, ?_⟩; have HO469 := Aside0.mk (Kd.R_lower ho0 (below_size (Z.bs HB.out GE465.out))); replace BK465 := Z.bb BK465 hb; replace HB := Z.st (Z.bs HB.out GE465.out) hb; (try clear hb); (try clear hb2); (try clear hk); (try clear hi); (try clear ho0); obtain ⟨Ao21, co21, eo21⟩ := Kd.R_slice HO469.out; subst eo21))
    go_ret
    exact ⟨by first | rfl | (simp [errW_none, errW_some] <;> rfl) | (simp [*, errW_none, errW_some] <;> rfl), Z.bs HB.out GE465.out⟩
 ·replace c5 := Bool.eq_false_iff.mpr c5
  subst c5
  rw [if_neg (show ¬ (false = true) by decide)] at H
  obtain rfl := Option.some.inj H
  go_enter Try.func12, Try.ntmps12
  go_wp2_with (first | ((with_reducible refine gate_dst (N := 3) rfl ?_); refine Z.bx #[.int .i64 a0_0, .slice A0_1 l0_1.length c0_1] 25 HB ?_; clear HB; intro gb465 w22 BK465 GE465 HB hg hb; have GW465 := GE465; clear hb hg; have hcz23 := Z.c2 BK465.out) | ((with_reducible refine gate_callee (f := 20) rfl ?_); refine goesL_ (some 9) rfl rfl Try.func20 (by kernel_rfl) rfl #[.agg #[.int .i64 a0_0, .slice A0_1 l0_1.length c0_1], .slice A1 l1.length c1] rfl Z.ar ?_; (with_reducible refine (impl_isTerm.calls k a0_0 _ _ l0_1 _ _ l1 false _ ?q1 ?q2 ?q3 ?q4 A4.out).mono ?_); (case q1 => exact Z.cc HR0_1 HB); (case q2 => exact HC0_1.out); (case q3 => exact Z.cc HR1 HB); (case q4 => exact HC1.out); rintro e w24 ⟨rfl, hb⟩; refine ⟨_, rfl, ?_⟩; replace BK465 := Z.bb BK465 hb; replace HB := Z.st (Z.bs HB.out GE465.out) hb; (try clear hb); (try clear hb2); (try clear hk); (try clear hi)))
  go_ret
  exact ⟨by first | rfl | (simp [errW_none, errW_some] <;> rfl) | (simp [*, errW_none, errW_some] <;> rfl), Z.bs HB.out GE465.out⟩

end Go.Proofs.Ytenjngocdinfmaa.PAll

/- Walks of functions that All reaches, in the form of the print. -/
-- PRINTED
import Derived.Test.YtenjngocdinfmaaCAll3
import Derived.Test.YtenjngocdinfmaaCAll12
import Derived.Test.YtenjngocdinfmaaCAll14
namespace Go.Proofs.Ytenjngocdinfmaa.PAll
open Go.RowKit Go.Proofs.YtenjngocdinfmaaW.PrintWords Go.Proofs.YtenjngocdinfmaaW.PrintLast Go.Proofs.YtenjngocdinfmaaW.PrintMore
attribute [local go_sem] max2_int min2_int max_two min_two max_three min_three max_four min_four
set_option linter.unusedVariables false
set_option linter.unusedSimpArgs false

/-! ### laws_FnPivotsByOrders: function 3 -/
mutual
def laws_FnPivotsByOrders.j0 : Nat → List (S35) → Int → Int → Bool → Int → List Int → Option (Bool)
 | 0, _, _, _, _, _, _ => none
 | k + 1, x4, x5, x6, x39, x441000, x441001 => if x39 = true then (if x6 ≥ (-1) then ((laws_alive.f).bind fun t443 => (some t443)) else (some false)) else (laws_FnPivotsByOrders.l0 k x4 x5 x6 1 0 x441000 x441001)
def laws_FnPivotsByOrders.l0 : Nat → List (S35) → Int → Int → Int → Int → Int → List Int → Option (Bool)
 | 0, _, _, _, _, _, _, _ => none
 | k + 1, x4, x5, x6, x7, x8, x441000, x441001 => if x8 < x441000 then (laws_FnPivotsByOrders.l0 k x4 x5 x6 (wrap64 (x7 * x441000)) (wrap64 (x8 + 1)) x441000 x441001) else (laws_FnPivotsByOrders.l1 k x4 x5 x6 x7 0 0 x441000 x441001)
def laws_FnPivotsByOrders.l1 : Nat → List (S35) → Int → Int → Int → Int → Int → Int → List Int → Option (Bool)
 | 0, _, _, _, _, _, _, _, _ => none
 | k + 1, x4, x5, x6, x7, x9, x10, x441000, x441001 => if x10 < x7 then (laws_FnPivotsByOrders.l2 k x4 x5 x6 x7 x9 x10 (([] : List Int)) x10 0 x441000 x441001) else ((laws_alive.f).bind fun t444 => (if t444 = true then (some (x9 == x6)) else (some false)))
def laws_FnPivotsByOrders.l2 : Nat → List (S35) → Int → Int → Int → Int → Int → List Int → Int → Int → Int → List Int → Option (Bool)
 | 0, _, _, _, _, _, _, _, _, _, _, _ => none
 | k + 1, x4, x5, x6, x7, x9, x10, x11, x12, x13, x441000, x441001 => if x13 < x441000 then (if x441000 = 0 then (none) else (if x11.length < 17592186044416 then (laws_FnPivotsByOrders.l2 k x4 x5 x6 x7 x9 x10 (x11 ++ [Int.tmod x12 x441000]) (wrap64 (Int.tdiv x12 x441000)) (wrap64 (x13 + 1)) x441000 x441001) else (none))) else ((impl_PivotIn.f k x441000 x441001 x4 x11).bind fun t451 => (if t451 = x5 then (laws_FnPivotsByOrders.l1 k x4 x5 x6 x7 (wrap64 (x9 + 1)) (wrap64 (x10 + 1)) x441000 x441001) else (laws_FnPivotsByOrders.l1 k x4 x5 x6 x7 x9 (wrap64 (x10 + 1)) x441000 x441001)))
end
def laws_FnPivotsByOrders.f (k : Nat) (l0 : List Int) : Option (Bool) := if (l0.length : Int) > 1048576 then (some true) else ((spec_DrawPivotsOf.f k l0).bind fun bt432 => ((impl_PivotsOf.f k bt432.1 bt432.2.1 bt432.2.2.1 bt432.2.2.2).bind fun t441 => (if t441 < 0 then (laws_FnPivotsByOrders.j0 k bt432.2.2.1 bt432.2.2.2 t441 true bt432.1 bt432.2.1) else ((spec_TermOk.f k bt432.1 bt432.2.1 bt432.2.2.1).bind fun t442 => (if t442 = true then (laws_FnPivotsByOrders.j0 k bt432.2.2.1 bt432.2.2.2 t441 (decide (bt432.1 > 4)) bt432.1 bt432.2.1) else (laws_FnPivotsByOrders.j0 k bt432.2.2.1 bt432.2.2.2 t441 true bt432.1 bt432.2.1))))))
set_option maxHeartbeats 8000000 in
set_option maxRecDepth 100000 in
theorem laws_FnPivotsByOrders.calls (k : Nat) (A0 : Option Addr) (c0 : Nat) (l0 : List Int) (r : Bool) (w : World) (hr0 : Kd.C (Kd.int .u8) w A0 l0.length l0) (hc0 : l0.length ≤ c0) (h : laws_FnPivotsByOrders.f k l0 = some r) :
  Calls Try.prog 3 #[.slice A0 l0.length c0] w fun e w' => e = .returned (.bool r) ∧ Below w.heap.size w w' := by
 have hu25 := Try.underlying25
 have HR0 := Aside0.mk hr0
 have HC0 := Aside0.mk hc0
 clear hr0 hc0
 have HB := Aside0.mk (Below.refl w.heap.size w)
 have H := h
 clear h
 unfold laws_FnPivotsByOrders.f at H
 by_cases c2 : (l0.length : Int) > 1048576
 ·rw [if_pos c2] at H
  have c2b0 : decide (1048576 < (l0.length : Int)) = true := decide_eq_true c2
  have c2b1 : decide (1048576 < l0.length) = true := decide_eq_true (by omega)
  clear c2
  obtain rfl := Option.some.inj H
  go_enter Try.func3, Try.ntmps3
  go_wp2
  go_ret
  exact ⟨by first | rfl | (simp [errW_none, errW_some] <;> rfl) | (simp [*, errW_none, errW_some] <;> rfl), Z.bl HB.out⟩
 ·rw [if_neg c2] at H
  have c2b0 : decide (1048576 < (l0.length : Int)) = false := decide_eq_false c2
  have c2b1 : decide (1048576 < l0.length) = false := decide_eq_false (by omega)
  clear c2
  replace H := Option.bind_eq_some_iff.mp H
  obtain ⟨⟨t432, t433, t436, t439⟩, A30, H⟩ := H
  try dsimp only at H
  have A3 := Aside0.mk A30
  clear A30
  replace H := Option.bind_eq_some_iff.mp H
  obtain ⟨t441, A40, H⟩ := H
  try dsimp only at H
  have A4 := Aside0.mk A40
  clear A40
  have HC5 := Aside0.mk H
  clear H
  go_enter Try.func3, Try.ntmps3
  go_upto_region 5 with (first | ((with_reducible refine gate_callee (f := 6) rfl ?_); refine goesL_ (some 19) rfl rfl Try.func6 (by kernel_rfl) rfl #[.slice A0 l0.length c0] rfl Z.ar ?_; (with_reducible refine (spec_DrawPivotsOf.calls k _ _ l0 t432 t433 t436 t439 _ ?q1 ?q2 A3.out).mono ?_); (case q1 => repeat (first | exact HR0.out | (with_reducible refine Kd.C_alloc ?_ _) | (with_reducible refine Kd.C_drewN ?_ _) | (with_reducible refine Kd.C_drew ?_))); (case q2 => exact HC0.out); rintro e w6 ⟨v434, v437, rfl, ho0, ho1, hb⟩; refine ⟨_, rfl, ?_⟩; have HO435 := Aside0.mk (Kd.R_lower (Kd.R_mono (ok' := fun k_ => True) ho0 (fun _ hk_ => trivial)) (below_size (Z.bl HB.out))); have HO438 := Aside0.mk (Kd.V_lower (Kd.V_mono (ok' := fun k_ => some k_ ≠ (v434 : Value).ownBlock) ho1 (fun k_ hk_ => hk_.2)) (below_size (Z.bl HB.out))); replace HB := Z.st (Z.bl HB.out) hb; (try clear hb); (try clear hb2); (try clear hk); (try clear hi); (try clear ho0); (try clear ho1)) | ((with_reducible refine gate_dst (N := 3) rfl ?_); refine Z.bx #[.int .i64 0, .slice none 0 0] 25 HB ?_; clear HB; intro gb440 w7 BK440 GE440 HB hg hb; have GW440 := GE440; replace HO435 := Aside0.mk (Kd.R_below (by (with_reducible repeat (first | apply Kd.R_alloc | apply Kd.R_drewN | apply Kd.R_drew)); exact HO435.out) hb); replace HO438 := Aside0.mk (Kd.V_below (Kd.V_elderB (by (with_reducible repeat (first | apply Kd.V_alloc | apply Kd.V_drewN | apply Kd.V_drew)); exact HO438.out) gb440 (Nat.le_of_eq hg.symm)) hb); clear hb hg; have hcz8 := Z.c2 BK440.out; obtain ⟨Ao9, co9, eo9⟩ := Kd.R_slice HO435.out; subst eo9; obtain ⟨Ao10, co10, eo10⟩ := Kd.V_slice HO438.out; subst eo10) | ((with_reducible refine gate_callee (f := 7) rfl ?_); refine goesL_ (some 26) rfl rfl Try.func7 (by kernel_rfl) rfl #[.agg #[.int .i64 t432, .slice Ao9 t433.length co9], .slice Ao10 t436.length co10, .int .i64 t439] rfl Z.ar ?_; (with_reducible refine (impl_PivotsOf.calls k t432 _ _ t433 _ _ t436 t439 t441 _ ?q1 ?q2 ?q3 ?q4 A4.out).mono ?_); (case q1 => refine (Kd.R_reads' (e := 3) (base := w.heap.size) (ok := fun k_ => True) (n := t433.length) (c := co9) ?_).2.2; exact (by (with_reducible repeat (first | apply Kd.R_alloc | apply Kd.R_drewN | apply Kd.R_drew)); exact (Kd.R_mono (Kd.R_far (p := ⟨gb440, 1, none⟩) (Kd.R_far (p := ⟨gb440, 0, none⟩) (Kd.R_types HO435.out BK440.out (by decide)) (fun _ hk => hk.2) (.int .i64 t432)) (fun _ hk => hk.2) (.slice Ao9 t433.length co9)) (fun _ h_ => h_.1)))); (case q2 => exact (Kd.R_reads' HO435.out).2.1); (case q3 => refine (Kd.V_reads' (e := 35) (base := w.heap.size) (ok := fun k_ => (some k_ ≠ (.slice Ao9 t433.length co9 : Value).ownBlock ∧ k_ ≠ gb440)) (n := t436.length) (c := co10) ?_).2.2; exact (by (with_reducible repeat (first | apply Kd.V_alloc | apply Kd.V_drewN | apply Kd.V_drew)); exact (Kd.V_mono (Kd.V_far (p := ⟨gb440, 1, none⟩) (Kd.V_far (p := ⟨gb440, 0, none⟩) (Kd.V_mono HO438.out (fun k_ hk => (⟨hk, hk.2⟩ : _ ∧ k_ ≠ gb440))) (fun _ hk => hk.2) (.int .i64 t432)) (fun _ hk => hk.2) (.slice Ao9 t433.length co9)) (fun _ h_ => h_.1)))); (case q4 => exact (Kd.V_reads' HO438.out).2.1); rintro e w11 ⟨rfl, hb⟩; refine ⟨_, rfl, ?_⟩; replace HO435 := Aside0.mk (Kd.R_below (by (with_reducible repeat (first | apply Kd.R_alloc | apply Kd.R_drewN | apply Kd.R_drew)); exact (Kd.R_mono (Kd.R_far (p := ⟨gb440, 1, none⟩) (Kd.R_far (p := ⟨gb440, 0, none⟩) (Kd.R_types HO435.out BK440.out (by decide)) (fun _ hk => hk.2) (.int .i64 t432)) (fun _ hk => hk.2) (.slice Ao9 t433.length co9)) (fun _ h_ => h_.1))) hb); replace HO438 := Aside0.mk (Kd.V_below (by (with_reducible repeat (first | apply Kd.V_alloc | apply Kd.V_drewN | apply Kd.V_drew)); exact (Kd.V_mono (Kd.V_far (p := ⟨gb440, 1, none⟩) (Kd.V_far (p := ⟨gb440, 0, none⟩) (Kd.V_mono HO438.out (fun k_ hk => (⟨hk, hk.2⟩ : _ ∧ k_ ≠ gb440))) (fun _ hk => hk.2) (.int .i64 t432)) (fun _ hk => hk.2) (.slice Ao9 t433.length co9)) (fun _ h_ => h_.1))) hb); replace BK440 := Aside0.mk (blk_below (g := gb440) (o := .cells #[.int .i64 t432, .slice Ao9 t433.length co9] 25 (0, 0)) (by (with_reducible repeat (first | refine blk_drewN ?_ _ | refine blk_drew ?_ | refine blk_alloc ?_ _)); refine blk_put (cs := #[.int .i64 t432, .slice none 0 0]) ?_ 1 _ rfl; (with_reducible repeat (first | refine blk_drewN ?_ _ | refine blk_drew ?_ | refine blk_alloc ?_ _)); refine blk_put (cs := #[.int .i64 0, .slice none 0 0]) ?_ 0 _ rfl; (with_reducible repeat (first | refine blk_drewN ?_ _ | refine blk_drew ?_ | refine blk_alloc ?_ _)); exact BK440.out) hb); replace HB := Z.st (Z.bs HB.out GE440.out) hb; (try clear hb); (try clear hb2); (try clear hk); (try clear hi)))
  (try simp only [Act.put, List.setIfInBounds_toArray, List.set_cons_zero, List.set_cons_succ])
  go_cut [39] (fun v39 wc => ∃ (kq : Nat) (x39_4 : Bool), v39 = .bool x39_4 ∧ Aside0 (laws_FnPivotsByOrders.j0 kq t436 t439 t441 x39_4 t432 t433 = some r) ∧ Aside0 (kq ≤ k) ∧ Aside0 (Kd.V k35 35 wc w.heap.size (fun k_ => some k_ ≠ ((.slice Ao9 t433.length co9) : Value).ownBlock ∧ k_ ≠ gb440) (.slice Ao10 t436.length co10) t436) ∧ Aside0 (Kd.R (Kd.int .i64) 3 wc w.heap.size (fun _ => True) (.slice Ao9 t433.length co9) t433) ∧ Aside0 (wc.heap[gb440]? = some (.cells #[.int .i64 t432, (.slice Ao9 t433.length co9)] 25 (0, 0))) ∧ Aside0 (Below w.heap.size w wc))
  case first =>
   have H := HC5.out
   clear HC5
   by_cases c12 : t441 < 0
   ·rw [if_pos c12] at H
    have c12b0 := decide_eq_true c12
    clear c12
    (first | rw [c12b0] | (simp only [i64_w, i32_w]; rw [c12b0]) | skip)
    have H' := Aside0.mk H
    clear H
    go_wp2
    go_meet
    case rel => exact ⟨_, (true), (by first | rfl | (simp; done) | (simp [*]; done)), H', ⟨by first | omega | exact Nat.le_refl _⟩, ⟨by (with_reducible repeat (first | apply Kd.V_alloc | apply Kd.V_drewN | apply Kd.V_drew)); exact HO438.out⟩, ⟨by (with_reducible repeat (first | apply Kd.R_alloc | apply Kd.R_drewN | apply Kd.R_drew)); exact HO435.out⟩, ⟨by (with_reducible repeat (first | refine blk_drewN ?_ _ | refine blk_drew ?_ | refine blk_alloc ?_ _)); exact BK440.out⟩, ⟨Z.bs HB.out GE440.out⟩⟩
   ·rw [if_neg c12] at H
    have c12b0 := decide_eq_false c12
    clear c12
    (first | rw [c12b0] | (simp only [i64_w, i32_w]; rw [c12b0]) | skip)
    replace H := Option.bind_eq_some_iff.mp H
    obtain ⟨t442, A130, H⟩ := H
    try dsimp only at H
    have A13 := Aside0.mk A130
    clear A130
    by_cases c14 : t442 = true
    ·subst c14
     rw [if_pos rfl] at H
     have H' := Aside0.mk H
     clear H
     have hcz15 := Z.c2 BK440.out
     go_wp2_with (first | (go_at_call 8; (with_reducible refine (spec_TermOk.calls k t432 _ _ t433 _ _ t436 true _ ?q1 ?q2 ?q3 ?q4 A13.out).mono ?_); (case q1 => repeat (first | exact (Kd.R_reads' HO435.out).2.2 | (with_reducible refine Kd.C_alloc ?_ _) | (with_reducible refine Kd.C_drewN ?_ _) | (with_reducible refine Kd.C_drew ?_))); (case q2 => exact (Kd.R_reads' HO435.out).2.1); (case q3 => repeat (first | exact (Kd.V_reads' HO438.out).2.2 | (with_reducible refine Kd.C_alloc ?_ _) | (with_reducible refine Kd.C_drewN ?_ _) | (with_reducible refine Kd.C_drew ?_))); (case q4 => exact (Kd.V_reads' HO438.out).2.1); rintro e w16 ⟨rfl, hb⟩; replace HO435 := Aside0.mk (Kd.R_below (by (with_reducible repeat (first | apply Kd.R_alloc | apply Kd.R_drewN | apply Kd.R_drew)); exact HO435.out) hb); replace HO438 := Aside0.mk (Kd.V_below (by (with_reducible repeat (first | apply Kd.V_alloc | apply Kd.V_drewN | apply Kd.V_drew)); exact HO438.out) hb); replace BK440 := Z.bb BK440 hb; replace HB := Z.st (Z.bs HB.out GE440.out) hb; (try clear hb); (try clear hb2); (try clear hk); (try clear hi); have hcz17 := Z.c2 BK440.out))
     go_meet
     case rel => exact ⟨_, (decide (t432 > 4)), (by first | rfl | (simp; done) | (simp [*]; done)), H', ⟨by first | omega | exact Nat.le_refl _⟩, ⟨by (with_reducible repeat (first | apply Kd.V_alloc | apply Kd.V_drewN | apply Kd.V_drew)); exact HO438.out⟩, ⟨by (with_reducible repeat (first | apply Kd.R_alloc | apply Kd.R_drewN | apply Kd.R_drew)); exact HO435.out⟩, ⟨by (with_reducible repeat (first | refine blk_drewN ?_ _ | refine blk_drew ?_ | refine blk_alloc ?_ _)); exact BK440.out⟩, ⟨Z.bs HB.out GE440.out⟩⟩
    ·replace c14 := Bool.eq_false_iff.mpr c14
     subst c14
     rw [if_neg (show ¬ (false = true) by decide)] at H
     have H' := Aside0.mk H
     clear H
     have hcz18 := Z.c2 BK440.out
     go_wp2_with (first | (go_at_call 8; (with_reducible refine (spec_TermOk.calls k t432 _ _ t433 _ _ t436 false _ ?q1 ?q2 ?q3 ?q4 A13.out).mono ?_); (case q1 => repeat (first | exact (Kd.R_reads' HO435.out).2.2 | (with_reducible refine Kd.C_alloc ?_ _) | (with_reducible refine Kd.C_drewN ?_ _) | (with_reducible refine Kd.C_drew ?_))); (case q2 => exact (Kd.R_reads' HO435.out).2.1); (case q3 => repeat (first | exact (Kd.V_reads' HO438.out).2.2 | (with_reducible refine Kd.C_alloc ?_ _) | (with_reducible refine Kd.C_drewN ?_ _) | (with_reducible refine Kd.C_drew ?_))); (case q4 => exact (Kd.V_reads' HO438.out).2.1); rintro e w19 ⟨rfl, hb⟩; replace HO435 := Aside0.mk (Kd.R_below (by (with_reducible repeat (first | apply Kd.R_alloc | apply Kd.R_drewN | apply Kd.R_drew)); exact HO435.out) hb); replace HO438 := Aside0.mk (Kd.V_below (by (with_reducible repeat (first | apply Kd.V_alloc | apply Kd.V_drewN | apply Kd.V_drew)); exact HO438.out) hb); replace BK440 := Z.bb BK440 hb; replace HB := Z.st (Z.bs HB.out GE440.out) hb; (try clear hb); (try clear hb2); (try clear hk); (try clear hi)))
     go_meet
     case rel => exact ⟨_, (true), (by first | rfl | (simp; done) | (simp [*]; done)), H', ⟨by first | omega | exact Nat.le_refl _⟩, ⟨by (with_reducible repeat (first | apply Kd.V_alloc | apply Kd.V_drewN | apply Kd.V_drew)); exact HO438.out⟩, ⟨by (with_reducible repeat (first | apply Kd.R_alloc | apply Kd.R_drewN | apply Kd.R_drew)); exact HO435.out⟩, ⟨by (with_reducible repeat (first | refine blk_drewN ?_ _ | refine blk_drew ?_ | refine blk_alloc ?_ _)); exact BK440.out⟩, ⟨Z.bs HB.out GE440.out⟩⟩
  case rest =>
   clear HC5
   try clear c1
   try clear c2
   try clear c2b0
   try clear c2b1
   try clear p2
   try clear c3
   try clear c6
   try clear c7
   try clear c12
   try clear c12b0
   try clear c14
   try clear hcz15_0
   try clear hcz15_1
   try clear hcz17_0
   try clear hcz17_1
   try clear hcz18_0
   try clear hcz18_1
   try clear hcz8_0
   try clear hcz8_1
   try clear hfz15_0
   try clear hfz15_1
   try clear hfz17_0
   try clear hfz17_1
   try clear hfz18_0
   try clear hfz18_1
   try clear hfz8_0
   try clear hfz8_1
   obtain ⟨kq, x39_4, rfl, HA, HJ4, HO_4, HO_441001, BK440, HB⟩ := hcut
   cases kq with
   | zero => exact absurd HA.out (by simp [laws_FnPivotsByOrders.j0])
   | succ kj4 =>
    have H := HA.out
    clear HA
    simp only [laws_FnPivotsByOrders.j0] at H
    by_cases c20 : x39_4 = true
    ·subst c20
     rw [if_pos rfl] at H
     by_cases c21 : t441 ≥ (-1)
     ·rw [if_pos c21] at H
      have c21b0 : decide ((-1) ≤ t441) = true := decide_eq_true c21
      clear c21
      replace H := Option.bind_eq_some_iff.mp H
      obtain ⟨t443, A220, H⟩ := H
      try dsimp only at H
      have A22 := Aside0.mk A220
      clear A220
      obtain rfl := Option.some.inj H
      go_wp2_with (first | (go_at_call 9; (with_reducible refine (laws_alive.calls  t443 _ A22.out).mono ?_); rintro e w' ⟨rfl, ⟨nd, rfl⟩⟩))
      go_ret
      exact ⟨by first | rfl | (simp [errW_none, errW_some] <;> rfl) | (simp [*, errW_none, errW_some] <;> rfl), Z.bs HB.out GE440.out⟩
     ·rw [if_neg c21] at H
      have c21b0 : decide ((-1) ≤ t441) = false := decide_eq_false c21
      clear c21
      obtain rfl := Option.some.inj H
      go_wp2
      go_ret
      exact ⟨by first | rfl | (simp [errW_none, errW_some] <;> rfl) | (simp [*, errW_none, errW_some] <;> rfl), Z.bs HB.out GE440.out⟩
    ·replace c20 := Bool.eq_false_iff.mpr c20
     subst c20
     rw [if_neg (show ¬ (false = true) by decide)] at H
     have H' := Aside0.mk H
     clear H
     go_wp2
     go_loopg [7, 8] kj4 (fun kq v7 v8 w' => ∃ (x7_2 : Int) (x8_2 : Int), v7 = .int .i64 x7_2 ∧ v8 = .int .i64 x8_2 ∧ Aside0 (laws_FnPivotsByOrders.l0 kq t436 t439 t441 x7_2 x8_2 t432 t433 = some r) ∧ Aside0 (kq ≤ kj4) ∧ Aside0 (Kd.V k35 35 w' w.heap.size (fun k_ => some k_ ≠ ((.slice Ao9 t433.length co9) : Value).ownBlock ∧ k_ ≠ gb440) (.slice Ao10 t436.length co10) t436) ∧ Aside0 (Kd.R (Kd.int .i64) 3 w' w.heap.size (fun _ => True) (.slice Ao9 t433.length co9) t433) ∧ Aside0 (w'.heap[gb440]? = some (.cells #[.int .i64 t432, (.slice Ao9 t433.length co9)] 25 (0, 0))) ∧ Aside0 (Below w.heap.size w w'))
     case atStart => exact ⟨(1), (0), (by first | rfl | (simp; done) | (simp [*]; done)), (by first | rfl | (simp; done) | (simp [*]; done)), H', ⟨Nat.le_refl _⟩, ⟨by (with_reducible repeat (first | apply Kd.V_alloc | apply Kd.V_drewN | apply Kd.V_drew)); exact HO_4.out⟩, ⟨by (with_reducible repeat (first | apply Kd.R_alloc | apply Kd.R_drewN | apply Kd.R_drew)); exact HO_441001.out⟩, ⟨by (with_reducible repeat (first | refine blk_drewN ?_ _ | refine blk_drew ?_ | refine blk_alloc ?_ _)); exact BK440.out⟩, ⟨Z.bs HB.out GE440.out⟩⟩
     case round =>
      clear H'
      try clear c1
      try clear c2
      try clear c2b0
      try clear c2b1
      try clear p2
      try clear c3
      try clear c6
      try clear c7
      try clear c12
      try clear c12b0
      try clear c14
      try clear c20
      try clear c21
      try clear c21b0
      try clear hcz15_0
      try clear hcz15_1
      try clear hcz17_0
      try clear hcz17_1
      try clear hcz18_0
      try clear hcz18_1
      try clear hcz8_0
      try clear hcz8_1
      try clear hfz15_0
      try clear hfz15_1
      try clear hfz17_0
      try clear hfz17_1
      try clear hfz18_0
      try clear hfz18_1
      try clear hfz8_0
      try clear hfz8_1
      try clear p2
      obtain ⟨x7_2, x8_2, rfl, rfl, HA, HK2, HO_4, HO_441001, BK440, HB⟩ := hrel
      cases gk with
      | zero => exact absurd HA.out (by simp [laws_FnPivotsByOrders.l0])
      | succ k2 =>
       have H := HA.out
       clear HA
       simp only [laws_FnPivotsByOrders.l0] at H
       by_cases c23 : x8_2 < t432
       ·rw [if_pos c23] at H
        have c23b0 := decide_eq_true c23
        clear c23
        have H' := Aside0.mk H
        clear H
        have hcz24 := Z.c2 BK440.out
        go_wp2
        go_roundg k2
        case measure => have := HJ4.out; have := HK2.out; omega
        case rel => exact ⟨(wrap64 (x7_2 * t432)), (wrap64 (x8_2 + 1)), (by first | rfl | (simp; done) | (simp [*]; done)), (by first | rfl | (simp; done) | (simp [*]; done)), H', ⟨by have := HJ4.out; have := HK2.out; omega⟩, ⟨by (with_reducible repeat (first | apply Kd.V_alloc | apply Kd.V_drewN | apply Kd.V_drew)); exact HO_4.out⟩, ⟨by (with_reducible repeat (first | apply Kd.R_alloc | apply Kd.R_drewN | apply Kd.R_drew)); exact HO_441001.out⟩, ⟨by (with_reducible repeat (first | refine blk_drewN ?_ _ | refine blk_drew ?_ | refine blk_alloc ?_ _)); exact BK440.out⟩, ⟨Z.bs HB.out GE440.out⟩⟩
       ·rw [if_neg c23] at H
        have c23b0 := decide_eq_false c23
        clear c23
        have H' := Aside0.mk H
        clear H
        have hcz25 := Z.c2 BK440.out
        go_wp2
        go_loopg [9, 10] k2 (fun kq v9 v10 w' => ∃ (x9_3 : Int) (x10_3 : Int), v9 = .int .i64 x9_3 ∧ v10 = .int .i64 x10_3 ∧ Aside0 (laws_FnPivotsByOrders.l1 kq t436 t439 t441 x7_2 x9_3 x10_3 t432 t433 = some r) ∧ Aside0 (kq ≤ k2) ∧ Aside0 (Kd.V k35 35 w' w.heap.size (fun k_ => some k_ ≠ ((.slice Ao9 t433.length co9) : Value).ownBlock ∧ k_ ≠ gb440) (.slice Ao10 t436.length co10) t436) ∧ Aside0 (Kd.R (Kd.int .i64) 3 w' w.heap.size (fun _ => True) (.slice Ao9 t433.length co9) t433) ∧ Aside0 (w'.heap[gb440]? = some (.cells #[.int .i64 t432, (.slice Ao9 t433.length co9)] 25 (0, 0))) ∧ Aside0 (Below w.heap.size w w'))
        case atStart => exact ⟨(0), (0), (by first | rfl | (simp; done) | (simp [*]; done)), (by first | rfl | (simp; done) | (simp [*]; done)), H', ⟨Nat.le_refl _⟩, ⟨by (with_reducible repeat (first | apply Kd.V_alloc | apply Kd.V_drewN | apply Kd.V_drew)); exact HO_4.out⟩, ⟨by (with_reducible repeat (first | apply Kd.R_alloc | apply Kd.R_drewN | apply Kd.R_drew)); exact HO_441001.out⟩, ⟨by (with_reducible repeat (first | refine blk_drewN ?_ _ | refine blk_drew ?_ | refine blk_alloc ?_ _)); exact BK440.out⟩, ⟨Z.bs HB.out GE440.out⟩⟩
        case round =>
         clear H'
         try clear c1
         try clear c2
         try clear c2b0
         try clear c2b1
         try clear p2
         try clear c3
         try clear c6
         try clear p6
         try clear c7
         try clear c12
         try clear c12b0
         try clear c14
         try clear c20
         try clear c21
         try clear c21b0
         try clear c23
         try clear c23b0
         try clear hcz15_0
         try clear hcz15_1
         try clear hcz17_0
         try clear hcz17_1
         try clear hcz18_0
         try clear hcz18_1
         try clear hcz24_0
         try clear hcz24_1
         try clear hcz25_0
         try clear hcz25_1
         try clear hcz8_0
         try clear hcz8_1
         try clear hfz15_0
         try clear hfz15_1
         try clear hfz17_0
         try clear hfz17_1
         try clear hfz18_0
         try clear hfz18_1
         try clear hfz24_0
         try clear hfz24_1
         try clear hfz25_0
         try clear hfz25_1
         try clear hfz8_0
         try clear hfz8_1
         try clear p2
         obtain ⟨x9_3, x10_3, rfl, rfl, HA, HK3, HO_4, HO_441001, BK440, HB⟩ := hrel
         cases gk with
         | zero => exact absurd HA.out (by simp [laws_FnPivotsByOrders.l1])
         | succ k3 =>
          have H := HA.out
          clear HA
          simp only [laws_FnPivotsByOrders.l1] at H
          by_cases c26 : x10_3 < x7_2
          ·rw [if_pos c26] at H
           have c26b0 := decide_eq_true c26
           clear c26
           obtain ⟨y445, hy445⟩ : ∃ y_ : List Int, y_ = (([] : List Int)) := ⟨_, rfl⟩
           replace H : (laws_FnPivotsByOrders.l2 k3 t436 t439 t441 x7_2 x9_3 x10_3 y445 x10_3 0 t432 t433) = some r := by first | (rw [hy445]; with_reducible exact H) | (have H2_ := (Option.bind_some _ _).symm.trans H; rw [hy445]; with_reducible exact H2_) | (have H2_ := (Option.bind_some _ _).symm.trans H; with_reducible exact H2_) | with_reducible exact H | (rw [hy445]; exact H) | exact H
           have Ny445 := Aside0.mk hy445
           clear hy445
           have H' := Aside0.mk H
           clear H
           go_wp2_with (first | ((with_reducible refine gate_dst (N := 60) rfl ?_); refine Kd.R_lit (Kd.int .i64) _ 3 ?hg (N := 60) ?hd (xs := ([] : List Int)) (inner := []) (ok := fun _ => True) (okp := fun _ => True) ?hr ?hp (fun _ hk => hk) trivial (Below.refl _ _) (Nat.le_refl _) (by simp) ?_; (case hd | hg => rfl); (case hr => first | (go_simp; done) | (go_simp; rfl)); (case hp => exact (Reps.none _ _)); intro v446 w27 ho28 hb hg_ hnew_; clear hg_ hnew_; (first | rw [← Ny445.out] at ho28 | (simp only [Int.reduceToNat] at ho28; rw [← Ny445.out] at ho28)); replace HO_4 := Aside0.mk (Kd.V_elder' (by (with_reducible repeat (first | apply Kd.V_alloc | apply Kd.V_drewN | apply Kd.V_drew)); exact HO_4.out) (Kd.R_base ho28) hb); have HO447 := Aside0.mk (Kd.R_lower (Kd.R_new' ho28 (Kd.R_lt (by (with_reducible repeat (first | apply Kd.R_alloc | apply Kd.R_drewN | apply Kd.R_drew)); exact HO_441001.out))) (below_size (Z.bs HB.out GE440.out))); replace HO_441001 := Aside0.mk (Kd.R_elder' (by (with_reducible repeat (first | apply Kd.R_alloc | apply Kd.R_drewN | apply Kd.R_drew)); exact HO_441001.out) (Kd.R_base ho28) hb); replace BK440 := Z.bb BK440 hb; replace HB := Z.st (Z.bs HB.out GE440.out) hb; clear hb ho28))
           go_loopg [11, 12, 13] k3 (fun kq v11 v12 v13 w' => ∃ (x11_4 : List Int) (x12_4 : Int) (x13_4 : Int), v12 = .int .i64 x12_4 ∧ v13 = .int .i64 x13_4 ∧ Aside0 (laws_FnPivotsByOrders.l2 kq t436 t439 t441 x7_2 x9_3 x10_3 x11_4 x12_4 x13_4 t432 t433 = some r) ∧ Aside0 (kq ≤ k3) ∧ Aside0 (Kd.V k35 35 w' w.heap.size (fun k_ => some k_ ≠ (v11 : Value).ownBlock ∧ some k_ ≠ ((.slice Ao9 t433.length co9) : Value).ownBlock ∧ k_ ≠ gb440) (.slice Ao10 t436.length co10) t436) ∧ Aside0 (Kd.R (Kd.int .i64) 3 w' w.heap.size (fun k_ => some k_ ≠ ((.slice Ao9 t433.length co9) : Value).ownBlock) v11 x11_4) ∧ Aside0 (Kd.R (Kd.int .i64) 3 w' w.heap.size (fun k_ => some k_ ≠ (v11 : Value).ownBlock) (.slice Ao9 t433.length co9) t433) ∧ Aside0 (w'.heap[gb440]? = some (.cells #[.int .i64 t432, (.slice Ao9 t433.length co9)] 25 (0, 0))) ∧ Aside0 (Below w.heap.size w w'))
           case atStart => exact ⟨(y445), (x10_3), (0), (by first | rfl | (simp; done) | (simp [*]; done)), (by first | rfl | (simp; done) | (simp [*]; done)), H', ⟨Nat.le_refl _⟩, ⟨by (with_reducible repeat (first | apply Kd.V_alloc | apply Kd.V_drewN | apply Kd.V_drew)); exact Kd.V_mono HO_4.out (fun _ hk => ⟨hk.2, ⟨hk.1.1, hk.1.2⟩⟩)⟩, ⟨by (with_reducible repeat (first | apply Kd.R_alloc | apply Kd.R_drewN | apply Kd.R_drew)); exact Kd.R_mono HO447.out (fun _ hk => hk.2)⟩, ⟨by (with_reducible repeat (first | apply Kd.R_alloc | apply Kd.R_drewN | apply Kd.R_drew)); exact Kd.R_mono HO_441001.out (fun _ hk => hk.2)⟩, ⟨by (with_reducible repeat (first | refine blk_drewN ?_ _ | refine blk_drew ?_ | refine blk_alloc ?_ _)); exact BK440.out⟩, ⟨Z.bs HB.out GE440.out⟩⟩
           case round =>
            clear H'
            try clear c1
            try clear c2
            try clear c2b0
            try clear c2b1
            try clear p2
            try clear c3
            try clear c6
            try clear p6
            try clear c7
            try clear c12
            try clear c12b0
            try clear c14
            try clear c20
            try clear c21
            try clear c21b0
            try clear c23
            try clear c23b0
            try clear c26
            try clear c26b0
            try clear hcz15_0
            try clear hcz15_1
            try clear hcz17_0
            try clear hcz17_1
            try clear hcz18_0
            try clear hcz18_1
            try clear hcz24_0
            try clear hcz24_1
            try clear hcz25_0
            try clear hcz25_1
            try clear hcz8_0
            try clear hcz8_1
            try clear hfz15_0
            try clear hfz15_1
            try clear hfz17_0
            try clear hfz17_1
            try clear hfz18_0
            try clear hfz18_1
            try clear hfz24_0
            try clear hfz24_1
            try clear hfz25_0
            try clear hfz25_1
            try clear hfz8_0
            try clear hfz8_1
            try clear p2
            try clear p6
            obtain ⟨x11_4, x12_4, x13_4, rfl, rfl, HA, HK4, HO_4, HO_11, HO_441001, BK440, HB⟩ := hrel
            cases gk with
            | zero => exact absurd HA.out (by simp [laws_FnPivotsByOrders.l2])
            | succ k4 =>
             have H := HA.out
             clear HA
             simp only [laws_FnPivotsByOrders.l2] at H
             by_cases c29 : x13_4 < t432
             ·rw [if_pos c29] at H
              have c29b0 := decide_eq_true c29
              clear c29
              obtain ⟨c30, H⟩ := Z.ifq H
              have c30b0 : (t432 == 0) = false := beq_eq_false_iff_ne.mpr c30
              have c30b1 : (t432 != 0) = true := bne_iff_ne.mpr c30
              obtain ⟨c31, H⟩ := Z.ifp H
              have LMc31 := Aside0.mk c31
              clear c31
              obtain ⟨y448, hy448⟩ : ∃ y_ : List Int, y_ = (x11_4 ++ [Int.tmod x12_4 t432]) := ⟨_, rfl⟩
              replace H : (laws_FnPivotsByOrders.l2 k4 t436 t439 t441 x7_2 x9_3 x10_3 y448 (wrap64 (Int.tdiv x12_4 t432)) (wrap64 (x13_4 + 1)) t432 t433) = some r := by first | (rw [hy448]; with_reducible exact H) | (have H2_ := (Option.bind_some _ _).symm.trans H; rw [hy448]; with_reducible exact H2_) | (have H2_ := (Option.bind_some _ _).symm.trans H; with_reducible exact H2_) | with_reducible exact H | (rw [hy448]; exact H) | exact H
              have Ny448 := Aside0.mk hy448
              clear hy448
              have H' := Aside0.mk H
              clear H
              have hcz32 := Z.c2 BK440.out
              go_wp2_with (first | ((with_reducible refine gate_builtin (b := .append) (xs := #[.tmp 68, .tmp 73]) rfl ?_); at_builtin; refine Kd.R_append (Kd.int .i64) (w0 := w) w.heap.size rfl (.tmp 68) (.tmp 73) 23 3 (.int .i64 0) 8 rfl Try.underlying23 info3 rfl (by decide) (by omega) u11 x11_4 (Int.tmod x12_4 t432) [.int .i64 (Int.tmod x12_4 t432)] (fun k_ => some k_ ≠ (.slice Ao9 t433.length co9 : Value).ownBlock) (fun _ => False) rfl rfl ?aP (fun _ hk => hk.elim) ?aF ?aO ?aB ?aS ?aL ?_; (case aP => exact rfl); (case aB => exact (Z.bs HB.out GE440.out)); (case aF => exact (fun k_ hk => Kd.fresh' (Kd.R_lt (by (with_reducible repeat (first | apply Kd.R_alloc | apply Kd.R_drewN | apply Kd.R_drew)); exact HO_441001.out)) k_ hk)); (case aO => exact (by (with_reducible repeat (first | apply Kd.R_alloc | apply Kd.R_drewN | apply Kd.R_drew)); exact HO_11.out)); (case aS => exact (below_size (Z.bs HB.out GE440.out))); (case aL => have := LMc31.out; omega); intro v449 w33 ho hb hg hat; rw [← Ny448.out] at ho; replace HO_4 := Aside0.mk (Kd.V_afterv (ok := (fun k_ => some k_ ≠ (.slice Ao9 t433.length co9 : Value).ownBlock ∧ k_ ≠ gb440)) (by (with_reducible repeat (first | apply Kd.V_alloc | apply Kd.V_drewN | apply Kd.V_drew)); exact Kd.V_mono HO_4.out (fun _ hk => ⟨⟨hk.2.1, hk.2.2⟩, hk.1⟩)) hg hat); replace HO_441001 := Aside0.mk (Kd.R_after (ok := (fun _ => True)) (by (with_reducible repeat (first | apply Kd.R_alloc | apply Kd.R_drewN | apply Kd.R_drew)); exact Kd.R_mono HO_441001.out (fun _ hk => ⟨trivial, hk⟩)) hg hat); replace BK440 := Aside0.mk (blk_grown (g := gb440) (o := .cells #[.int .i64 t432, .slice Ao9 t433.length co9] 25 (0, 0)) (Z.bk BK440.out) hg (Kd.R_ne HO_11.out BK440.out (by decide))); replace HB := Aside0.mk (hb); have HO450 := Aside0.mk (ho); clear HO_11; clear ho hb hg hat; have hcz34 := Z.c2 BK440.out))
              go_roundg k4
              case measure => have := HJ4.out; have := HK2.out; have := HK3.out; have := HK4.out; omega
              case rel => exact ⟨(y448), (wrap64 (Int.tdiv x12_4 t432)), (wrap64 (x13_4 + 1)), (by first | rfl | (simp; done) | (simp [*]; done)), (by first | rfl | (simp; done) | (simp [*]; done)), H', ⟨by have := HJ4.out; have := HK2.out; have := HK3.out; have := HK4.out; omega⟩, ⟨by (with_reducible repeat (first | apply Kd.V_alloc | apply Kd.V_drewN | apply Kd.V_drew)); exact Kd.V_mono HO_4.out (fun _ hk => ⟨hk.2, ⟨hk.1.1, hk.1.2⟩⟩)⟩, ⟨by (with_reducible repeat (first | apply Kd.R_alloc | apply Kd.R_drewN | apply Kd.R_drew)); exact HO450.out⟩, ⟨by (with_reducible repeat (first | apply Kd.R_alloc | apply Kd.R_drewN | apply Kd.R_drew)); exact Kd.R_mono HO_441001.out (fun _ hk => hk.2)⟩, ⟨by (with_reducible repeat (first | refine blk_drewN ?_ _ | refine blk_drew ?_ | refine blk_alloc ?_ _)); exact BK440.out⟩, ⟨Z.bs HB.out GE440.out⟩⟩
             ·rw [if_neg c29] at H
              have c29b0 := decide_eq_false c29
              clear c29
              replace H := Option.bind_eq_some_iff.mp H
              obtain ⟨t451, A350, H⟩ := H
              try dsimp only at H
              have A35 := Aside0.mk A350
              clear A350
              by_cases c36 : t451 = t439
              ·rw [if_pos c36] at H
               have c36b0 : (t451 == t439) = true := beq_iff_eq.mpr c36
               have c36b1 : (t451 != t439) = false := bne_eq_false_iff_eq.mpr c36
               clear c36
               have H' := Aside0.mk H
               clear H
               have hcz37 := Z.c2 BK440.out
               obtain ⟨Ao38, co38, eo38⟩ := Kd.R_slice HO_11.out
               subst eo38
               go_wp2_with (first | ((with_reducible refine gate_callee (f := 10) rfl ?_); refine goesL_ (some 82) rfl rfl Try.func10 (by kernel_rfl) rfl #[.agg #[.int .i64 t432, .slice Ao9 t433.length co9], .slice Ao10 t436.length co10, .slice Ao38 x11_4.length co38] rfl Z.ar ?_; (with_reducible refine (impl_PivotIn.calls k4 t432 _ _ t433 _ _ t436 _ _ x11_4 t451 _ ?q1 ?q2 ?q3 ?q4 ?q5 ?q6 A35.out).mono ?_); (case q1 => repeat (first | exact (Kd.R_reads' HO_441001.out).2.2 | (with_reducible refine Kd.C_alloc ?_ _) | (with_reducible refine Kd.C_drewN ?_ _) | (with_reducible refine Kd.C_drew ?_))); (case q2 => exact (Kd.R_reads' HO_441001.out).2.1); (case q3 => repeat (first | exact (Kd.V_reads' HO_4.out).2.2 | (with_reducible refine Kd.C_alloc ?_ _) | (with_reducible refine Kd.C_drewN ?_ _) | (with_reducible refine Kd.C_drew ?_))); (case q4 => exact (Kd.V_reads' HO_4.out).2.1); (case q5 => repeat (first | exact (Kd.R_reads' HO_11.out).2.2 | (with_reducible refine Kd.C_alloc ?_ _) | (with_reducible refine Kd.C_drewN ?_ _) | (with_reducible refine Kd.C_drew ?_))); (case q6 => exact (Kd.R_reads' HO_11.out).2.1); rintro e w39 ⟨rfl, hb⟩; refine ⟨_, rfl, ?_⟩; replace HO_4 := Aside0.mk (Kd.V_below (by (with_reducible repeat (first | apply Kd.V_alloc | apply Kd.V_drewN | apply Kd.V_drew)); exact HO_4.out) hb); replace HO_11 := Aside0.mk (Kd.R_below (by (with_reducible repeat (first | apply Kd.R_alloc | apply Kd.R_drewN | apply Kd.R_drew)); exact HO_11.out) hb); replace HO_441001 := Aside0.mk (Kd.R_below (by (with_reducible repeat (first | apply Kd.R_alloc | apply Kd.R_drewN | apply Kd.R_drew)); exact HO_441001.out) hb); replace BK440 := Z.bb BK440 hb; replace HB := Z.st (Z.bs HB.out GE440.out) hb; (try clear hb); (try clear hb2); (try clear hk); (try clear hi)))
               go_roundg k4
               case measure => have := HJ4.out; have := HK2.out; have := HK3.out; have := HK4.out; omega
               case rel => exact ⟨(wrap64 (x9_3 + 1)), (wrap64 (x10_3 + 1)), (by first | rfl | (simp; done) | (simp [*]; done)), (by first | rfl | (simp; done) | (simp [*]; done)), H', ⟨by have := HJ4.out; have := HK2.out; have := HK3.out; have := HK4.out; omega⟩, ⟨by (with_reducible repeat (first | apply Kd.V_alloc | apply Kd.V_drewN | apply Kd.V_drew)); exact Kd.V_mono HO_4.out (fun _ hk => ⟨hk.2.1, hk.2.2⟩)⟩, ⟨by (with_reducible repeat (first | apply Kd.R_alloc | apply Kd.R_drewN | apply Kd.R_drew)); exact Kd.R_mono HO_441001.out (fun _ hk => trivial)⟩, ⟨by (with_reducible repeat (first | refine blk_drewN ?_ _ | refine blk_drew ?_ | refine blk_alloc ?_ _)); exact BK440.out⟩, ⟨Z.bs HB.out GE440.out⟩⟩
              ·rw [if_neg c36] at H
               have c36b0 : (t451 == t439) = false := beq_eq_false_iff_ne.mpr c36
               have c36b1 : (t451 != t439) = true := bne_iff_ne.mpr c36
               have H' := Aside0.mk H
               clear H
               have hcz40 := Z.c2 BK440.out
               obtain ⟨Ao41, co41, eo41⟩ := Kd.R_slice HO_11.out
               subst eo41
               go_wp2_with (first | ((with_reducible refine gate_callee (f := 10) rfl ?_); refine goesL_ (some 82) rfl rfl Try.func10 (by kernel_rfl) rfl #[.agg #[.int .i64 t432, .slice Ao9 t433.length co9], .slice Ao10 t436.length co10, .slice Ao41 x11_4.length co41] rfl Z.ar ?_; (with_reducible refine (impl_PivotIn.calls k4 t432 _ _ t433 _ _ t436 _ _ x11_4 t451 _ ?q1 ?q2 ?q3 ?q4 ?q5 ?q6 A35.out).mono ?_); (case q1 => repeat (first | exact (Kd.R_reads' HO_441001.out).2.2 | (with_reducible refine Kd.C_alloc ?_ _) | (with_reducible refine Kd.C_drewN ?_ _) | (with_reducible refine Kd.C_drew ?_))); (case q2 => exact (Kd.R_reads' HO_441001.out).2.1); (case q3 => repeat (first | exact (Kd.V_reads' HO_4.out).2.2 | (with_reducible refine Kd.C_alloc ?_ _) | (with_reducible refine Kd.C_drewN ?_ _) | (with_reducible refine Kd.C_drew ?_))); (case q4 => exact (Kd.V_reads' HO_4.out).2.1); (case q5 => repeat (first | exact (Kd.R_reads' HO_11.out).2.2 | (with_reducible refine Kd.C_alloc ?_ _) | (with_reducible refine Kd.C_drewN ?_ _) | (with_reducible refine Kd.C_drew ?_))); (case q6 => exact (Kd.R_reads' HO_11.out).2.1); rintro e w42 ⟨rfl, hb⟩; refine ⟨_, rfl, ?_⟩; replace HO_4 := Aside0.mk (Kd.V_below (by (with_reducible repeat (first | apply Kd.V_alloc | apply Kd.V_drewN | apply Kd.V_drew)); exact HO_4.out) hb); replace HO_11 := Aside0.mk (Kd.R_below (by (with_reducible repeat (first | apply Kd.R_alloc | apply Kd.R_drewN | apply Kd.R_drew)); exact HO_11.out) hb); replace HO_441001 := Aside0.mk (Kd.R_below (by (with_reducible repeat (first | apply Kd.R_alloc | apply Kd.R_drewN | apply Kd.R_drew)); exact HO_441001.out) hb); replace BK440 := Z.bb BK440 hb; replace HB := Z.st (Z.bs HB.out GE440.out) hb; (try clear hb); (try clear hb2); (try clear hk); (try clear hi)))
               go_roundg k4
               case measure => have := HJ4.out; have := HK2.out; have := HK3.out; have := HK4.out; omega
               case rel => exact ⟨(x9_3), (wrap64 (x10_3 + 1)), (by first | rfl | (simp; done) | (simp [*]; done)), (by first | rfl | (simp; done) | (simp [*]; done)), H', ⟨by have := HJ4.out; have := HK2.out; have := HK3.out; have := HK4.out; omega⟩, ⟨by (with_reducible repeat (first | apply Kd.V_alloc | apply Kd.V_drewN | apply Kd.V_drew)); exact Kd.V_mono HO_4.out (fun _ hk => ⟨hk.2.1, hk.2.2⟩)⟩, ⟨by (with_reducible repeat (first | apply Kd.R_alloc | apply Kd.R_drewN | apply Kd.R_drew)); exact Kd.R_mono HO_441001.out (fun _ hk => trivial)⟩, ⟨by (with_reducible repeat (first | refine blk_drewN ?_ _ | refine blk_drew ?_ | refine blk_alloc ?_ _)); exact BK440.out⟩, ⟨Z.bs HB.out GE440.out⟩⟩
          ·rw [if_neg c26] at H
           have c26b0 := decide_eq_false c26
           clear c26
           replace H := Option.bind_eq_some_iff.mp H
           obtain ⟨t444, A430, H⟩ := H
           try dsimp only at H
           have A43 := Aside0.mk A430
           clear A430
           by_cases c44 : t444 = true
           ·subst c44
            rw [if_pos rfl] at H
            obtain rfl := Option.some.inj H
            go_wp2_with (first | ((with_reducible refine gate_callee (f := 9) rfl ?_); refine goesL_ (some 87) rfl rfl Try.func9 (by kernel_rfl) rfl #[] rfl Z.ar ?_; (with_reducible refine (laws_alive.calls  true _ A43.out).mono ?_); rintro e w' ⟨rfl, ⟨nd, rfl⟩⟩; refine ⟨_, rfl, ?_⟩))
            go_ret
            exact ⟨by first | rfl | (simp [errW_none, errW_some] <;> rfl) | (simp [*, errW_none, errW_some] <;> rfl), Z.bs HB.out GE440.out⟩
           ·replace c44 := Bool.eq_false_iff.mpr c44
            subst c44
            rw [if_neg (show ¬ (false = true) by decide)] at H
            obtain rfl := Option.some.inj H
            go_wp2_with (first | ((with_reducible refine gate_callee (f := 9) rfl ?_); refine goesL_ (some 87) rfl rfl Try.func9 (by kernel_rfl) rfl #[] rfl Z.ar ?_; (with_reducible refine (laws_alive.calls  false _ A43.out).mono ?_); rintro e w' ⟨rfl, ⟨nd, rfl⟩⟩; refine ⟨_, rfl, ?_⟩))
            go_ret
            exact ⟨by first | rfl | (simp [errW_none, errW_some] <;> rfl) | (simp [*, errW_none, errW_some] <;> rfl), Z.bs HB.out GE440.out⟩

/-- THE ONE PURE STATEMENT of laws_FnPivotsByOrders: yours. -/
def laws_FnPivotsByOrders.Pure : Prop := ∀ (l0 : List Int), l0.length ≤ maxLen → l0.length * 1 ≤ 140737488351232 → (∀ x ∈ l0, (Lit.int .u8 x).wf = true) → ∃ k, laws_FnPivotsByOrders.f k l0 = some true
theorem laws_FnPivotsByOrders.walk (P : laws_FnPivotsByOrders.Pure) (a0 : Option Addr) (len0 cap0 : Nat) (z0 : List Int) (w : World) (w0 : (a0 = none ∧ len0 = 0 ∧ cap0 = 0 ∧ z0 = []) ∨ ∃ x, a0 = some x ∧ len0 ≤ cap0 ∧ cap0 ≤ maxLen ∧ z0.length = cap0 ∧ (∀ i, i < z0.length → w.cell? (x.add i) = some (.int .u8 (z0.getD i 0))) ∧ ∀ n ∈ z0, (Lit.int .u8 n).wf = true) (y0 : len0 * 1 ≤ 140737488351232) :
  Calls Try.prog 3 #[.slice a0 len0 cap0] w fun e w' => e = .returned (.bool true) ∧ Below w.heap.size w w' := by
 obtain ⟨l0, rfl, hr0, hm0, hw0, hc0⟩ := ReadsInt.ofRowC w0
 obtain ⟨k, h⟩ := P l0 hm0 y0 hw0
 refine (laws_FnPivotsByOrders.calls k _ _ l0 true w (Kd.C_of_reads (d := (0 : Int)) (h1 := fun _ => rfl) hr0) hc0 h).mono ?_
 rintro e w' ⟨rfl, hd⟩
 exact ⟨rfl, hd⟩

/-! ### spec_DrawSwingsOf: function 11 -/
def spec_DrawSwingsOf.f (k : Nat) (l0 : List Int) : Option (Int × List Int × (List (S35)) × Int) := (spec_l20Open.f l0).bind fun bt453 => ((spec_l20Whose.f k bt453.1 bt453.2).bind fun bt456 => (some (bt456.1, bt456.2.1, bt456.2.2.1, bt456.2.2.2.1)))
/-! ### impl_SwingsOf: function 12 -/
def impl_SwingsOf.f (k : Nat) (a0_0 : Int) (l0_1 : List Int) (l1 : List (S35)) (a2 : Int) : Option (Int) := (impl_isTerm.f k a0_0 l0_1 l1).bind fun t466 => (if t466 = true then (if a2 < 0 then (some (-1)) else (if a2 ≥ a0_0 then (some (-1)) else ((impl_swingsOf.f k a0_0 l0_1 l1 a2).bind fun t467 => (some (t467.length : Int))))) else (some (-1)))
end Go.Proofs.Ytenjngocdinfmaa.PAll

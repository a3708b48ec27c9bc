/- Walks of functions that All reaches, in the form of the print. -/
-- PRINTED
import Derived.Test.YtenjngocdinfmaaCAll15
import Derived.Test.YtenjngocdinfmaaCAll16
namespace Go.Proofs.Ytenjngocdinfmaa.PAll
open Go.RowKit Go.Proofs.YtenjngocdinfmaaW.PrintWords Go.Proofs.YtenjngocdinfmaaW.PrintLast Go.Proofs.YtenjngocdinfmaaW.PrintMore
attribute [local go_sem] max2_int min2_int max_two min_two max_three min_three max_four min_four
set_option linter.unusedVariables false
set_option linter.unusedSimpArgs false

/-! ### laws_FnSameMembers: function 4 -/
mutual
def laws_FnSameMembers.j0 : Nat → List (S35) → Int → Bool → Int → List Int → Option (Bool)
 | 0, _, _, _, _, _ => none
 | k + 1, x4, x5, x33, x483000, x483001 => if x33 = true then ((laws_alive.f).bind fun t484 => (some t484)) else (if 0 < (x4.length : Int) then (if 0 ≤ ((rd_T35 x4 0).f1) then (if ((rd_T35 x4 0).f1) < (x483001.length : Int) then (laws_FnSameMembers.l0 k x5 (([(⟨(rd_T35 x4 0).f0, (rd_T35 x4 0).f1, (rd_T35 x4 0).f2⟩ : S35)] : List (S35))) (rd x483001 ((rd_T35 x4 0).f1)) 0 x483000 x483001) else (none)) else (none)) else (none))
def laws_FnSameMembers.l0 : Nat → Int → List (S35) → Int → Int → Int → List Int → Option (Bool)
 | 0, _, _, _, _, _, _ => none
 | k + 1, x5, x6, x7, x8, x483000, x483001 => if x8 < x483000 then ((impl_SwingsOf.f k x483000 x483001 x6 x8).bind fun t493 => ((impl_PivotsOf.f k x483000 x483001 x6 x8).bind fun t494 => (if 0 ≤ x8 then (if (Int.tmod (shr .i64 x7 x8) 2) = 0 then (if t493 = 0 then (laws_FnSameMembers.j2 k x5 x6 x7 x8 t493 t494 (t494 != 0) x483000 x483001) else (laws_FnSameMembers.j2 k x5 x6 x7 x8 t493 t494 true x483000 x483001)) else (laws_FnSameMembers.j2 k x5 x6 x7 x8 t493 t494 false x483000 x483001)) else (none)))) else ((laws_alive.f).bind fun t491 => (if t491 = true then ((impl_StrongerOk.f k x483000 x483001 x6 x5 x5).bind fun t492 => (some t492)) else (some false)))
def laws_FnSameMembers.j2 : Nat → Int → List (S35) → Int → Int → Int → Int → Bool → Int → List Int → Option (Bool)
 | 0, _, _, _, _, _, _, _, _, _ => none
 | k + 1, x5, x6, x7, x8, x9, x10, x73, x483000, x483001 => if x73 = true then (some false) else (if 0 ≤ x8 then (if (Int.tmod (shr .i64 x7 x8) 2) = 1 then (if 0 ≤ x5 then (if (Int.tmod (shr .i64 x7 x5) 2) = 1 then ((impl_SwingsOf.f k x483000 x483001 x6 x5).bind fun t495 => (if x9 = t495 then ((impl_PivotsOf.f k x483000 x483001 x6 x5).bind fun t496 => (if x10 = t496 then (if x9 < 1 then (some false) else (laws_FnSameMembers.l0 k x5 x6 x7 (wrap64 (x8 + 1)) x483000 x483001)) else (some false))) else (some false))) else (laws_FnSameMembers.l0 k x5 x6 x7 (wrap64 (x8 + 1)) x483000 x483001)) else (none)) else (laws_FnSameMembers.l0 k x5 x6 x7 (wrap64 (x8 + 1)) x483000 x483001)) else (none))
end
def laws_FnSameMembers.f (k : Nat) (l0 : List Int) : Option (Bool) := if (l0.length : Int) > 1048576 then (some true) else ((spec_DrawSwingsOf.f k l0).bind fun bt474 => ((spec_TermOk.f k bt474.1 bt474.2.1 bt474.2.2.1).bind fun t483 => (if t483 = true then (if bt474.2.2.2 < 0 then (laws_FnSameMembers.j0 k bt474.2.2.1 bt474.2.2.2 true bt474.1 bt474.2.1) else (laws_FnSameMembers.j0 k bt474.2.2.1 bt474.2.2.2 (decide (bt474.2.2.2 ≥ bt474.1)) bt474.1 bt474.2.1)) else (laws_FnSameMembers.j0 k bt474.2.2.1 bt474.2.2.2 true bt474.1 bt474.2.1))))
set_option maxHeartbeats 8000000 in
set_option maxRecDepth 100000 in
theorem laws_FnSameMembers.calls (k : Nat) (A0 : Option Addr) (c0 : Nat) (l0 : List Int) (r : Bool) (w : World) (hr0 : Kd.C (Kd.int .u8) w A0 l0.length l0) (hc0 : l0.length ≤ c0) (h : laws_FnSameMembers.f k l0 = some r) :
  Calls Try.prog 4 #[.slice A0 l0.length c0] w fun e w' => e = .returned (.bool r) ∧ Below w.heap.size w w' := by
 have hu25 := Try.underlying25
 have hu35 := Try.underlying35
 have HR0 := Aside0.mk hr0
 have HC0 := Aside0.mk hc0
 clear hr0 hc0
 have HB := Aside0.mk (Below.refl w.heap.size w)
 have H := h
 clear h
 unfold laws_FnSameMembers.f at H
 by_cases c2 : (l0.length : Int) > 1048576
 ·rw [if_pos c2] at H
  have c2b0 : decide (1048576 < (l0.length : Int)) = true := decide_eq_true c2
  have c2b1 : decide (1048576 < l0.length) = true := decide_eq_true (by omega)
  clear c2
  obtain rfl := Option.some.inj H
  go_enter Try.func4, Try.ntmps4
  go_wp2
  repeat (go_quiet (fail); try go_wp2)
  go_ret
  exact ⟨by first | rfl | (simp [errW_none, errW_some] <;> rfl) | (simp [*, errW_none, errW_some] <;> rfl), Z.bl HB.out⟩
 ·rw [if_neg c2] at H
  have c2b0 : decide (1048576 < (l0.length : Int)) = false := decide_eq_false c2
  have c2b1 : decide (1048576 < l0.length) = false := decide_eq_false (by omega)
  clear c2
  replace H := Option.bind_eq_some_iff.mp H
  obtain ⟨⟨t474, t475, t478, t481⟩, A30, H⟩ := H
  try dsimp only at H
  have A3 := Aside0.mk A30
  clear A30
  have HC4 := Aside0.mk H
  clear H
  go_enter Try.func4, Try.ntmps4
  go_upto_region 4 with (first | (go_at_call 11; (with_reducible refine (spec_DrawSwingsOf.calls k _ _ l0 t474 t475 t478 t481 _ ?q1 ?q2 A3.out).mono ?_); (case q1 => repeat (first | exact HR0.out | (with_reducible refine Kd.C_alloc ?_ _) | (with_reducible refine Kd.C_drewN ?_ _) | (with_reducible refine Kd.C_drew ?_))); (case q2 => exact HC0.out); rintro e w5 ⟨v476, v479, rfl, ho0, ho1, hb⟩; have HO477 := Aside0.mk (Kd.R_lower (Kd.R_mono (ok' := fun k_ => True) ho0 (fun _ hk_ => trivial)) (below_size (Z.bl HB.out))); have HO480 := Aside0.mk (Kd.V_lower (Kd.V_mono (ok' := fun k_ => some k_ ≠ (v476 : Value).ownBlock) ho1 (fun k_ hk_ => hk_.2)) (below_size (Z.bl HB.out))); replace HB := Z.st (Z.bl HB.out) hb; (try clear hb); (try clear hb2); (try clear hk); (try clear hi); (try clear ho0); (try clear ho1)) | ((with_reducible refine gate_dst (N := 3) rfl ?_); refine Z.bx #[.int .i64 0, .slice none 0 0] 25 HB ?_; clear HB; intro gb482 w6 BK482 GE482 HB hg hb; have GW482 := GE482; replace HO477 := Aside0.mk (Kd.R_below (by (with_reducible repeat (first | apply Kd.R_alloc | apply Kd.R_drewN | apply Kd.R_drew)); exact HO477.out) hb); replace HO480 := Aside0.mk (Kd.V_below (Kd.V_elderB (by (with_reducible repeat (first | apply Kd.V_alloc | apply Kd.V_drewN | apply Kd.V_drew)); exact HO480.out) gb482 (Nat.le_of_eq hg.symm)) hb); clear hb hg; have hcz7 := Z.c2 BK482.out; obtain ⟨Ao8, co8, eo8⟩ := Kd.R_slice HO477.out; subst eo8))
  repeat (go_quiet (first | (go_at_call 11; (with_reducible refine (spec_DrawSwingsOf.calls k _ _ l0 t474 t475 t478 t481 _ ?q1 ?q2 A3.out).mono ?_); (case q1 => repeat (first | exact HR0.out | (with_reducible refine Kd.C_alloc ?_ _) | (with_reducible refine Kd.C_drewN ?_ _) | (with_reducible refine Kd.C_drew ?_))); (case q2 => exact HC0.out); rintro e w5 ⟨v476, v479, rfl, ho0, ho1, hb⟩; have HO477 := Aside0.mk (Kd.R_lower (Kd.R_mono (ok' := fun k_ => True) ho0 (fun _ hk_ => trivial)) (below_size (Z.bl HB.out))); have HO480 := Aside0.mk (Kd.V_lower (Kd.V_mono (ok' := fun k_ => some k_ ≠ (v476 : Value).ownBlock) ho1 (fun k_ hk_ => hk_.2)) (below_size (Z.bl HB.out))); replace HB := Z.st (Z.bl HB.out) hb; (try clear hb); (try clear hb2); (try clear hk); (try clear hi); (try clear ho0); (try clear ho1)) | ((with_reducible refine gate_dst (N := 3) rfl ?_); refine Z.bx #[.int .i64 0, .slice none 0 0] 25 HB ?_; clear HB; intro gb482 w6 BK482 GE482 HB hg hb; have GW482 := GE482; replace HO477 := Aside0.mk (Kd.R_below (by (with_reducible repeat (first | apply Kd.R_alloc | apply Kd.R_drewN | apply Kd.R_drew)); exact HO477.out) hb); replace HO480 := Aside0.mk (Kd.V_below (Kd.V_elderB (by (with_reducible repeat (first | apply Kd.V_alloc | apply Kd.V_drewN | apply Kd.V_drew)); exact HO480.out) gb482 (Nat.le_of_eq hg.symm)) hb); clear hb hg; have hcz7 := Z.c2 BK482.out; obtain ⟨Ao8, co8, eo8⟩ := Kd.R_slice HO477.out; subst eo8)); go_upto_region 4 with (first | (go_at_call 11; (with_reducible refine (spec_DrawSwingsOf.calls k _ _ l0 t474 t475 t478 t481 _ ?q1 ?q2 A3.out).mono ?_); (case q1 => repeat (first | exact HR0.out | (with_reducible refine Kd.C_alloc ?_ _) | (with_reducible refine Kd.C_drewN ?_ _) | (with_reducible refine Kd.C_drew ?_))); (case q2 => exact HC0.out); rintro e w5 ⟨v476, v479, rfl, ho0, ho1, hb⟩; have HO477 := Aside0.mk (Kd.R_lower (Kd.R_mono (ok' := fun k_ => True) ho0 (fun _ hk_ => trivial)) (below_size (Z.bl HB.out))); have HO480 := Aside0.mk (Kd.V_lower (Kd.V_mono (ok' := fun k_ => some k_ ≠ (v476 : Value).ownBlock) ho1 (fun k_ hk_ => hk_.2)) (below_size (Z.bl HB.out))); replace HB := Z.st (Z.bl HB.out) hb; (try clear hb); (try clear hb2); (try clear hk); (try clear hi); (try clear ho0); (try clear ho1)) | ((with_reducible refine gate_dst (N := 3) rfl ?_); refine Z.bx #[.int .i64 0, .slice none 0 0] 25 HB ?_; clear HB; intro gb482 w6 BK482 GE482 HB hg hb; have GW482 := GE482; replace HO477 := Aside0.mk (Kd.R_below (by (with_reducible repeat (first | apply Kd.R_alloc | apply Kd.R_drewN | apply Kd.R_drew)); exact HO477.out) hb); replace HO480 := Aside0.mk (Kd.V_below (Kd.V_elderB (by (with_reducible repeat (first | apply Kd.V_alloc | apply Kd.V_drewN | apply Kd.V_drew)); exact HO480.out) gb482 (Nat.le_of_eq hg.symm)) hb); clear hb hg; have hcz7 := Z.c2 BK482.out; obtain ⟨Ao8, co8, eo8⟩ := Kd.R_slice HO477.out; subst eo8)))
  (try simp only [Act.put, List.setIfInBounds_toArray, List.set_cons_zero, List.set_cons_succ])
  go_cut [33] (fun v33 wc => ∃ (kq : Nat) (x33_3 : Bool), v33 = .bool x33_3 ∧ Aside0 (laws_FnSameMembers.j0 kq t478 t481 x33_3 t474 t475 = some r) ∧ Aside0 (kq ≤ k) ∧ Aside0 (Kd.V k35 35 wc w.heap.size (fun k_ => some k_ ≠ ((.slice Ao8 t475.length co8) : Value).ownBlock ∧ k_ ≠ gb482) v479 t478) ∧ Aside0 (Kd.R (Kd.int .i64) 3 wc w.heap.size (fun _ => True) (.slice Ao8 t475.length co8) t475) ∧ Aside0 (wc.heap[gb482]? = some (.cells #[.int .i64 t474, (.slice Ao8 t475.length co8)] 25 (0, 0))) ∧ Aside0 (Below w.heap.size w wc))
  case first =>
   have H := HC4.out
   clear HC4
   replace H := Option.bind_eq_some_iff.mp H
   obtain ⟨t483, A90, H⟩ := H
   try dsimp only at H
   have A9 := Aside0.mk A90
   clear A90
   by_cases c10 : t483 = true
   ·subst c10
    rw [if_pos rfl] at H
    by_cases c11 : t481 < 0
    ·rw [if_pos c11] at H
     have c11b0 := decide_eq_true c11
     clear c11
     (first | rw [c11b0] | (simp only [i64_w, i32_w]; rw [c11b0]) | skip)
     have H' := Aside0.mk H
     clear H
     have hcz12 := Z.c2 BK482.out
     obtain ⟨Ao13, co13, eo13⟩ := Kd.V_slice HO480.out
     subst eo13
     go_wp2_with (first | (go_at_call 8; (with_reducible refine (spec_TermOk.calls k t474 _ _ t475 _ _ t478 true _ ?q1 ?q2 ?q3 ?q4 A9.out).mono ?_); (case q1 => refine (Kd.R_reads' (e := 3) (base := w.heap.size) (ok := fun k_ => True) (n := t475.length) (c := co8) ?_).2.2; exact (by (with_reducible repeat (first | apply Kd.R_alloc | apply Kd.R_drewN | apply Kd.R_drew)); exact (Kd.R_mono (Kd.R_far (p := ⟨gb482, 1, none⟩) (Kd.R_far (p := ⟨gb482, 0, none⟩) (Kd.R_types HO477.out BK482.out (by decide)) (fun _ hk => hk.2) (.int .i64 t474)) (fun _ hk => hk.2) (.slice Ao8 t475.length co8)) (fun _ h_ => h_.1)))); (case q2 => exact (Kd.R_reads' HO477.out).2.1); (case q3 => refine (Kd.V_reads' (e := 35) (base := w.heap.size) (ok := fun k_ => (some k_ ≠ (.slice Ao8 t475.length co8 : Value).ownBlock ∧ k_ ≠ gb482)) (n := t478.length) (c := co13) ?_).2.2; exact (by (with_reducible repeat (first | apply Kd.V_alloc | apply Kd.V_drewN | apply Kd.V_drew)); exact (Kd.V_mono (Kd.V_far (p := ⟨gb482, 1, none⟩) (Kd.V_far (p := ⟨gb482, 0, none⟩) (Kd.V_mono HO480.out (fun k_ hk => (⟨hk, hk.2⟩ : _ ∧ k_ ≠ gb482))) (fun _ hk => hk.2) (.int .i64 t474)) (fun _ hk => hk.2) (.slice Ao8 t475.length co8)) (fun _ h_ => h_.1)))); (case q4 => exact (Kd.V_reads' HO480.out).2.1); rintro e w14 ⟨rfl, hb⟩; replace HO477 := Aside0.mk (Kd.R_below (by (with_reducible repeat (first | apply Kd.R_alloc | apply Kd.R_drewN | apply Kd.R_drew)); exact (Kd.R_mono (Kd.R_far (p := ⟨gb482, 1, none⟩) (Kd.R_far (p := ⟨gb482, 0, none⟩) (Kd.R_types HO477.out BK482.out (by decide)) (fun _ hk => hk.2) (.int .i64 t474)) (fun _ hk => hk.2) (.slice Ao8 t475.length co8)) (fun _ h_ => h_.1))) hb); replace HO480 := Aside0.mk (Kd.V_below (by (with_reducible repeat (first | apply Kd.V_alloc | apply Kd.V_drewN | apply Kd.V_drew)); exact (Kd.V_mono (Kd.V_far (p := ⟨gb482, 1, none⟩) (Kd.V_far (p := ⟨gb482, 0, none⟩) (Kd.V_mono HO480.out (fun k_ hk => (⟨hk, hk.2⟩ : _ ∧ k_ ≠ gb482))) (fun _ hk => hk.2) (.int .i64 t474)) (fun _ hk => hk.2) (.slice Ao8 t475.length co8)) (fun _ h_ => h_.1))) hb); replace BK482 := Aside0.mk (blk_below (g := gb482) (o := .cells #[.int .i64 t474, .slice Ao8 t475.length co8] 25 (0, 0)) (by (with_reducible repeat (first | refine blk_drewN ?_ _ | refine blk_drew ?_ | refine blk_alloc ?_ _)); refine blk_put (cs := #[.int .i64 t474, .slice none 0 0]) ?_ 1 _ rfl; (with_reducible repeat (first | refine blk_drewN ?_ _ | refine blk_drew ?_ | refine blk_alloc ?_ _)); refine blk_put (cs := #[.int .i64 0, .slice none 0 0]) ?_ 0 _ rfl; (with_reducible repeat (first | refine blk_drewN ?_ _ | refine blk_drew ?_ | refine blk_alloc ?_ _)); exact BK482.out) hb); replace HB := Z.st (Z.bs HB.out GE482.out) hb; (try clear hb); (try clear hb2); (try clear hk); (try clear hi)))
     repeat (go_quiet (first | (go_at_call 8; (with_reducible refine (spec_TermOk.calls k t474 _ _ t475 _ _ t478 true _ ?q1 ?q2 ?q3 ?q4 A9.out).mono ?_); (case q1 => refine (Kd.R_reads' (e := 3) (base := w.heap.size) (ok := fun k_ => True) (n := t475.length) (c := co8) ?_).2.2; exact (by (with_reducible repeat (first | apply Kd.R_alloc | apply Kd.R_drewN | apply Kd.R_drew)); exact (Kd.R_mono (Kd.R_far (p := ⟨gb482, 1, none⟩) (Kd.R_far (p := ⟨gb482, 0, none⟩) (Kd.R_types HO477.out BK482.out (by decide)) (fun _ hk => hk.2) (.int .i64 t474)) (fun _ hk => hk.2) (.slice Ao8 t475.length co8)) (fun _ h_ => h_.1)))); (case q2 => exact (Kd.R_reads' HO477.out).2.1); (case q3 => refine (Kd.V_reads' (e := 35) (base := w.heap.size) (ok := fun k_ => (some k_ ≠ (.slice Ao8 t475.length co8 : Value).ownBlock ∧ k_ ≠ gb482)) (n := t478.length) (c := co13) ?_).2.2; exact (by (with_reducible repeat (first | apply Kd.V_alloc | apply Kd.V_drewN | apply Kd.V_drew)); exact (Kd.V_mono (Kd.V_far (p := ⟨gb482, 1, none⟩) (Kd.V_far (p := ⟨gb482, 0, none⟩) (Kd.V_mono HO480.out (fun k_ hk => (⟨hk, hk.2⟩ : _ ∧ k_ ≠ gb482))) (fun _ hk => hk.2) (.int .i64 t474)) (fun _ hk => hk.2) (.slice Ao8 t475.length co8)) (fun _ h_ => h_.1)))); (case q4 => exact (Kd.V_reads' HO480.out).2.1); rintro e w14 ⟨rfl, hb⟩; replace HO477 := Aside0.mk (Kd.R_below (by (with_reducible repeat (first | apply Kd.R_alloc | apply Kd.R_drewN | apply Kd.R_drew)); exact (Kd.R_mono (Kd.R_far (p := ⟨gb482, 1, none⟩) (Kd.R_far (p := ⟨gb482, 0, none⟩) (Kd.R_types HO477.out BK482.out (by decide)) (fun _ hk => hk.2) (.int .i64 t474)) (fun _ hk => hk.2) (.slice Ao8 t475.length co8)) (fun _ h_ => h_.1))) hb); replace HO480 := Aside0.mk (Kd.V_below (by (with_reducible repeat (first | apply Kd.V_alloc | apply Kd.V_drewN | apply Kd.V_drew)); exact (Kd.V_mono (Kd.V_far (p := ⟨gb482, 1, none⟩) (Kd.V_far (p := ⟨gb482, 0, none⟩) (Kd.V_mono HO480.out (fun k_ hk => (⟨hk, hk.2⟩ : _ ∧ k_ ≠ gb482))) (fun _ hk => hk.2) (.int .i64 t474)) (fun _ hk => hk.2) (.slice Ao8 t475.length co8)) (fun _ h_ => h_.1))) hb); replace BK482 := Aside0.mk (blk_below (g := gb482) (o := .cells #[.int .i64 t474, .slice Ao8 t475.length co8] 25 (0, 0)) (by (with_reducible repeat (first | refine blk_drewN ?_ _ | refine blk_drew ?_ | refine blk_alloc ?_ _)); refine blk_put (cs := #[.int .i64 t474, .slice none 0 0]) ?_ 1 _ rfl; (with_reducible repeat (first | refine blk_drewN ?_ _ | refine blk_drew ?_ | refine blk_alloc ?_ _)); refine blk_put (cs := #[.int .i64 0, .slice none 0 0]) ?_ 0 _ rfl; (with_reducible repeat (first | refine blk_drewN ?_ _ | refine blk_drew ?_ | refine blk_alloc ?_ _)); exact BK482.out) hb); replace HB := Z.st (Z.bs HB.out GE482.out) hb; (try clear hb); (try clear hb2); (try clear hk); (try clear hi))); try go_wp2_with (first | (go_at_call 8; (with_reducible refine (spec_TermOk.calls k t474 _ _ t475 _ _ t478 true _ ?q1 ?q2 ?q3 ?q4 A9.out).mono ?_); (case q1 => refine (Kd.R_reads' (e := 3) (base := w.heap.size) (ok := fun k_ => True) (n := t475.length) (c := co8) ?_).2.2; exact (by (with_reducible repeat (first | apply Kd.R_alloc | apply Kd.R_drewN | apply Kd.R_drew)); exact (Kd.R_mono (Kd.R_far (p := ⟨gb482, 1, none⟩) (Kd.R_far (p := ⟨gb482, 0, none⟩) (Kd.R_types HO477.out BK482.out (by decide)) (fun _ hk => hk.2) (.int .i64 t474)) (fun _ hk => hk.2) (.slice Ao8 t475.length co8)) (fun _ h_ => h_.1)))); (case q2 => exact (Kd.R_reads' HO477.out).2.1); (case q3 => refine (Kd.V_reads' (e := 35) (base := w.heap.size) (ok := fun k_ => (some k_ ≠ (.slice Ao8 t475.length co8 : Value).ownBlock ∧ k_ ≠ gb482)) (n := t478.length) (c := co13) ?_).2.2; exact (by (with_reducible repeat (first | apply Kd.V_alloc | apply Kd.V_drewN | apply Kd.V_drew)); exact (Kd.V_mono (Kd.V_far (p := ⟨gb482, 1, none⟩) (Kd.V_far (p := ⟨gb482, 0, none⟩) (Kd.V_mono HO480.out (fun k_ hk => (⟨hk, hk.2⟩ : _ ∧ k_ ≠ gb482))) (fun _ hk => hk.2) (.int .i64 t474)) (fun _ hk => hk.2) (.slice Ao8 t475.length co8)) (fun _ h_ => h_.1)))); (case q4 => exact (Kd.V_reads' HO480.out).2.1); rintro e w14 ⟨rfl, hb⟩; replace HO477 := Aside0.mk (Kd.R_below (by (with_reducible repeat (first | apply Kd.R_alloc | apply Kd.R_drewN | apply Kd.R_drew)); exact (Kd.R_mono (Kd.R_far (p := ⟨gb482, 1, none⟩) (Kd.R_far (p := ⟨gb482, 0, none⟩) (Kd.R_types HO477.out BK482.out (by decide)) (fun _ hk => hk.2) (.int .i64 t474)) (fun _ hk => hk.2) (.slice Ao8 t475.length co8)) (fun _ h_ => h_.1))) hb); replace HO480 := Aside0.mk (Kd.V_below (by (with_reducible repeat (first | apply Kd.V_alloc | apply Kd.V_drewN | apply Kd.V_drew)); exact (Kd.V_mono (Kd.V_far (p := ⟨gb482, 1, none⟩) (Kd.V_far (p := ⟨gb482, 0, none⟩) (Kd.V_mono HO480.out (fun k_ hk => (⟨hk, hk.2⟩ : _ ∧ k_ ≠ gb482))) (fun _ hk => hk.2) (.int .i64 t474)) (fun _ hk => hk.2) (.slice Ao8 t475.length co8)) (fun _ h_ => h_.1))) hb); replace BK482 := Aside0.mk (blk_below (g := gb482) (o := .cells #[.int .i64 t474, .slice Ao8 t475.length co8] 25 (0, 0)) (by (with_reducible repeat (first | refine blk_drewN ?_ _ | refine blk_drew ?_ | refine blk_alloc ?_ _)); refine blk_put (cs := #[.int .i64 t474, .slice none 0 0]) ?_ 1 _ rfl; (with_reducible repeat (first | refine blk_drewN ?_ _ | refine blk_drew ?_ | refine blk_alloc ?_ _)); refine blk_put (cs := #[.int .i64 0, .slice none 0 0]) ?_ 0 _ rfl; (with_reducible repeat (first | refine blk_drewN ?_ _ | refine blk_drew ?_ | refine blk_alloc ?_ _)); exact BK482.out) hb); replace HB := Z.st (Z.bs HB.out GE482.out) hb; (try clear hb); (try clear hb2); (try clear hk); (try clear hi))))
     go_meet
     case rel => exact ⟨_, (true), (by first | rfl | (simp; done) | (simp [*]; done)), H', ⟨by first | omega | exact Nat.le_refl _⟩, ⟨by (with_reducible repeat (first | apply Kd.V_alloc | apply Kd.V_drewN | apply Kd.V_drew)); exact HO480.out⟩, ⟨by (with_reducible repeat (first | apply Kd.R_alloc | apply Kd.R_drewN | apply Kd.R_drew)); exact HO477.out⟩, ⟨by (with_reducible repeat (first | refine blk_drewN ?_ _ | refine blk_drew ?_ | refine blk_alloc ?_ _)); exact BK482.out⟩, ⟨Z.bs HB.out GE482.out⟩⟩
    ·rw [if_neg c11] at H
     have c11b0 := decide_eq_false c11
     clear c11
     (first | rw [c11b0] | (simp only [i64_w, i32_w]; rw [c11b0]) | skip)
     have H' := Aside0.mk H
     clear H
     have hcz15 := Z.c2 BK482.out
     obtain ⟨Ao16, co16, eo16⟩ := Kd.V_slice HO480.out
     subst eo16
     go_wp2_with (first | (go_at_call 8; (with_reducible refine (spec_TermOk.calls k t474 _ _ t475 _ _ t478 true _ ?q1 ?q2 ?q3 ?q4 A9.out).mono ?_); (case q1 => refine (Kd.R_reads' (e := 3) (base := w.heap.size) (ok := fun k_ => True) (n := t475.length) (c := co8) ?_).2.2; exact (by (with_reducible repeat (first | apply Kd.R_alloc | apply Kd.R_drewN | apply Kd.R_drew)); exact (Kd.R_mono (Kd.R_far (p := ⟨gb482, 1, none⟩) (Kd.R_far (p := ⟨gb482, 0, none⟩) (Kd.R_types HO477.out BK482.out (by decide)) (fun _ hk => hk.2) (.int .i64 t474)) (fun _ hk => hk.2) (.slice Ao8 t475.length co8)) (fun _ h_ => h_.1)))); (case q2 => exact (Kd.R_reads' HO477.out).2.1); (case q3 => refine (Kd.V_reads' (e := 35) (base := w.heap.size) (ok := fun k_ => (some k_ ≠ (.slice Ao8 t475.length co8 : Value).ownBlock ∧ k_ ≠ gb482)) (n := t478.length) (c := co16) ?_).2.2; exact (by (with_reducible repeat (first | apply Kd.V_alloc | apply Kd.V_drewN | apply Kd.V_drew)); exact (Kd.V_mono (Kd.V_far (p := ⟨gb482, 1, none⟩) (Kd.V_far (p := ⟨gb482, 0, none⟩) (Kd.V_mono HO480.out (fun k_ hk => (⟨hk, hk.2⟩ : _ ∧ k_ ≠ gb482))) (fun _ hk => hk.2) (.int .i64 t474)) (fun _ hk => hk.2) (.slice Ao8 t475.length co8)) (fun _ h_ => h_.1)))); (case q4 => exact (Kd.V_reads' HO480.out).2.1); rintro e w17 ⟨rfl, hb⟩; replace HO477 := Aside0.mk (Kd.R_below (by (with_reducible repeat (first | apply Kd.R_alloc | apply Kd.R_drewN | apply Kd.R_drew)); exact (Kd.R_mono (Kd.R_far (p := ⟨gb482, 1, none⟩) (Kd.R_far (p := ⟨gb482, 0, none⟩) (Kd.R_types HO477.out BK482.out (by decide)) (fun _ hk => hk.2) (.int .i64 t474)) (fun _ hk => hk.2) (.slice Ao8 t475.length co8)) (fun _ h_ => h_.1))) hb); replace HO480 := Aside0.mk (Kd.V_below (by (with_reducible repeat (first | apply Kd.V_alloc | apply Kd.V_drewN | apply Kd.V_drew)); exact (Kd.V_mono (Kd.V_far (p := ⟨gb482, 1, none⟩) (Kd.V_far (p := ⟨gb482, 0, none⟩) (Kd.V_mono HO480.out (fun k_ hk => (⟨hk, hk.2⟩ : _ ∧ k_ ≠ gb482))) (fun _ hk => hk.2) (.int .i64 t474)) (fun _ hk => hk.2) (.slice Ao8 t475.length co8)) (fun _ h_ => h_.1))) hb); replace BK482 := Aside0.mk (blk_below (g := gb482) (o := .cells #[.int .i64 t474, .slice Ao8 t475.length co8] 25 (0, 0)) (by (with_reducible repeat (first | refine blk_drewN ?_ _ | refine blk_drew ?_ | refine blk_alloc ?_ _)); refine blk_put (cs := #[.int .i64 t474, .slice none 0 0]) ?_ 1 _ rfl; (with_reducible repeat (first | refine blk_drewN ?_ _ | refine blk_drew ?_ | refine blk_alloc ?_ _)); refine blk_put (cs := #[.int .i64 0, .slice none 0 0]) ?_ 0 _ rfl; (with_reducible repeat (first | refine blk_drewN ?_ _ | refine blk_drew ?_ | refine blk_alloc ?_ _)); exact BK482.out) hb); replace HB := Z.st (Z.bs HB.out GE482.out) hb; (try clear hb); (try clear hb2); (try clear hk); (try clear hi); have hcz18 := Z.c2 BK482.out))
     repeat (go_quiet (first | (go_at_call 8; (with_reducible refine (spec_TermOk.calls k t474 _ _ t475 _ _ t478 true _ ?q1 ?q2 ?q3 ?q4 A9.out).mono ?_); (case q1 => refine (Kd.R_reads' (e := 3) (base := w.heap.size) (ok := fun k_ => True) (n := t475.length) (c := co8) ?_).2.2; exact (by (with_reducible repeat (first | apply Kd.R_alloc | apply Kd.R_drewN | apply Kd.R_drew)); exact (Kd.R_mono (Kd.R_far (p := ⟨gb482, 1, none⟩) (Kd.R_far (p := ⟨gb482, 0, none⟩) (Kd.R_types HO477.out BK482.out (by decide)) (fun _ hk => hk.2) (.int .i64 t474)) (fun _ hk => hk.2) (.slice Ao8 t475.length co8)) (fun _ h_ => h_.1)))); (case q2 => exact (Kd.R_reads' HO477.out).2.1); (case q3 => refine (Kd.V_reads' (e := 35) (base := w.heap.size) (ok := fun k_ => (some k_ ≠ (.slice Ao8 t475.length co8 : Value).ownBlock ∧ k_ ≠ gb482)) (n := t478.length) (c := co16) ?_).2.2; exact (by (with_reducible repeat (first | apply Kd.V_alloc | apply Kd.V_drewN | apply Kd.V_drew)); exact (Kd.V_mono (Kd.V_far (p := ⟨gb482, 1, none⟩) (Kd.V_far (p := ⟨gb482, 0, none⟩) (Kd.V_mono HO480.out (fun k_ hk => (⟨hk, hk.2⟩ : _ ∧ k_ ≠ gb482))) (fun _ hk => hk.2) (.int .i64 t474)) (fun _ hk => hk.2) (.slice Ao8 t475.length co8)) (fun _ h_ => h_.1)))); (case q4 => exact (Kd.V_reads' HO480.out).2.1); rintro e w17 ⟨rfl, hb⟩; replace HO477 := Aside0.mk (Kd.R_below (by (with_reducible repeat (first | apply Kd.R_alloc | apply Kd.R_drewN | apply Kd.R_drew)); exact (Kd.R_mono (Kd.R_far (p := ⟨gb482, 1, none⟩) (Kd.R_far (p := ⟨gb482, 0, none⟩) (Kd.R_types HO477.out BK482.out (by decide)) (fun _ hk => hk.2) (.int .i64 t474)) (fun _ hk => hk.2) (.slice Ao8 t475.length co8)) (fun _ h_ => h_.1))) hb); replace HO480 := Aside0.mk (Kd.V_below (by (with_reducible repeat (first | apply Kd.V_alloc | apply Kd.V_drewN | apply Kd.V_drew)); exact (Kd.V_mono (Kd.V_far (p := ⟨gb482, 1, none⟩) (Kd.V_far (p := ⟨gb482, 0, none⟩) (Kd.V_mono HO480.out (fun k_ hk => (⟨hk, hk.2⟩ : _ ∧ k_ ≠ gb482))) (fun _ hk => hk.2) (.int .i64 t474)) (fun _ hk => hk.2) (.slice Ao8 t475.length co8)) (fun _ h_ => h_.1))) hb); replace BK482 := Aside0.mk (blk_below (g := gb482) (o := .cells #[.int .i64 t474, .slice Ao8 t475.length co8] 25 (0, 0)) (by (with_reducible repeat (first | refine blk_drewN ?_ _ | refine blk_drew ?_ | refine blk_alloc ?_ _)); refine blk_put (cs := #[.int .i64 t474, .slice none 0 0]) ?_ 1 _ rfl; (with_reducible repeat (first | refine blk_drewN ?_ _ | refine blk_drew ?_ | refine blk_alloc ?_ _)); refine blk_put (cs := #[.int .i64 0, .slice none 0 0]) ?_ 0 _ rfl; (with_reducible repeat (first | refine blk_drewN ?_ _ | refine blk_drew ?_ | refine blk_alloc ?_ _)); exact BK482.out) hb); replace HB := Z.st (Z.bs HB.out GE482.out) hb; (try clear hb); (try clear hb2); (try clear hk); (try clear hi); have hcz18 := Z.c2 BK482.out)); try go_wp2_with (first | (go_at_call 8; (with_reducible refine (spec_TermOk.calls k t474 _ _ t475 _ _ t478 true _ ?q1 ?q2 ?q3 ?q4 A9.out).mono ?_); (case q1 => refine (Kd.R_reads' (e := 3) (base := w.heap.size) (ok := fun k_ => True) (n := t475.length) (c := co8) ?_).2.2; exact (by (with_reducible repeat (first | apply Kd.R_alloc | apply Kd.R_drewN | apply Kd.R_drew)); exact (Kd.R_mono (Kd.R_far (p := ⟨gb482, 1, none⟩) (Kd.R_far (p := ⟨gb482, 0, none⟩) (Kd.R_types HO477.out BK482.out (by decide)) (fun _ hk => hk.2) (.int .i64 t474)) (fun _ hk => hk.2) (.slice Ao8 t475.length co8)) (fun _ h_ => h_.1)))); (case q2 => exact (Kd.R_reads' HO477.out).2.1); (case q3 => refine (Kd.V_reads' (e := 35) (base := w.heap.size) (ok := fun k_ => (some k_ ≠ (.slice Ao8 t475.length co8 : Value).ownBlock ∧ k_ ≠ gb482)) (n := t478.length) (c := co16) ?_).2.2; exact (by (with_reducible repeat (first | apply Kd.V_alloc | apply Kd.V_drewN | apply Kd.V_drew)); exact (Kd.V_mono (Kd.V_far (p := ⟨gb482, 1, none⟩) (Kd.V_far (p := ⟨gb482, 0, none⟩) (Kd.V_mono HO480.out (fun k_ hk => (⟨hk, hk.2⟩ : _ ∧ k_ ≠ gb482))) (fun _ hk => hk.2) (.int .i64 t474)) (fun _ hk => hk.2) (.slice Ao8 t475.length co8)) (fun _ h_ => h_.1)))); (case q4 => exact (Kd.V_reads' HO480.out).2.1); rintro e w17 ⟨rfl, hb⟩; replace HO477 := Aside0.mk (Kd.R_below (by (with_reducible repeat (first | apply Kd.R_alloc | apply Kd.R_drewN | apply Kd.R_drew)); exact (Kd.R_mono (Kd.R_far (p := ⟨gb482, 1, none⟩) (Kd.R_far (p := ⟨gb482, 0, none⟩) (Kd.R_types HO477.out BK482.out (by decide)) (fun _ hk => hk.2) (.int .i64 t474)) (fun _ hk => hk.2) (.slice Ao8 t475.length co8)) (fun _ h_ => h_.1))) hb); replace HO480 := Aside0.mk (Kd.V_below (by (with_reducible repeat (first | apply Kd.V_alloc | apply Kd.V_drewN | apply Kd.V_drew)); exact (Kd.V_mono (Kd.V_far (p := ⟨gb482, 1, none⟩) (Kd.V_far (p := ⟨gb482, 0, none⟩) (Kd.V_mono HO480.out (fun k_ hk => (⟨hk, hk.2⟩ : _ ∧ k_ ≠ gb482))) (fun _ hk => hk.2) (.int .i64 t474)) (fun _ hk => hk.2) (.slice Ao8 t475.length co8)) (fun _ h_ => h_.1))) hb); replace BK482 := Aside0.mk (blk_below (g := gb482) (o := .cells #[.int .i64 t474, .slice Ao8 t475.length co8] 25 (0, 0)) (by (with_reducible repeat (first | refine blk_drewN ?_ _ | refine blk_drew ?_ | refine blk_alloc ?_ _)); refine blk_put (cs := #[.int .i64 t474, .slice none 0 0]) ?_ 1 _ rfl; (with_reducible repeat (first | refine blk_drewN ?_ _ | refine blk_drew ?_ | refine blk_alloc ?_ _)); refine blk_put (cs := #[.int .i64 0, .slice none 0 0]) ?_ 0 _ rfl; (with_reducible repeat (first | refine blk_drewN ?_ _ | refine blk_drew ?_ | refine blk_alloc ?_ _)); exact BK482.out) hb); replace HB := Z.st (Z.bs HB.out GE482.out) hb; (try clear hb); (try clear hb2); (try clear hk); (try clear hi); have hcz18 := Z.c2 BK482.out)))
     go_meet
     case rel => exact ⟨_, (decide (t481 ≥ t474)), (by first | rfl | (simp; done) | (simp [*]; done)), H', ⟨by first | omega | exact Nat.le_refl _⟩, ⟨by (with_reducible repeat (first | apply Kd.V_alloc | apply Kd.V_drewN | apply Kd.V_drew)); exact HO480.out⟩, ⟨by (with_reducible repeat (first | apply Kd.R_alloc | apply Kd.R_drewN | apply Kd.R_drew)); exact HO477.out⟩, ⟨by (with_reducible repeat (first | refine blk_drewN ?_ _ | refine blk_drew ?_ | refine blk_alloc ?_ _)); exact BK482.out⟩, ⟨Z.bs HB.out GE482.out⟩⟩
   ·replace c10 := Bool.eq_false_iff.mpr c10
    subst c10
    rw [if_neg (show ¬ (false = true) by decide)] at H
    have H' := Aside0.mk H
    clear H
    have hcz19 := Z.c2 BK482.out
    obtain ⟨Ao20, co20, eo20⟩ := Kd.V_slice HO480.out
    subst eo20
    go_wp2_with (first | (go_at_call 8; (with_reducible refine (spec_TermOk.calls k t474 _ _ t475 _ _ t478 false _ ?q1 ?q2 ?q3 ?q4 A9.out).mono ?_); (case q1 => refine (Kd.R_reads' (e := 3) (base := w.heap.size) (ok := fun k_ => True) (n := t475.length) (c := co8) ?_).2.2; exact (by (with_reducible repeat (first | apply Kd.R_alloc | apply Kd.R_drewN | apply Kd.R_drew)); exact (Kd.R_mono (Kd.R_far (p := ⟨gb482, 1, none⟩) (Kd.R_far (p := ⟨gb482, 0, none⟩) (Kd.R_types HO477.out BK482.out (by decide)) (fun _ hk => hk.2) (.int .i64 t474)) (fun _ hk => hk.2) (.slice Ao8 t475.length co8)) (fun _ h_ => h_.1)))); (case q2 => exact (Kd.R_reads' HO477.out).2.1); (case q3 => refine (Kd.V_reads' (e := 35) (base := w.heap.size) (ok := fun k_ => (some k_ ≠ (.slice Ao8 t475.length co8 : Value).ownBlock ∧ k_ ≠ gb482)) (n := t478.length) (c := co20) ?_).2.2; exact (by (with_reducible repeat (first | apply Kd.V_alloc | apply Kd.V_drewN | apply Kd.V_drew)); exact (Kd.V_mono (Kd.V_far (p := ⟨gb482, 1, none⟩) (Kd.V_far (p := ⟨gb482, 0, none⟩) (Kd.V_mono HO480.out (fun k_ hk => (⟨hk, hk.2⟩ : _ ∧ k_ ≠ gb482))) (fun _ hk => hk.2) (.int .i64 t474)) (fun _ hk => hk.2) (.slice Ao8 t475.length co8)) (fun _ h_ => h_.1)))); (case q4 => exact (Kd.V_reads' HO480.out).2.1); rintro e w21 ⟨rfl, hb⟩; replace HO477 := Aside0.mk (Kd.R_below (by (with_reducible repeat (first | apply Kd.R_alloc | apply Kd.R_drewN | apply Kd.R_drew)); exact (Kd.R_mono (Kd.R_far (p := ⟨gb482, 1, none⟩) (Kd.R_far (p := ⟨gb482, 0, none⟩) (Kd.R_types HO477.out BK482.out (by decide)) (fun _ hk => hk.2) (.int .i64 t474)) (fun _ hk => hk.2) (.slice Ao8 t475.length co8)) (fun _ h_ => h_.1))) hb); replace HO480 := Aside0.mk (Kd.V_below (by (with_reducible repeat (first | apply Kd.V_alloc | apply Kd.V_drewN | apply Kd.V_drew)); exact (Kd.V_mono (Kd.V_far (p := ⟨gb482, 1, none⟩) (Kd.V_far (p := ⟨gb482, 0, none⟩) (Kd.V_mono HO480.out (fun k_ hk => (⟨hk, hk.2⟩ : _ ∧ k_ ≠ gb482))) (fun _ hk => hk.2) (.int .i64 t474)) (fun _ hk => hk.2) (.slice Ao8 t475.length co8)) (fun _ h_ => h_.1))) hb); replace BK482 := Aside0.mk (blk_below (g := gb482) (o := .cells #[.int .i64 t474, .slice Ao8 t475.length co8] 25 (0, 0)) (by (with_reducible repeat (first | refine blk_drewN ?_ _ | refine blk_drew ?_ | refine blk_alloc ?_ _)); refine blk_put (cs := #[.int .i64 t474, .slice none 0 0]) ?_ 1 _ rfl; (with_reducible repeat (first | refine blk_drewN ?_ _ | refine blk_drew ?_ | refine blk_alloc ?_ _)); refine blk_put (cs := #[.int .i64 0, .slice none 0 0]) ?_ 0 _ rfl; (with_reducible repeat (first | refine blk_drewN ?_ _ | refine blk_drew ?_ | refine blk_alloc ?_ _)); exact BK482.out) hb); replace HB := Z.st (Z.bs HB.out GE482.out) hb; (try clear hb); (try clear hb2); (try clear hk); (try clear hi)))
    repeat (go_quiet (first | (go_at_call 8; (with_reducible refine (spec_TermOk.calls k t474 _ _ t475 _ _ t478 false _ ?q1 ?q2 ?q3 ?q4 A9.out).mono ?_); (case q1 => refine (Kd.R_reads' (e := 3) (base := w.heap.size) (ok := fun k_ => True) (n := t475.length) (c := co8) ?_).2.2; exact (by (with_reducible repeat (first | apply Kd.R_alloc | apply Kd.R_drewN | apply Kd.R_drew)); exact (Kd.R_mono (Kd.R_far (p := ⟨gb482, 1, none⟩) (Kd.R_far (p := ⟨gb482, 0, none⟩) (Kd.R_types HO477.out BK482.out (by decide)) (fun _ hk => hk.2) (.int .i64 t474)) (fun _ hk => hk.2) (.slice Ao8 t475.length co8)) (fun _ h_ => h_.1)))); (case q2 => exact (Kd.R_reads' HO477.out).2.1); (case q3 => refine (Kd.V_reads' (e := 35) (base := w.heap.size) (ok := fun k_ => (some k_ ≠ (.slice Ao8 t475.length co8 : Value).ownBlock ∧ k_ ≠ gb482)) (n := t478.length) (c := co20) ?_).2.2; exact (by (with_reducible repeat (first | apply Kd.V_alloc | apply Kd.V_drewN | apply Kd.V_drew)); exact (Kd.V_mono (Kd.V_far (p := ⟨gb482, 1, none⟩) (Kd.V_far (p := ⟨gb482, 0, none⟩) (Kd.V_mono HO480.out (fun k_ hk => (⟨hk, hk.2⟩ : _ ∧ k_ ≠ gb482))) (fun _ hk => hk.2) (.int .i64 t474)) (fun _ hk => hk.2) (.slice Ao8 t475.length co8)) (fun _ h_ => h_.1)))); (case q4 => exact (Kd.V_reads' HO480.out).2.1); rintro e w21 ⟨rfl, hb⟩; replace HO477 := Aside0.mk (Kd.R_below (by (with_reducible repeat (first | apply Kd.R_alloc | apply Kd.R_drewN | apply Kd.R_drew)); exact (Kd.R_mono (Kd.R_far (p := ⟨gb482, 1, none⟩) (Kd.R_far (p := ⟨gb482, 0, none⟩) (Kd.R_types HO477.out BK482.out (by decide)) (fun _ hk => hk.2) (.int .i64 t474)) (fun _ hk => hk.2) (.slice Ao8 t475.length co8)) (fun _ h_ => h_.1))) hb); replace HO480 := Aside0.mk (Kd.V_below (by (with_reducible repeat (first | apply Kd.V_alloc | apply Kd.V_drewN | apply Kd.V_drew)); exact (Kd.V_mono (Kd.V_far (p := ⟨gb482, 1, none⟩) (Kd.V_far (p := ⟨gb482, 0, none⟩) (Kd.V_mono HO480.out (fun k_ hk => (⟨hk, hk.2⟩ : _ ∧ k_ ≠ gb482))) (fun _ hk => hk.2) (.int .i64 t474)) (fun _ hk => hk.2) (.slice Ao8 t475.length co8)) (fun _ h_ => h_.1))) hb); replace BK482 := Aside0.mk (blk_below (g := gb482) (o := .cells #[.int .i64 t474, .slice Ao8 t475.length co8] 25 (0, 0)) (by (with_reducible repeat (first | refine blk_drewN ?_ _ | refine blk_drew ?_ | refine blk_alloc ?_ _)); refine blk_put (cs := #[.int .i64 t474, .slice none 0 0]) ?_ 1 _ rfl; (with_reducible repeat (first | refine blk_drewN ?_ _ | refine blk_drew ?_ | refine blk_alloc ?_ _)); refine blk_put (cs := #[.int .i64 0, .slice none 0 0]) ?_ 0 _ rfl; (with_reducible repeat (first | refine blk_drewN ?_ _ | refine blk_drew ?_ | refine blk_alloc ?_ _)); exact BK482.out) hb); replace HB := Z.st (Z.bs HB.out GE482.out) hb; (try clear hb); (try clear hb2); (try clear hk); (try clear hi))); try go_wp2_with (first | (go_at_call 8; (with_reducible refine (spec_TermOk.calls k t474 _ _ t475 _ _ t478 false _ ?q1 ?q2 ?q3 ?q4 A9.out).mono ?_); (case q1 => refine (Kd.R_reads' (e := 3) (base := w.heap.size) (ok := fun k_ => True) (n := t475.length) (c := co8) ?_).2.2; exact (by (with_reducible repeat (first | apply Kd.R_alloc | apply Kd.R_drewN | apply Kd.R_drew)); exact (Kd.R_mono (Kd.R_far (p := ⟨gb482, 1, none⟩) (Kd.R_far (p := ⟨gb482, 0, none⟩) (Kd.R_types HO477.out BK482.out (by decide)) (fun _ hk => hk.2) (.int .i64 t474)) (fun _ hk => hk.2) (.slice Ao8 t475.length co8)) (fun _ h_ => h_.1)))); (case q2 => exact (Kd.R_reads' HO477.out).2.1); (case q3 => refine (Kd.V_reads' (e := 35) (base := w.heap.size) (ok := fun k_ => (some k_ ≠ (.slice Ao8 t475.length co8 : Value).ownBlock ∧ k_ ≠ gb482)) (n := t478.length) (c := co20) ?_).2.2; exact (by (with_reducible repeat (first | apply Kd.V_alloc | apply Kd.V_drewN | apply Kd.V_drew)); exact (Kd.V_mono (Kd.V_far (p := ⟨gb482, 1, none⟩) (Kd.V_far (p := ⟨gb482, 0, none⟩) (Kd.V_mono HO480.out (fun k_ hk => (⟨hk, hk.2⟩ : _ ∧ k_ ≠ gb482))) (fun _ hk => hk.2) (.int .i64 t474)) (fun _ hk => hk.2) (.slice Ao8 t475.length co8)) (fun _ h_ => h_.1)))); (case q4 => exact (Kd.V_reads' HO480.out).2.1); rintro e w21 ⟨rfl, hb⟩; replace HO477 := Aside0.mk (Kd.R_below (by (with_reducible repeat (first | apply Kd.R_alloc | apply Kd.R_drewN | apply Kd.R_drew)); exact (Kd.R_mono (Kd.R_far (p := ⟨gb482, 1, none⟩) (Kd.R_far (p := ⟨gb482, 0, none⟩) (Kd.R_types HO477.out BK482.out (by decide)) (fun _ hk => hk.2) (.int .i64 t474)) (fun _ hk => hk.2) (.slice Ao8 t475.length co8)) (fun _ h_ => h_.1))) hb); replace HO480 := Aside0.mk (Kd.V_below (by (with_reducible repeat (first | apply Kd.V_alloc | apply Kd.V_drewN | apply Kd.V_drew)); exact (Kd.V_mono (Kd.V_far (p := ⟨gb482, 1, none⟩) (Kd.V_far (p := ⟨gb482, 0, none⟩) (Kd.V_mono HO480.out (fun k_ hk => (⟨hk, hk.2⟩ : _ ∧ k_ ≠ gb482))) (fun _ hk => hk.2) (.int .i64 t474)) (fun _ hk => hk.2) (.slice Ao8 t475.length co8)) (fun _ h_ => h_.1))) hb); replace BK482 := Aside0.mk (blk_below (g := gb482) (o := .cells #[.int .i64 t474, .slice Ao8 t475.length co8] 25 (0, 0)) (by (with_reducible repeat (first | refine blk_drewN ?_ _ | refine blk_drew ?_ | refine blk_alloc ?_ _)); refine blk_put (cs := #[.int .i64 t474, .slice none 0 0]) ?_ 1 _ rfl; (with_reducible repeat (first | refine blk_drewN ?_ _ | refine blk_drew ?_ | refine blk_alloc ?_ _)); refine blk_put (cs := #[.int .i64 0, .slice none 0 0]) ?_ 0 _ rfl; (with_reducible repeat (first | refine blk_drewN ?_ _ | refine blk_drew ?_ | refine blk_alloc ?_ _)); exact BK482.out) hb); replace HB := Z.st (Z.bs HB.out GE482.out) hb; (try clear hb); (try clear hb2); (try clear hk); (try clear hi))))
    go_meet
    case rel => exact ⟨_, (true), (by first | rfl | (simp; done) | (simp [*]; done)), H', ⟨by first | omega | exact Nat.le_refl _⟩, ⟨by (with_reducible repeat (first | apply Kd.V_alloc | apply Kd.V_drewN | apply Kd.V_drew)); exact HO480.out⟩, ⟨by (with_reducible repeat (first | apply Kd.R_alloc | apply Kd.R_drewN | apply Kd.R_drew)); exact HO477.out⟩, ⟨by (with_reducible repeat (first | refine blk_drewN ?_ _ | refine blk_drew ?_ | refine blk_alloc ?_ _)); exact BK482.out⟩, ⟨Z.bs HB.out GE482.out⟩⟩
  case rest =>
   clear HC4
   try clear c1
   try clear c2
   try clear c2b0
   try clear c2b1
   try clear p2
   try clear c4
   try clear c10
   try clear c11
   try clear c11b0
   try clear hcz12_0
   try clear hcz12_1
   try clear hcz15_0
   try clear hcz15_1
   try clear hcz18_0
   try clear hcz18_1
   try clear hcz19_0
   try clear hcz19_1
   try clear hcz7_0
   try clear hcz7_1
   try clear hfz12_0
   try clear hfz12_1
   try clear hfz15_0
   try clear hfz15_1
   try clear hfz18_0
   try clear hfz18_1
   try clear hfz19_0
   try clear hfz19_1
   try clear hfz7_0
   try clear hfz7_1
   obtain ⟨kq, x33_3, rfl, HA, HJ3, HO_4, HO_483001, BK482, HB⟩ := hcut
   cases kq with
   | zero => exact absurd HA.out (by simp [laws_FnSameMembers.j0])
   | succ kj3 =>
    have H := HA.out
    clear HA
    simp only [laws_FnSameMembers.j0] at H
    by_cases c22 : x33_3 = true
    ·subst c22
     rw [if_pos rfl] at H
     replace H := Option.bind_eq_some_iff.mp H
     obtain ⟨t484, A230, H⟩ := H
     try dsimp only at H
     have A23 := Aside0.mk A230
     clear A230
     obtain rfl := Option.some.inj H
     go_wp2_with (first | (go_at_call 9; (with_reducible refine (laws_alive.calls  t484 _ A23.out).mono ?_); rintro e w' ⟨rfl, ⟨nd, rfl⟩⟩; (try first | exact ⟨rfl, _, World.drewN_drewN _ _ _⟩ | exact ⟨rfl, _, Eq.trans (World.drewN_drewN _ _ _) (congrArg (World.drewN _) (Nat.add_assoc _ _ _))⟩)))
     repeat (go_quiet (first | (go_at_call 9; (with_reducible refine (laws_alive.calls  t484 _ A23.out).mono ?_); rintro e w' ⟨rfl, ⟨nd, rfl⟩⟩; (try first | exact ⟨rfl, _, World.drewN_drewN _ _ _⟩ | exact ⟨rfl, _, Eq.trans (World.drewN_drewN _ _ _) (congrArg (World.drewN _) (Nat.add_assoc _ _ _))⟩))); try go_wp2_with (first | (go_at_call 9; (with_reducible refine (laws_alive.calls  t484 _ A23.out).mono ?_); rintro e w' ⟨rfl, ⟨nd, rfl⟩⟩; (try first | exact ⟨rfl, _, World.drewN_drewN _ _ _⟩ | exact ⟨rfl, _, Eq.trans (World.drewN_drewN _ _ _) (congrArg (World.drewN _) (Nat.add_assoc _ _ _))⟩))))
     go_ret
     exact ⟨by first | rfl | (simp [errW_none, errW_some] <;> rfl) | (simp [*, errW_none, errW_some] <;> rfl), Z.bs HB.out GE482.out⟩
    ·replace c22 := Bool.eq_false_iff.mpr c22
     subst c22
     rw [if_neg (show ¬ (false = true) by decide)] at H
     obtain ⟨c24, H⟩ := Z.ifp H
     have c24b0 : decide (0 < (t478.length : Int)) = true := decide_eq_true c24
     have c24b1 : decide (0 < t478.length) = true := decide_eq_true (by omega)
     clear c24
     obtain ⟨y486, hy486⟩ : ∃ y_ : List (S35), y_ = (([(⟨(rd_T35 t478 0).f0, (rd_T35 t478 0).f1, (rd_T35 t478 0).f2⟩ : S35)] : List (S35))) := ⟨_, rfl⟩
     replace H : (if 0 ≤ ((rd_T35 t478 0).f1) then (if ((rd_T35 t478 0).f1) < (t475.length : Int) then (laws_FnSameMembers.l0 kj3 t481 y486 (rd t475 ((rd_T35 t478 0).f1)) 0 t474 t475) else (none)) else (none)) = some r := by first | (rw [hy486]; with_reducible exact H) | (have H2_ := (Option.bind_some _ _).symm.trans H; rw [hy486]; with_reducible exact H2_) | (have H2_ := (Option.bind_some _ _).symm.trans H; with_reducible exact H2_) | with_reducible exact H | (rw [hy486]; exact H) | exact H
     have Ny486 := Aside0.mk hy486
     clear hy486
     obtain ⟨c25, H⟩ := Z.ifp H
     have c25b0 : decide (0 ≤ ((rd_T35 t478 0).f1)) = true := decide_eq_true c25
     clear c25
     obtain ⟨c26, H⟩ := Z.ifp H
     have c26b0 : decide (((rd_T35 t478 0).f1) < (t475.length : Int)) = true := decide_eq_true c26
     clear c26
     have H' := Aside0.mk H
     clear H
     obtain ⟨Ao27, co27, eo27⟩ := Kd.V_slice HO_4.out
     subst eo27
     have p485 : 0 ≤ (0 : Int) := (by omega)
     have q485 : 0 < (t478.length : Int) := Z.od
     obtain ⟨ad485, e485, hx485_0, hx485_1, hx485_2⟩ := at_T35 (Kd.V_reads' HO_4.out).2.2 0 p485 q485
     cases e485
     have qi485 : (0 < t478.length) = True := eq_true (by omega)
     (try rw [show ((0 : Int)).toNat = 0 from rfl] at hx485_0)
     (try rw [show 0 * 3 = 0 from rfl] at hx485_0)
     (try rw [Addr.add_zero'] at hx485_0)
     (try rw [show ((0 : Int)).toNat = 0 from rfl] at hx485_1)
     (try rw [show 0 * 3 = 0 from rfl] at hx485_1)
     (try rw [Addr.add_zero'] at hx485_1)
     (try rw [show ((0 : Int)).toNat = 0 from rfl] at hx485_2)
     (try rw [show 0 * 3 = 0 from rfl] at hx485_2)
     (try rw [Addr.add_zero'] at hx485_2)
     replace p485 := eq_true p485
     replace q485 := eq_true q485
     go_wp2_with (first | ((with_reducible refine gate_dst (N := 38) rfl ?_); refine Kd.R_lit k35 _ 35 ?hg (N := 38) ?hd (xs := ([(⟨(rd_T35 t478 0).f0, (rd_T35 t478 0).f1, (rd_T35 t478 0).f2⟩ : S35)] : List (S35))) (inner := [.int .i64 ((rd_T35 t478 0).f0), .int .i64 ((rd_T35 t478 0).f1), .int .i64 ((rd_T35 t478 0).f2)]) (ok := fun _ => True) (okp := fun _ => True) ?hr ?hp (fun _ hk => hk) trivial (Below.refl _ _) (Nat.le_refl _) (by simp) ?_; (case hd | hg => rfl); (case hr => first | (go_simp; done) | (go_simp; rfl)); (case hp => exact (Reps.c3 (show Kd.M k35 _ _ _ (⟨(rd_T35 t478 0).f0, (rd_T35 t478 0).f1, (rd_T35 t478 0).f2⟩ : S35) [.int .i64 ((rd_T35 t478 0).f0), .int .i64 ((rd_T35 t478 0).f1), .int .i64 ((rd_T35 t478 0).f2)] from (k35_mkM _ _ _ (⟨(rd_T35 t478 0).f0, (rd_T35 t478 0).f1, (rd_T35 t478 0).f2⟩ : S35) )) (Reps.none _ _))); intro v487 w28 ho29 hb hg_ hnew_; clear hg_ hnew_; (first | rw [← Ny486.out] at ho29 | (simp only [Int.reduceToNat] at ho29; rw [← Ny486.out] at ho29)); replace HO_4 := Aside0.mk (Kd.V_elder' (by (with_reducible repeat (first | apply Kd.V_alloc | apply Kd.V_drewN | apply Kd.V_drew)); exact HO_4.out) (Kd.R_base ho29) hb); replace HO_483001 := Aside0.mk (Kd.R_below (by (with_reducible repeat (first | apply Kd.R_alloc | apply Kd.R_drewN | apply Kd.R_drew)); exact HO_483001.out) hb); have HO488 := Aside0.mk (Kd.R_lower ho29 (below_size (Z.bs HB.out GE482.out))); replace BK482 := Z.bb BK482 hb; replace HB := Z.st (Z.bs HB.out GE482.out) hb; clear hb ho29; have hcz30 := Z.c2 BK482.out; have p489 : 0 ≤ (0 : Int) := (by omega); have q489 : 0 < (t478.length : Int) := Z.od; obtain ⟨ad489, e489, hx489_0, hx489_1, hx489_2⟩ := at_T35 (Kd.V_reads' HO_4.out).2.2 0 p489 q489; obtain rfl : ad485 = ad489 := (by injection e489); have qi489 : (0 < t478.length) = True := eq_true (by omega); (try rw [show ((0 : Int)).toNat = 0 from rfl] at hx489_0); (try rw [show 0 * 3 = 0 from rfl] at hx489_0); (try rw [Addr.add_zero'] at hx489_0); (try rw [show ((0 : Int)).toNat = 0 from rfl] at hx489_1); (try rw [show 0 * 3 = 0 from rfl] at hx489_1); (try rw [Addr.add_zero'] at hx489_1); (try rw [show ((0 : Int)).toNat = 0 from rfl] at hx489_2); (try rw [show 0 * 3 = 0 from rfl] at hx489_2); (try rw [Addr.add_zero'] at hx489_2); replace p489 := eq_true p489; replace q489 := eq_true q489; have p490 : 0 ≤ (((rd_T35 t478 0).f1) : Int) := Z.od; have q490 : ((rd_T35 t478 0).f1) < (t475.length : Int) := Z.od; obtain ⟨ad490, e490, hx490_0⟩ := Kd.at_int (Kd.R_reads' HO_483001.out).2.2 ((rd_T35 t478 0).f1) p490 q490; cases e490; replace p490 := eq_true p490; replace q490 := eq_true q490))
     repeat (go_quiet (first | ((with_reducible refine gate_dst (N := 38) rfl ?_); refine Kd.R_lit k35 _ 35 ?hg (N := 38) ?hd (xs := ([(⟨(rd_T35 t478 0).f0, (rd_T35 t478 0).f1, (rd_T35 t478 0).f2⟩ : S35)] : List (S35))) (inner := [.int .i64 ((rd_T35 t478 0).f0), .int .i64 ((rd_T35 t478 0).f1), .int .i64 ((rd_T35 t478 0).f2)]) (ok := fun _ => True) (okp := fun _ => True) ?hr ?hp (fun _ hk => hk) trivial (Below.refl _ _) (Nat.le_refl _) (by simp) ?_; (case hd | hg => rfl); (case hr => first | (go_simp; done) | (go_simp; rfl)); (case hp => exact (Reps.c3 (show Kd.M k35 _ _ _ (⟨(rd_T35 t478 0).f0, (rd_T35 t478 0).f1, (rd_T35 t478 0).f2⟩ : S35) [.int .i64 ((rd_T35 t478 0).f0), .int .i64 ((rd_T35 t478 0).f1), .int .i64 ((rd_T35 t478 0).f2)] from (k35_mkM _ _ _ (⟨(rd_T35 t478 0).f0, (rd_T35 t478 0).f1, (rd_T35 t478 0).f2⟩ : S35) )) (Reps.none _ _))); intro v487 w28 ho29 hb hg_ hnew_; clear hg_ hnew_; (first | rw [← Ny486.out] at ho29 | (simp only [Int.reduceToNat] at ho29; rw [← Ny486.out] at ho29)); replace HO_4 := Aside0.mk (Kd.V_elder' (by (with_reducible repeat (first | apply Kd.V_alloc | apply Kd.V_drewN | apply Kd.V_drew)); exact HO_4.out) (Kd.R_base ho29) hb); replace HO_483001 := Aside0.mk (Kd.R_below (by (with_reducible repeat (first | apply Kd.R_alloc | apply Kd.R_drewN | apply Kd.R_drew)); exact HO_483001.out) hb); have HO488 := Aside0.mk (Kd.R_lower ho29 (below_size (Z.bs HB.out GE482.out))); replace BK482 := Z.bb BK482 hb; replace HB := Z.st (Z.bs HB.out GE482.out) hb; clear hb ho29; have hcz30 := Z.c2 BK482.out; have p489 : 0 ≤ (0 : Int) := (by omega); have q489 : 0 < (t478.length : Int) := Z.od; obtain ⟨ad489, e489, hx489_0, hx489_1, hx489_2⟩ := at_T35 (Kd.V_reads' HO_4.out).2.2 0 p489 q489; obtain rfl : ad485 = ad489 := (by injection e489); have qi489 : (0 < t478.length) = True := eq_true (by omega); (try rw [show ((0 : Int)).toNat = 0 from rfl] at hx489_0); (try rw [show 0 * 3 = 0 from rfl] at hx489_0); (try rw [Addr.add_zero'] at hx489_0); (try rw [show ((0 : Int)).toNat = 0 from rfl] at hx489_1); (try rw [show 0 * 3 = 0 from rfl] at hx489_1); (try rw [Addr.add_zero'] at hx489_1); (try rw [show ((0 : Int)).toNat = 0 from rfl] at hx489_2); (try rw [show 0 * 3 = 0 from rfl] at hx489_2); (try rw [Addr.add_zero'] at hx489_2); replace p489 := eq_true p489; replace q489 := eq_true q489; have p490 : 0 ≤ (((rd_T35 t478 0).f1) : Int) := Z.od; have q490 : ((rd_T35 t478 0).f1) < (t475.length : Int) := Z.od; obtain ⟨ad490, e490, hx490_0⟩ := Kd.at_int (Kd.R_reads' HO_483001.out).2.2 ((rd_T35 t478 0).f1) p490 q490; cases e490; replace p490 := eq_true p490; replace q490 := eq_true q490)); try go_wp2_with (first | ((with_reducible refine gate_dst (N := 38) rfl ?_); refine Kd.R_lit k35 _ 35 ?hg (N := 38) ?hd (xs := ([(⟨(rd_T35 t478 0).f0, (rd_T35 t478 0).f1, (rd_T35 t478 0).f2⟩ : S35)] : List (S35))) (inner := [.int .i64 ((rd_T35 t478 0).f0), .int .i64 ((rd_T35 t478 0).f1), .int .i64 ((rd_T35 t478 0).f2)]) (ok := fun _ => True) (okp := fun _ => True) ?hr ?hp (fun _ hk => hk) trivial (Below.refl _ _) (Nat.le_refl _) (by simp) ?_; (case hd | hg => rfl); (case hr => first | (go_simp; done) | (go_simp; rfl)); (case hp => exact (Reps.c3 (show Kd.M k35 _ _ _ (⟨(rd_T35 t478 0).f0, (rd_T35 t478 0).f1, (rd_T35 t478 0).f2⟩ : S35) [.int .i64 ((rd_T35 t478 0).f0), .int .i64 ((rd_T35 t478 0).f1), .int .i64 ((rd_T35 t478 0).f2)] from (k35_mkM _ _ _ (⟨(rd_T35 t478 0).f0, (rd_T35 t478 0).f1, (rd_T35 t478 0).f2⟩ : S35) )) (Reps.none _ _))); intro v487 w28 ho29 hb hg_ hnew_; clear hg_ hnew_; (first | rw [← Ny486.out] at ho29 | (simp only [Int.reduceToNat] at ho29; rw [← Ny486.out] at ho29)); replace HO_4 := Aside0.mk (Kd.V_elder' (by (with_reducible repeat (first | apply Kd.V_alloc | apply Kd.V_drewN | apply Kd.V_drew)); exact HO_4.out) (Kd.R_base ho29) hb); replace HO_483001 := Aside0.mk (Kd.R_below (by (with_reducible repeat (first | apply Kd.R_alloc | apply Kd.R_drewN | apply Kd.R_drew)); exact HO_483001.out) hb); have HO488 := Aside0.mk (Kd.R_lower ho29 (below_size (Z.bs HB.out GE482.out))); replace BK482 := Z.bb BK482 hb; replace HB := Z.st (Z.bs HB.out GE482.out) hb; clear hb ho29; have hcz30 := Z.c2 BK482.out; have p489 : 0 ≤ (0 : Int) := (by omega); have q489 : 0 < (t478.length : Int) := Z.od; obtain ⟨ad489, e489, hx489_0, hx489_1, hx489_2⟩ := at_T35 (Kd.V_reads' HO_4.out).2.2 0 p489 q489; obtain rfl : ad485 = ad489 := (by injection e489); have qi489 : (0 < t478.length) = True := eq_true (by omega); (try rw [show ((0 : Int)).toNat = 0 from rfl] at hx489_0); (try rw [show 0 * 3 = 0 from rfl] at hx489_0); (try rw [Addr.add_zero'] at hx489_0); (try rw [show ((0 : Int)).toNat = 0 from rfl] at hx489_1); (try rw [show 0 * 3 = 0 from rfl] at hx489_1); (try rw [Addr.add_zero'] at hx489_1); (try rw [show ((0 : Int)).toNat = 0 from rfl] at hx489_2); (try rw [show 0 * 3 = 0 from rfl] at hx489_2); (try rw [Addr.add_zero'] at hx489_2); replace p489 := eq_true p489; replace q489 := eq_true q489; have p490 : 0 ≤ (((rd_T35 t478 0).f1) : Int) := Z.od; have q490 : ((rd_T35 t478 0).f1) < (t475.length : Int) := Z.od; obtain ⟨ad490, e490, hx490_0⟩ := Kd.at_int (Kd.R_reads' HO_483001.out).2.2 ((rd_T35 t478 0).f1) p490 q490; cases e490; replace p490 := eq_true p490; replace q490 := eq_true q490)))
     go_loopg [8] kj3 (fun kq v8 w' => ∃ (x8_2 : Int), v8 = .int .i64 x8_2 ∧ Aside0 (laws_FnSameMembers.l0 kq t481 y486 (rd t475 ((rd_T35 t478 0).f1)) x8_2 t474 t475 = some r) ∧ Aside0 (kq ≤ kj3) ∧ Aside0 (Kd.R k35 35 w' w.heap.size (fun _ => True) v487 y486) ∧ Aside0 (Kd.R (Kd.int .i64) 3 w' w.heap.size (fun _ => True) (.slice (some ad490) t475.length co8) t475) ∧ Aside0 (w'.heap[gb482]? = some (.cells #[.int .i64 t474, (.slice (some ad490) t475.length co8)] 25 (0, 0))) ∧ Aside0 (Below w.heap.size w w'))
     case atStart => exact ⟨(0), (by first | rfl | (simp; done) | (simp [*]; done)), H', ⟨Nat.le_refl _⟩, ⟨by (with_reducible repeat (first | apply Kd.R_alloc | apply Kd.R_drewN | apply Kd.R_drew)); exact HO488.out⟩, ⟨by (with_reducible repeat (first | apply Kd.R_alloc | apply Kd.R_drewN | apply Kd.R_drew)); exact HO_483001.out⟩, ⟨by (with_reducible repeat (first | refine blk_drewN ?_ _ | refine blk_drew ?_ | refine blk_alloc ?_ _)); exact BK482.out⟩, ⟨Z.bs HB.out GE482.out⟩⟩
     case round =>
      clear H'
      try clear c1
      try clear c2
      try clear c2b0
      try clear c2b1
      try clear p2
      try clear c3
      try clear c4
      try clear p4
      try clear q4
      try clear hx4
      try clear qi4
      try clear c10
      try clear c11
      try clear c11b0
      try clear c22
      try clear c24
      try clear c24b0
      try clear c24b1
      try clear c25
      try clear c25b0
      try clear c26
      try clear c26b0
      try clear hcz12_0
      try clear hcz12_1
      try clear hcz15_0
      try clear hcz15_1
      try clear hcz18_0
      try clear hcz18_1
      try clear hcz19_0
      try clear hcz19_1
      try clear hcz30_0
      try clear hcz30_1
      try clear hcz7_0
      try clear hcz7_1
      try clear hfz12_0
      try clear hfz12_1
      try clear hfz15_0
      try clear hfz15_1
      try clear hfz18_0
      try clear hfz18_1
      try clear hfz19_0
      try clear hfz19_1
      try clear hfz30_0
      try clear hfz30_1
      try clear hfz7_0
      try clear hfz7_1
      try clear hx485_0
      try clear hx485_1
      try clear hx485_2
      try clear hx489_0
      try clear hx489_1
      try clear hx489_2
      try clear hx490_0
      try clear p2
      try clear p485
      try clear p489
      try clear p490
      try clear q485
      try clear q489
      try clear q490
      obtain ⟨x8_2, rfl, HA, HK2, HO_6, HO_483001, BK482, HB⟩ := hrel
      cases gk with
      | zero => exact absurd HA.out (by simp [laws_FnSameMembers.l0])
      | succ k2 =>
       have H := HA.out
       clear HA
       simp only [laws_FnSameMembers.l0] at H
       by_cases c31 : x8_2 < t474
       ·rw [if_pos c31] at H
        have c31b0 := decide_eq_true c31
        clear c31
        replace H := Option.bind_eq_some_iff.mp H
        obtain ⟨t493, A320, H⟩ := H
        try dsimp only at H
        have A32 := Aside0.mk A320
        clear A320
        replace H := Option.bind_eq_some_iff.mp H
        obtain ⟨t494, A330, H⟩ := H
        try dsimp only at H
        have A33 := Aside0.mk A330
        clear A330
        have HC34 := Aside0.mk H
        clear H
        have hcz35 := Z.c2 BK482.out
        obtain ⟨Ao36, co36, eo36⟩ := Kd.R_slice HO_6.out
        subst eo36
        go_upto_region 13 with (first | (go_at_call 12; (with_reducible refine (impl_SwingsOf.calls k2 t474 _ _ t475 _ _ y486 x8_2 t493 _ ?q1 ?q2 ?q3 ?q4 A32.out).mono ?_); (case q1 => repeat (first | exact (Kd.R_reads' HO_483001.out).2.2 | (with_reducible refine Kd.C_alloc ?_ _) | (with_reducible refine Kd.C_drewN ?_ _) | (with_reducible refine Kd.C_drew ?_))); (case q2 => exact (Kd.R_reads' HO_483001.out).2.1); (case q3 => repeat (first | exact (Kd.R_reads' HO_6.out).2.2 | (with_reducible refine Kd.C_alloc ?_ _) | (with_reducible refine Kd.C_drewN ?_ _) | (with_reducible refine Kd.C_drew ?_))); (case q4 => exact (Kd.R_reads' HO_6.out).2.1); rintro e w37 ⟨rfl, hb⟩; replace HO_6 := Aside0.mk (Kd.R_below (by (with_reducible repeat (first | apply Kd.R_alloc | apply Kd.R_drewN | apply Kd.R_drew)); exact HO_6.out) hb); replace HO_483001 := Aside0.mk (Kd.R_below (by (with_reducible repeat (first | apply Kd.R_alloc | apply Kd.R_drewN | apply Kd.R_drew)); exact HO_483001.out) hb); replace BK482 := Z.bb BK482 hb; replace HB := Z.st (Z.bs HB.out GE482.out) hb; (try clear hb); (try clear hb2); (try clear hk); (try clear hi); have hcz38 := Z.c2 BK482.out) | (go_at_call 7; (with_reducible refine (impl_PivotsOf.calls k2 t474 _ _ t475 _ _ y486 x8_2 t494 _ ?q1 ?q2 ?q3 ?q4 A33.out).mono ?_); (case q1 => repeat (first | exact (Kd.R_reads' HO_483001.out).2.2 | (with_reducible refine Kd.C_alloc ?_ _) | (with_reducible refine Kd.C_drewN ?_ _) | (with_reducible refine Kd.C_drew ?_))); (case q2 => exact (Kd.R_reads' HO_483001.out).2.1); (case q3 => repeat (first | exact (Kd.R_reads' HO_6.out).2.2 | (with_reducible refine Kd.C_alloc ?_ _) | (with_reducible refine Kd.C_drewN ?_ _) | (with_reducible refine Kd.C_drew ?_))); (case q4 => exact (Kd.R_reads' HO_6.out).2.1); rintro e w39 ⟨rfl, hb⟩; replace HO_6 := Aside0.mk (Kd.R_below (by (with_reducible repeat (first | apply Kd.R_alloc | apply Kd.R_drewN | apply Kd.R_drew)); exact HO_6.out) hb); replace HO_483001 := Aside0.mk (Kd.R_below (by (with_reducible repeat (first | apply Kd.R_alloc | apply Kd.R_drewN | apply Kd.R_drew)); exact HO_483001.out) hb); replace BK482 := Z.bb BK482 hb; replace HB := Z.st (Z.bs HB.out GE482.out) hb; (try clear hb); (try clear hb2); (try clear hk); (try clear hi)))
        repeat (go_quiet (first | (go_at_call 12; (with_reducible refine (impl_SwingsOf.calls k2 t474 _ _ t475 _ _ y486 x8_2 t493 _ ?q1 ?q2 ?q3 ?q4 A32.out).mono ?_); (case q1 => repeat (first | exact (Kd.R_reads' HO_483001.out).2.2 | (with_reducible refine Kd.C_alloc ?_ _) | (with_reducible refine Kd.C_drewN ?_ _) | (with_reducible refine Kd.C_drew ?_))); (case q2 => exact (Kd.R_reads' HO_483001.out).2.1); (case q3 => repeat (first | exact (Kd.R_reads' HO_6.out).2.2 | (with_reducible refine Kd.C_alloc ?_ _) | (with_reducible refine Kd.C_drewN ?_ _) | (with_reducible refine Kd.C_drew ?_))); (case q4 => exact (Kd.R_reads' HO_6.out).2.1); rintro e w37 ⟨rfl, hb⟩; replace HO_6 := Aside0.mk (Kd.R_below (by (with_reducible repeat (first | apply Kd.R_alloc | apply Kd.R_drewN | apply Kd.R_drew)); exact HO_6.out) hb); replace HO_483001 := Aside0.mk (Kd.R_below (by (with_reducible repeat (first | apply Kd.R_alloc | apply Kd.R_drewN | apply Kd.R_drew)); exact HO_483001.out) hb); replace BK482 := Z.bb BK482 hb; replace HB := Z.st (Z.bs HB.out GE482.out) hb; (try clear hb); (try clear hb2); (try clear hk); (try clear hi); have hcz38 := Z.c2 BK482.out) | (go_at_call 7; (with_reducible refine (impl_PivotsOf.calls k2 t474 _ _ t475 _ _ y486 x8_2 t494 _ ?q1 ?q2 ?q3 ?q4 A33.out).mono ?_); (case q1 => repeat (first | exact (Kd.R_reads' HO_483001.out).2.2 | (with_reducible refine Kd.C_alloc ?_ _) | (with_reducible refine Kd.C_drewN ?_ _) | (with_reducible refine Kd.C_drew ?_))); (case q2 => exact (Kd.R_reads' HO_483001.out).2.1); (case q3 => repeat (first | exact (Kd.R_reads' HO_6.out).2.2 | (with_reducible refine Kd.C_alloc ?_ _) | (with_reducible refine Kd.C_drewN ?_ _) | (with_reducible refine Kd.C_drew ?_))); (case q4 => exact (Kd.R_reads' HO_6.out).2.1); rintro e w39 ⟨rfl, hb⟩; replace HO_6 := Aside0.mk (Kd.R_below (by (with_reducible repeat (first | apply Kd.R_alloc | apply Kd.R_drewN | apply Kd.R_drew)); exact HO_6.out) hb); replace HO_483001 := Aside0.mk (Kd.R_below (by (with_reducible repeat (first | apply Kd.R_alloc | apply Kd.R_drewN | apply Kd.R_drew)); exact HO_483001.out) hb); replace BK482 := Z.bb BK482 hb; replace HB := Z.st (Z.bs HB.out GE482.out) hb; (try clear hb); (try clear hb2); (try clear hk); (try clear hi))); go_upto_region 13 with (first | (go_at_call 12; (with_reducible refine (impl_SwingsOf.calls k2 t474 _ _ t475 _ _ y486 x8_2 t493 _ ?q1 ?q2 ?q3 ?q4 A32.out).mono ?_); (case q1 => repeat (first | exact (Kd.R_reads' HO_483001.out).2.2 | (with_reducible refine Kd.C_alloc ?_ _) | (with_reducible refine Kd.C_drewN ?_ _) | (with_reducible refine Kd.C_drew ?_))); (case q2 => exact (Kd.R_reads' HO_483001.out).2.1); (case q3 => repeat (first | exact (Kd.R_reads' HO_6.out).2.2 | (with_reducible refine Kd.C_alloc ?_ _) | (with_reducible refine Kd.C_drewN ?_ _) | (with_reducible refine Kd.C_drew ?_))); (case q4 => exact (Kd.R_reads' HO_6.out).2.1); rintro e w37 ⟨rfl, hb⟩; replace HO_6 := Aside0.mk (Kd.R_below (by (with_reducible repeat (first | apply Kd.R_alloc | apply Kd.R_drewN | apply Kd.R_drew)); exact HO_6.out) hb); replace HO_483001 := Aside0.mk (Kd.R_below (by (with_reducible repeat (first | apply Kd.R_alloc | apply Kd.R_drewN | apply Kd.R_drew)); exact HO_483001.out) hb); replace BK482 := Z.bb BK482 hb; replace HB := Z.st (Z.bs HB.out GE482.out) hb; (try clear hb); (try clear hb2); (try clear hk); (try clear hi); have hcz38 := Z.c2 BK482.out) | (go_at_call 7; (with_reducible refine (impl_PivotsOf.calls k2 t474 _ _ t475 _ _ y486 x8_2 t494 _ ?q1 ?q2 ?q3 ?q4 A33.out).mono ?_); (case q1 => repeat (first | exact (Kd.R_reads' HO_483001.out).2.2 | (with_reducible refine Kd.C_alloc ?_ _) | (with_reducible refine Kd.C_drewN ?_ _) | (with_reducible refine Kd.C_drew ?_))); (case q2 => exact (Kd.R_reads' HO_483001.out).2.1); (case q3 => repeat (first | exact (Kd.R_reads' HO_6.out).2.2 | (with_reducible refine Kd.C_alloc ?_ _) | (with_reducible refine Kd.C_drewN ?_ _) | (with_reducible refine Kd.C_drew ?_))); (case q4 => exact (Kd.R_reads' HO_6.out).2.1); rintro e w39 ⟨rfl, hb⟩; replace HO_6 := Aside0.mk (Kd.R_below (by (with_reducible repeat (first | apply Kd.R_alloc | apply Kd.R_drewN | apply Kd.R_drew)); exact HO_6.out) hb); replace HO_483001 := Aside0.mk (Kd.R_below (by (with_reducible repeat (first | apply Kd.R_alloc | apply Kd.R_drewN | apply Kd.R_drew)); exact HO_483001.out) hb); replace BK482 := Z.bb BK482 hb; replace HB := Z.st (Z.bs HB.out GE482.out) hb; (try clear hb); (try clear hb2); (try clear hk); (try clear hi))))
        (try simp only [Act.put, List.setIfInBounds_toArray, List.set_cons_zero, List.set_cons_succ])
        go_cut [73] (fun v73 wc => ∃ (kq : Nat) (x73_33 : Bool), v73 = .bool x73_33 ∧ Aside0 (laws_FnSameMembers.j2 kq t481 y486 (rd t475 ((rd_T35 t478 0).f1)) x8_2 t493 t494 x73_33 t474 t475 = some r) ∧ Aside0 (kq ≤ k2) ∧ Aside0 (Kd.R k35 35 wc w.heap.size (fun _ => True) (.slice Ao36 y486.length co36) y486) ∧ Aside0 (Kd.R (Kd.int .i64) 3 wc w.heap.size (fun _ => True) (.slice (some ad490) t475.length co8) t475) ∧ Aside0 (wc.heap[gb482]? = some (.cells #[.int .i64 t474, (.slice (some ad490) t475.length co8)] 25 (0, 0))) ∧ Aside0 (Below w.heap.size w wc))
        case first =>
         have H := HC34.out
         clear HC34
         obtain ⟨c40, H⟩ := Z.ifp H
         have c40b0 := eq_true c40
         have c40b1 : decide (0 ≤ x8_2) = true := decide_eq_true c40
         clear c40
         obtain ⟨ji41, hji41⟩ : ∃ j_ : Int, (shr .i64 (rd t475 ((rd_T35 t478 0).f1)) x8_2) = j_ := ⟨_, rfl⟩
         replace H : (if (Int.tmod (ji41) 2) = 0 then (if t493 = 0 then (laws_FnSameMembers.j2 k2 t481 y486 (rd t475 ((rd_T35 t478 0).f1)) x8_2 t493 t494 (t494 != 0) t474 t475) else (laws_FnSameMembers.j2 k2 t481 y486 (rd t475 ((rd_T35 t478 0).f1)) x8_2 t493 t494 true t474 t475)) else (laws_FnSameMembers.j2 k2 t481 y486 (rd t475 ((rd_T35 t478 0).f1)) x8_2 t493 t494 false t474 t475)) = some r := by first | (rw [hji41] at H; exact H) | (simp only [hji41] at H ⊢; exact H)
         have hji41_ : ((rd t475 ((rd_T35 t478 0).f1)) / 2 ^ min x8_2.toNat 64) = ji41 := hji41
         have hji41z : x8_2 ≤ 64 → ((rd t475 ((rd_T35 t478 0).f1)) / 2 ^ x8_2.toNat) = ji41 := shr_small hji41
         by_cases c42 : (Int.tmod (ji41) 2) = 0
         ·rw [if_pos c42] at H
          have c42b0 : ((Int.tmod (ji41) 2) == 0) = true := beq_iff_eq.mpr c42
          have c42b1 : ((Int.tmod (ji41) 2) != 0) = false := bne_eq_false_iff_eq.mpr c42
          clear c42
          (first | rw [c42b0] | (simp only [i64_w, i32_w]; rw [c42b0]) | skip)
          by_cases c43 : t493 = 0
          ·rw [if_pos c43] at H
           have c43b0 : (t493 == 0) = true := beq_iff_eq.mpr c43
           have c43b1 : (t493 != 0) = false := bne_eq_false_iff_eq.mpr c43
           clear c43
           have H' := Aside0.mk H
           clear H
           go_wp2
           repeat (go_quiet (fail); try go_wp2)
           go_meet
           case rel => exact ⟨_, ((t494 != 0)), (by first | rfl | (simp; done) | (simp [*]; done)), H', ⟨by have := HJ3.out; have := HK2.out; first | omega | exact Nat.le_refl _⟩, ⟨by (with_reducible repeat (first | apply Kd.R_alloc | apply Kd.R_drewN | apply Kd.R_drew)); exact HO_6.out⟩, ⟨by (with_reducible repeat (first | apply Kd.R_alloc | apply Kd.R_drewN | apply Kd.R_drew)); exact HO_483001.out⟩, ⟨by (with_reducible repeat (first | refine blk_drewN ?_ _ | refine blk_drew ?_ | refine blk_alloc ?_ _)); exact BK482.out⟩, ⟨Z.bs HB.out GE482.out⟩⟩
          ·rw [if_neg c43] at H
           have c43b0 : (t493 == 0) = false := beq_eq_false_iff_ne.mpr c43
           have c43b1 : (t493 != 0) = true := bne_iff_ne.mpr c43
           have H' := Aside0.mk H
           clear H
           go_wp2
           repeat (go_quiet (fail); try go_wp2)
           go_meet
           case rel => exact ⟨_, (true), (by first | rfl | (simp; done) | (simp [*]; done)), H', ⟨by have := HJ3.out; have := HK2.out; first | omega | exact Nat.le_refl _⟩, ⟨by (with_reducible repeat (first | apply Kd.R_alloc | apply Kd.R_drewN | apply Kd.R_drew)); exact HO_6.out⟩, ⟨by (with_reducible repeat (first | apply Kd.R_alloc | apply Kd.R_drewN | apply Kd.R_drew)); exact HO_483001.out⟩, ⟨by (with_reducible repeat (first | refine blk_drewN ?_ _ | refine blk_drew ?_ | refine blk_alloc ?_ _)); exact BK482.out⟩, ⟨Z.bs HB.out GE482.out⟩⟩
         ·rw [if_neg c42] at H
          have c42b0 : ((Int.tmod (ji41) 2) == 0) = false := beq_eq_false_iff_ne.mpr c42
          have c42b1 : ((Int.tmod (ji41) 2) != 0) = true := bne_iff_ne.mpr c42
          (first | rw [c42b0] | (simp only [i64_w, i32_w]; rw [c42b0]) | skip)
          have H' := Aside0.mk H
          clear H
          go_wp2
          repeat (go_quiet (fail); try go_wp2)
          go_meet
          case rel => exact ⟨_, (false), (by first | rfl | (simp; done) | (simp [*]; done)), H', ⟨by have := HJ3.out; have := HK2.out; first | omega | exact Nat.le_refl _⟩, ⟨by (with_reducible repeat (first | apply Kd.R_alloc | apply Kd.R_drewN | apply Kd.R_drew)); exact HO_6.out⟩, ⟨by (with_reducible repeat (first | apply Kd.R_alloc | apply Kd.R_drewN | apply Kd.R_drew)); exact HO_483001.out⟩, ⟨by (with_reducible repeat (first | refine blk_drewN ?_ _ | refine blk_drew ?_ | refine blk_alloc ?_ _)); exact BK482.out⟩, ⟨Z.bs HB.out GE482.out⟩⟩
        case rest =>
         clear HC34
         try clear c1
         try clear c2
         try clear c2b0
         try clear c2b1
         try clear p2
         try clear c3
         try clear c4
         try clear p4
         try clear q4
         try clear hx4
         try clear qi4
         try clear c10
         try clear c11
         try clear c11b0
         try clear c22
         try clear c24
         try clear c24b0
         try clear c24b1
         try clear c25
         try clear c25b0
         try clear c26
         try clear c26b0
         try clear c31
         try clear c31b0
         try clear c40
         try clear c40b0
         try clear c40b1
         try clear c42
         try clear c42b0
         try clear c42b1
         try clear c43
         try clear c43b0
         try clear c43b1
         try clear hcz12_0
         try clear hcz12_1
         try clear hcz15_0
         try clear hcz15_1
         try clear hcz18_0
         try clear hcz18_1
         try clear hcz19_0
         try clear hcz19_1
         try clear hcz30_0
         try clear hcz30_1
         try clear hcz35_0
         try clear hcz35_1
         try clear hcz38_0
         try clear hcz38_1
         try clear hcz7_0
         try clear hcz7_1
         try clear hfz12_0
         try clear hfz12_1
         try clear hfz15_0
         try clear hfz15_1
         try clear hfz18_0
         try clear hfz18_1
         try clear hfz19_0
         try clear hfz19_1
         try clear hfz30_0
         try clear hfz30_1
         try clear hfz35_0
         try clear hfz35_1
         try clear hfz38_0
         try clear hfz38_1
         try clear hfz7_0
         try clear hfz7_1
         try clear hx485_0
         try clear hx485_1
         try clear hx485_2
         try clear hx489_0
         try clear hx489_1
         try clear hx489_2
         try clear hx490_0
         try clear p2
         try clear p4
         try clear p485
         try clear p489
         try clear p490
         try clear q4
         try clear q485
         try clear q489
         try clear q490
         obtain ⟨kq, x73_33, rfl, HA, HJ33, HO_6, HO_483001, BK482, HB⟩ := hcut
         cases kq with
         | zero => exact absurd HA.out (by simp [laws_FnSameMembers.j2])
         | succ kj33 =>
          have H := HA.out
          clear HA
          simp only [laws_FnSameMembers.j2] at H
          by_cases c44 : x73_33 = true
          ·subst c44
           rw [if_pos rfl] at H
           obtain rfl := Option.some.inj H
           go_wp2
           repeat (go_quiet (fail); try go_wp2)
           go_ret
           exact ⟨by first | rfl | (simp [errW_none, errW_some] <;> rfl) | (simp [*, errW_none, errW_some] <;> rfl), Z.bs HB.out GE482.out⟩
          ·replace c44 := Bool.eq_false_iff.mpr c44
           subst c44
           rw [if_neg (show ¬ (false = true) by decide)] at H
           obtain ⟨c45, H⟩ := Z.ifp H
           have c45b0 := eq_true c45
           have c45b1 : decide (0 ≤ x8_2) = true := decide_eq_true c45
           clear c45
           obtain ⟨ji46, hji46⟩ : ∃ j_ : Int, (shr .i64 (rd t475 ((rd_T35 t478 0).f1)) x8_2) = j_ := ⟨_, rfl⟩
           replace H : (if (Int.tmod (ji46) 2) = 1 then (if 0 ≤ t481 then (if (Int.tmod (shr .i64 (rd t475 ((rd_T35 t478 0).f1)) t481) 2) = 1 then ((impl_SwingsOf.f kj33 t474 t475 y486 t481).bind fun t495 => (if t493 = t495 then ((impl_PivotsOf.f kj33 t474 t475 y486 t481).bind fun t496 => (if t494 = t496 then (if t493 < 1 then (some false) else (laws_FnSameMembers.l0 kj33 t481 y486 (rd t475 ((rd_T35 t478 0).f1)) (wrap64 (x8_2 + 1)) t474 t475)) else (some false))) else (some false))) else (laws_FnSameMembers.l0 kj33 t481 y486 (rd t475 ((rd_T35 t478 0).f1)) (wrap64 (x8_2 + 1)) t474 t475)) else (none)) else (laws_FnSameMembers.l0 kj33 t481 y486 (rd t475 ((rd_T35 t478 0).f1)) (wrap64 (x8_2 + 1)) t474 t475)) = some r := by first | (rw [hji46] at H; exact H) | (simp only [hji46] at H ⊢; exact H)
           have hji46_ : ((rd t475 ((rd_T35 t478 0).f1)) / 2 ^ min x8_2.toNat 64) = ji46 := hji46
           have hji46z : x8_2 ≤ 64 → ((rd t475 ((rd_T35 t478 0).f1)) / 2 ^ x8_2.toNat) = ji46 := shr_small hji46
           by_cases c47 : (Int.tmod (ji46) 2) = 1
           ·rw [if_pos c47] at H
            have c47b0 : ((Int.tmod (ji46) 2) == 1) = true := beq_iff_eq.mpr c47
            have c47b1 : ((Int.tmod (ji46) 2) != 1) = false := bne_eq_false_iff_eq.mpr c47
            clear c47
            obtain ⟨c48, H⟩ := Z.ifp H
            have c48b0 := eq_true c48
            have c48b1 : decide (0 ≤ t481) = true := decide_eq_true c48
            clear c48
            obtain ⟨ji49, hji49⟩ : ∃ j_ : Int, (shr .i64 (rd t475 ((rd_T35 t478 0).f1)) t481) = j_ := ⟨_, rfl⟩
            replace H : (if (Int.tmod (ji49) 2) = 1 then ((impl_SwingsOf.f kj33 t474 t475 y486 t481).bind fun t495 => (if t493 = t495 then ((impl_PivotsOf.f kj33 t474 t475 y486 t481).bind fun t496 => (if t494 = t496 then (if t493 < 1 then (some false) else (laws_FnSameMembers.l0 kj33 t481 y486 (rd t475 ((rd_T35 t478 0).f1)) (wrap64 (x8_2 + 1)) t474 t475)) else (some false))) else (some false))) else (laws_FnSameMembers.l0 kj33 t481 y486 (rd t475 ((rd_T35 t478 0).f1)) (wrap64 (x8_2 + 1)) t474 t475)) = some r := by first | (rw [hji49] at H; exact H) | (simp only [hji49] at H ⊢; exact H)
            have hji49_ : ((rd t475 ((rd_T35 t478 0).f1)) / 2 ^ min t481.toNat 64) = ji49 := hji49
            have hji49z : t481 ≤ 64 → ((rd t475 ((rd_T35 t478 0).f1)) / 2 ^ t481.toNat) = ji49 := shr_small hji49
            by_cases c50 : (Int.tmod (ji49) 2) = 1
            ·rw [if_pos c50] at H
             have c50b0 : ((Int.tmod (ji49) 2) == 1) = true := beq_iff_eq.mpr c50
             have c50b1 : ((Int.tmod (ji49) 2) != 1) = false := bne_eq_false_iff_eq.mpr c50
             clear c50
             replace H := Option.bind_eq_some_iff.mp H
             obtain ⟨t495, A510, H⟩ := H
             try dsimp only at H
             have A51 := Aside0.mk A510
             clear A510
             by_cases c52 : t493 = t495
             ·rw [if_pos c52] at H
              have c52b0 : (t493 == t495) = true := beq_iff_eq.mpr c52
              have c52b1 : (t493 != t495) = false := bne_eq_false_iff_eq.mpr c52
              clear c52
              replace H := Option.bind_eq_some_iff.mp H
              obtain ⟨t496, A530, H⟩ := H
              try dsimp only at H
              have A53 := Aside0.mk A530
              clear A530
              by_cases c54 : t494 = t496
              ·rw [if_pos c54] at H
               have c54b0 : (t494 == t496) = true := beq_iff_eq.mpr c54
               have c54b1 : (t494 != t496) = false := bne_eq_false_iff_eq.mpr c54
               clear c54
               by_cases c55 : t493 < 1
               ·rw [if_pos c55] at H
                have c55b0 := decide_eq_true c55
                clear c55
                obtain rfl := Option.some.inj H
                have hcz56 := Z.c2 BK482.out
                go_wp2_with (first | (go_at_call 12; (with_reducible refine (impl_SwingsOf.calls kj33 t474 _ _ t475 _ _ y486 t481 t495 _ ?q1 ?q2 ?q3 ?q4 A51.out).mono ?_); (case q1 => repeat (first | exact (Kd.R_reads' HO_483001.out).2.2 | (with_reducible refine Kd.C_alloc ?_ _) | (with_reducible refine Kd.C_drewN ?_ _) | (with_reducible refine Kd.C_drew ?_))); (case q2 => exact (Kd.R_reads' HO_483001.out).2.1); (case q3 => repeat (first | exact (Kd.R_reads' HO_6.out).2.2 | (with_reducible refine Kd.C_alloc ?_ _) | (with_reducible refine Kd.C_drewN ?_ _) | (with_reducible refine Kd.C_drew ?_))); (case q4 => exact (Kd.R_reads' HO_6.out).2.1); rintro e w57 ⟨rfl, hb⟩; replace HO_6 := Aside0.mk (Kd.R_below (by (with_reducible repeat (first | apply Kd.R_alloc | apply Kd.R_drewN | apply Kd.R_drew)); exact HO_6.out) hb); replace HO_483001 := Aside0.mk (Kd.R_below (by (with_reducible repeat (first | apply Kd.R_alloc | apply Kd.R_drewN | apply Kd.R_drew)); exact HO_483001.out) hb); replace BK482 := Z.bb BK482 hb; replace HB := Z.st (Z.bs HB.out GE482.out) hb; (try clear hb); (try clear hb2); (try clear hk); (try clear hi); have hcz58 := Z.c2 BK482.out) | (go_at_call 7; (with_reducible refine (impl_PivotsOf.calls kj33 t474 _ _ t475 _ _ y486 t481 t496 _ ?q1 ?q2 ?q3 ?q4 A53.out).mono ?_); (case q1 => repeat (first | exact (Kd.R_reads' HO_483001.out).2.2 | (with_reducible refine Kd.C_alloc ?_ _) | (with_reducible refine Kd.C_drewN ?_ _) | (with_reducible refine Kd.C_drew ?_))); (case q2 => exact (Kd.R_reads' HO_483001.out).2.1); (case q3 => repeat (first | exact (Kd.R_reads' HO_6.out).2.2 | (with_reducible refine Kd.C_alloc ?_ _) | (with_reducible refine Kd.C_drewN ?_ _) | (with_reducible refine Kd.C_drew ?_))); (case q4 => exact (Kd.R_reads' HO_6.out).2.1); rintro e w59 ⟨rfl, hb⟩; replace HO_6 := Aside0.mk (Kd.R_below (by (with_reducible repeat (first | apply Kd.R_alloc | apply Kd.R_drewN | apply Kd.R_drew)); exact HO_6.out) hb); replace HO_483001 := Aside0.mk (Kd.R_below (by (with_reducible repeat (first | apply Kd.R_alloc | apply Kd.R_drewN | apply Kd.R_drew)); exact HO_483001.out) hb); replace BK482 := Z.bb BK482 hb; replace HB := Z.st (Z.bs HB.out GE482.out) hb; (try clear hb); (try clear hb2); (try clear hk); (try clear hi)))
                repeat (go_quiet (first | (go_at_call 12; (with_reducible refine (impl_SwingsOf.calls kj33 t474 _ _ t475 _ _ y486 t481 t495 _ ?q1 ?q2 ?q3 ?q4 A51.out).mono ?_); (case q1 => repeat (first | exact (Kd.R_reads' HO_483001.out).2.2 | (with_reducible refine Kd.C_alloc ?_ _) | (with_reducible refine Kd.C_drewN ?_ _) | (with_reducible refine Kd.C_drew ?_))); (case q2 => exact (Kd.R_reads' HO_483001.out).2.1); (case q3 => repeat (first | exact (Kd.R_reads' HO_6.out).2.2 | (with_reducible refine Kd.C_alloc ?_ _) | (with_reducible refine Kd.C_drewN ?_ _) | (with_reducible refine Kd.C_drew ?_))); (case q4 => exact (Kd.R_reads' HO_6.out).2.1); rintro e w57 ⟨rfl, hb⟩; replace HO_6 := Aside0.mk (Kd.R_below (by (with_reducible repeat (first | apply Kd.R_alloc | apply Kd.R_drewN | apply Kd.R_drew)); exact HO_6.out) hb); replace HO_483001 := Aside0.mk (Kd.R_below (by (with_reducible repeat (first | apply Kd.R_alloc | apply Kd.R_drewN | apply Kd.R_drew)); exact HO_483001.out) hb); replace BK482 := Z.bb BK482 hb; replace HB := Z.st (Z.bs HB.out GE482.out) hb; (try clear hb); (try clear hb2); (try clear hk); (try clear hi); have hcz58 := Z.c2 BK482.out) | (go_at_call 7; (with_reducible refine (impl_PivotsOf.calls kj33 t474 _ _ t475 _ _ y486 t481 t496 _ ?q1 ?q2 ?q3 ?q4 A53.out).mono ?_); (case q1 => repeat (first | exact (Kd.R_reads' HO_483001.out).2.2 | (with_reducible refine Kd.C_alloc ?_ _) | (with_reducible refine Kd.C_drewN ?_ _) | (with_reducible refine Kd.C_drew ?_))); (case q2 => exact (Kd.R_reads' HO_483001.out).2.1); (case q3 => repeat (first | exact (Kd.R_reads' HO_6.out).2.2 | (with_reducible refine Kd.C_alloc ?_ _) | (with_reducible refine Kd.C_drewN ?_ _) | (with_reducible refine Kd.C_drew ?_))); (case q4 => exact (Kd.R_reads' HO_6.out).2.1); rintro e w59 ⟨rfl, hb⟩; replace HO_6 := Aside0.mk (Kd.R_below (by (with_reducible repeat (first | apply Kd.R_alloc | apply Kd.R_drewN | apply Kd.R_drew)); exact HO_6.out) hb); replace HO_483001 := Aside0.mk (Kd.R_below (by (with_reducible repeat (first | apply Kd.R_alloc | apply Kd.R_drewN | apply Kd.R_drew)); exact HO_483001.out) hb); replace BK482 := Z.bb BK482 hb; replace HB := Z.st (Z.bs HB.out GE482.out) hb; (try clear hb); (try clear hb2); (try clear hk); (try clear hi))); try go_wp2_with (first | (go_at_call 12; (with_reducible refine (impl_SwingsOf.calls kj33 t474 _ _ t475 _ _ y486 t481 t495 _ ?q1 ?q2 ?q3 ?q4 A51.out).mono ?_); (case q1 => repeat (first | exact (Kd.R_reads' HO_483001.out).2.2 | (with_reducible refine Kd.C_alloc ?_ _) | (with_reducible refine Kd.C_drewN ?_ _) | (with_reducible refine Kd.C_drew ?_))); (case q2 => exact (Kd.R_reads' HO_483001.out).2.1); (case q3 => repeat (first | exact (Kd.R_reads' HO_6.out).2.2 | (with_reducible refine Kd.C_alloc ?_ _) | (with_reducible refine Kd.C_drewN ?_ _) | (with_reducible refine Kd.C_drew ?_))); (case q4 => exact (Kd.R_reads' HO_6.out).2.1); rintro e w57 ⟨rfl, hb⟩; replace HO_6 := Aside0.mk (Kd.R_below (by (with_reducible repeat (first | apply Kd.R_alloc | apply Kd.R_drewN | apply Kd.R_drew)); exact HO_6.out) hb); replace HO_483001 := Aside0.mk (Kd.R_below (by (with_reducible repeat (first | apply Kd.R_alloc | apply Kd.R_drewN | apply Kd.R_drew)); exact HO_483001.out) hb); replace BK482 := Z.bb BK482 hb; replace HB := Z.st (Z.bs HB.out GE482.out) hb; (try clear hb); (try clear hb2); (try clear hk); (try clear hi); have hcz58 := Z.c2 BK482.out) | (go_at_call 7; (with_reducible refine (impl_PivotsOf.calls kj33 t474 _ _ t475 _ _ y486 t481 t496 _ ?q1 ?q2 ?q3 ?q4 A53.out).mono ?_); (case q1 => repeat (first | exact (Kd.R_reads' HO_483001.out).2.2 | (with_reducible refine Kd.C_alloc ?_ _) | (with_reducible refine Kd.C_drewN ?_ _) | (with_reducible refine Kd.C_drew ?_))); (case q2 => exact (Kd.R_reads' HO_483001.out).2.1); (case q3 => repeat (first | exact (Kd.R_reads' HO_6.out).2.2 | (with_reducible refine Kd.C_alloc ?_ _) | (with_reducible refine Kd.C_drewN ?_ _) | (with_reducible refine Kd.C_drew ?_))); (case q4 => exact (Kd.R_reads' HO_6.out).2.1); rintro e w59 ⟨rfl, hb⟩; replace HO_6 := Aside0.mk (Kd.R_below (by (with_reducible repeat (first | apply Kd.R_alloc | apply Kd.R_drewN | apply Kd.R_drew)); exact HO_6.out) hb); replace HO_483001 := Aside0.mk (Kd.R_below (by (with_reducible repeat (first | apply Kd.R_alloc | apply Kd.R_drewN | apply Kd.R_drew)); exact HO_483001.out) hb); replace BK482 := Z.bb BK482 hb; replace HB := Z.st (Z.bs HB.out GE482.out) hb; (try clear hb); (try clear hb2); (try clear hk); (try clear hi))))
                go_ret
                exact ⟨by first | rfl | (simp [errW_none, errW_some] <;> rfl) | (simp only [← hji46, ← hji49]; first | rfl | (simp [errW_none, errW_some] <;> rfl)) | (simp [*, errW_none, errW_some] <;> rfl), Z.bs HB.out GE482.out⟩
               ·rw [if_neg c55] at H
                have c55b0 := decide_eq_false c55
                clear c55
                have H' := Aside0.mk H
                clear H
                have hcz60 := Z.c2 BK482.out
                go_wp2_with (first | (go_at_call 12; (with_reducible refine (impl_SwingsOf.calls kj33 t474 _ _ t475 _ _ y486 t481 t495 _ ?q1 ?q2 ?q3 ?q4 A51.out).mono ?_); (case q1 => repeat (first | exact (Kd.R_reads' HO_483001.out).2.2 | (with_reducible refine Kd.C_alloc ?_ _) | (with_reducible refine Kd.C_drewN ?_ _) | (with_reducible refine Kd.C_drew ?_))); (case q2 => exact (Kd.R_reads' HO_483001.out).2.1); (case q3 => repeat (first | exact (Kd.R_reads' HO_6.out).2.2 | (with_reducible refine Kd.C_alloc ?_ _) | (with_reducible refine Kd.C_drewN ?_ _) | (with_reducible refine Kd.C_drew ?_))); (case q4 => exact (Kd.R_reads' HO_6.out).2.1); rintro e w61 ⟨rfl, hb⟩; replace HO_6 := Aside0.mk (Kd.R_below (by (with_reducible repeat (first | apply Kd.R_alloc | apply Kd.R_drewN | apply Kd.R_drew)); exact HO_6.out) hb); replace HO_483001 := Aside0.mk (Kd.R_below (by (with_reducible repeat (first | apply Kd.R_alloc | apply Kd.R_drewN | apply Kd.R_drew)); exact HO_483001.out) hb); replace BK482 := Z.bb BK482 hb; replace HB := Z.st (Z.bs HB.out GE482.out) hb; (try clear hb); (try clear hb2); (try clear hk); (try clear hi); have hcz62 := Z.c2 BK482.out) | (go_at_call 7; (with_reducible refine (impl_PivotsOf.calls kj33 t474 _ _ t475 _ _ y486 t481 t496 _ ?q1 ?q2 ?q3 ?q4 A53.out).mono ?_); (case q1 => repeat (first | exact (Kd.R_reads' HO_483001.out).2.2 | (with_reducible refine Kd.C_alloc ?_ _) | (with_reducible refine Kd.C_drewN ?_ _) | (with_reducible refine Kd.C_drew ?_))); (case q2 => exact (Kd.R_reads' HO_483001.out).2.1); (case q3 => repeat (first | exact (Kd.R_reads' HO_6.out).2.2 | (with_reducible refine Kd.C_alloc ?_ _) | (with_reducible refine Kd.C_drewN ?_ _) | (with_reducible refine Kd.C_drew ?_))); (case q4 => exact (Kd.R_reads' HO_6.out).2.1); rintro e w63 ⟨rfl, hb⟩; replace HO_6 := Aside0.mk (Kd.R_below (by (with_reducible repeat (first | apply Kd.R_alloc | apply Kd.R_drewN | apply Kd.R_drew)); exact HO_6.out) hb); replace HO_483001 := Aside0.mk (Kd.R_below (by (with_reducible repeat (first | apply Kd.R_alloc | apply Kd.R_drewN | apply Kd.R_drew)); exact HO_483001.out) hb); replace BK482 := Z.bb BK482 hb; replace HB := Z.st (Z.bs HB.out GE482.out) hb; (try clear hb); (try clear hb2); (try clear hk); (try clear hi)))
                repeat (go_quiet (first | (go_at_call 12; (with_reducible refine (impl_SwingsOf.calls kj33 t474 _ _ t475 _ _ y486 t481 t495 _ ?q1 ?q2 ?q3 ?q4 A51.out).mono ?_); (case q1 => repeat (first | exact (Kd.R_reads' HO_483001.out).2.2 | (with_reducible refine Kd.C_alloc ?_ _) | (with_reducible refine Kd.C_drewN ?_ _) | (with_reducible refine Kd.C_drew ?_))); (case q2 => exact (Kd.R_reads' HO_483001.out).2.1); (case q3 => repeat (first | exact (Kd.R_reads' HO_6.out).2.2 | (with_reducible refine Kd.C_alloc ?_ _) | (with_reducible refine Kd.C_drewN ?_ _) | (with_reducible refine Kd.C_drew ?_))); (case q4 => exact (Kd.R_reads' HO_6.out).2.1); rintro e w61 ⟨rfl, hb⟩; replace HO_6 := Aside0.mk (Kd.R_below (by (with_reducible repeat (first | apply Kd.R_alloc | apply Kd.R_drewN | apply Kd.R_drew)); exact HO_6.out) hb); replace HO_483001 := Aside0.mk (Kd.R_below (by (with_reducible repeat (first | apply Kd.R_alloc | apply Kd.R_drewN | apply Kd.R_drew)); exact HO_483001.out) hb); replace BK482 := Z.bb BK482 hb; replace HB := Z.st (Z.bs HB.out GE482.out) hb; (try clear hb); (try clear hb2); (try clear hk); (try clear hi); have hcz62 := Z.c2 BK482.out) | (go_at_call 7; (with_reducible refine (impl_PivotsOf.calls kj33 t474 _ _ t475 _ _ y486 t481 t496 _ ?q1 ?q2 ?q3 ?q4 A53.out).mono ?_); (case q1 => repeat (first | exact (Kd.R_reads' HO_483001.out).2.2 | (with_reducible refine Kd.C_alloc ?_ _) | (with_reducible refine Kd.C_drewN ?_ _) | (with_reducible refine Kd.C_drew ?_))); (case q2 => exact (Kd.R_reads' HO_483001.out).2.1); (case q3 => repeat (first | exact (Kd.R_reads' HO_6.out).2.2 | (with_reducible refine Kd.C_alloc ?_ _) | (with_reducible refine Kd.C_drewN ?_ _) | (with_reducible refine Kd.C_drew ?_))); (case q4 => exact (Kd.R_reads' HO_6.out).2.1); rintro e w63 ⟨rfl, hb⟩; replace HO_6 := Aside0.mk (Kd.R_below (by (with_reducible repeat (first | apply Kd.R_alloc | apply Kd.R_drewN | apply Kd.R_drew)); exact HO_6.out) hb); replace HO_483001 := Aside0.mk (Kd.R_below (by (with_reducible repeat (first | apply Kd.R_alloc | apply Kd.R_drewN | apply Kd.R_drew)); exact HO_483001.out) hb); replace BK482 := Z.bb BK482 hb; replace HB := Z.st (Z.bs HB.out GE482.out) hb; (try clear hb); (try clear hb2); (try clear hk); (try clear hi))); try go_wp2_with (first | (go_at_call 12; (with_reducible refine (impl_SwingsOf.calls kj33 t474 _ _ t475 _ _ y486 t481 t495 _ ?q1 ?q2 ?q3 ?q4 A51.out).mono ?_); (case q1 => repeat (first | exact (Kd.R_reads' HO_483001.out).2.2 | (with_reducible refine Kd.C_alloc ?_ _) | (with_reducible refine Kd.C_drewN ?_ _) | (with_reducible refine Kd.C_drew ?_))); (case q2 => exact (Kd.R_reads' HO_483001.out).2.1); (case q3 => repeat (first | exact (Kd.R_reads' HO_6.out).2.2 | (with_reducible refine Kd.C_alloc ?_ _) | (with_reducible refine Kd.C_drewN ?_ _) | (with_reducible refine Kd.C_drew ?_))); (case q4 => exact (Kd.R_reads' HO_6.out).2.1); rintro e w61 ⟨rfl, hb⟩; replace HO_6 := Aside0.mk (Kd.R_below (by (with_reducible repeat (first | apply Kd.R_alloc | apply Kd.R_drewN | apply Kd.R_drew)); exact HO_6.out) hb); replace HO_483001 := Aside0.mk (Kd.R_below (by (with_reducible repeat (first | apply Kd.R_alloc | apply Kd.R_drewN | apply Kd.R_drew)); exact HO_483001.out) hb); replace BK482 := Z.bb BK482 hb; replace HB := Z.st (Z.bs HB.out GE482.out) hb; (try clear hb); (try clear hb2); (try clear hk); (try clear hi); have hcz62 := Z.c2 BK482.out) | (go_at_call 7; (with_reducible refine (impl_PivotsOf.calls kj33 t474 _ _ t475 _ _ y486 t481 t496 _ ?q1 ?q2 ?q3 ?q4 A53.out).mono ?_); (case q1 => repeat (first | exact (Kd.R_reads' HO_483001.out).2.2 | (with_reducible refine Kd.C_alloc ?_ _) | (with_reducible refine Kd.C_drewN ?_ _) | (with_reducible refine Kd.C_drew ?_))); (case q2 => exact (Kd.R_reads' HO_483001.out).2.1); (case q3 => repeat (first | exact (Kd.R_reads' HO_6.out).2.2 | (with_reducible refine Kd.C_alloc ?_ _) | (with_reducible refine Kd.C_drewN ?_ _) | (with_reducible refine Kd.C_drew ?_))); (case q4 => exact (Kd.R_reads' HO_6.out).2.1); rintro e w63 ⟨rfl, hb⟩; replace HO_6 := Aside0.mk (Kd.R_below (by (with_reducible repeat (first | apply Kd.R_alloc | apply Kd.R_drewN | apply Kd.R_drew)); exact HO_6.out) hb); replace HO_483001 := Aside0.mk (Kd.R_below (by (with_reducible repeat (first | apply Kd.R_alloc | apply Kd.R_drewN | apply Kd.R_drew)); exact HO_483001.out) hb); replace BK482 := Z.bb BK482 hb; replace HB := Z.st (Z.bs HB.out GE482.out) hb; (try clear hb); (try clear hb2); (try clear hk); (try clear hi))))
                go_roundg kj33
                case measure => have := HJ3.out; have := HK2.out; have := HJ33.out; omega
                case rel => exact ⟨(wrap64 (x8_2 + 1)), (by first | rfl | (simp; done) | (simp [*]; done)), H', ⟨by have := HJ3.out; have := HK2.out; have := HJ33.out; omega⟩, ⟨by (with_reducible repeat (first | apply Kd.R_alloc | apply Kd.R_drewN | apply Kd.R_drew)); exact HO_6.out⟩, ⟨by (with_reducible repeat (first | apply Kd.R_alloc | apply Kd.R_drewN | apply Kd.R_drew)); exact HO_483001.out⟩, ⟨by (with_reducible repeat (first | refine blk_drewN ?_ _ | refine blk_drew ?_ | refine blk_alloc ?_ _)); exact BK482.out⟩, ⟨Z.bs HB.out GE482.out⟩⟩
              ·rw [if_neg c54] at H
               have c54b0 : (t494 == t496) = false := beq_eq_false_iff_ne.mpr c54
               have c54b1 : (t494 != t496) = true := bne_iff_ne.mpr c54
               obtain rfl := Option.some.inj H
               have hcz64 := Z.c2 BK482.out
               go_wp2_with (first | (go_at_call 12; (with_reducible refine (impl_SwingsOf.calls kj33 t474 _ _ t475 _ _ y486 t481 t495 _ ?q1 ?q2 ?q3 ?q4 A51.out).mono ?_); (case q1 => repeat (first | exact (Kd.R_reads' HO_483001.out).2.2 | (with_reducible refine Kd.C_alloc ?_ _) | (with_reducible refine Kd.C_drewN ?_ _) | (with_reducible refine Kd.C_drew ?_))); (case q2 => exact (Kd.R_reads' HO_483001.out).2.1); (case q3 => repeat (first | exact (Kd.R_reads' HO_6.out).2.2 | (with_reducible refine Kd.C_alloc ?_ _) | (with_reducible refine Kd.C_drewN ?_ _) | (with_reducible refine Kd.C_drew ?_))); (case q4 => exact (Kd.R_reads' HO_6.out).2.1); rintro e w65 ⟨rfl, hb⟩; replace HO_6 := Aside0.mk (Kd.R_below (by (with_reducible repeat (first | apply Kd.R_alloc | apply Kd.R_drewN | apply Kd.R_drew)); exact HO_6.out) hb); replace HO_483001 := Aside0.mk (Kd.R_below (by (with_reducible repeat (first | apply Kd.R_alloc | apply Kd.R_drewN | apply Kd.R_drew)); exact HO_483001.out) hb); replace BK482 := Z.bb BK482 hb; replace HB := Z.st (Z.bs HB.out GE482.out) hb; (try clear hb); (try clear hb2); (try clear hk); (try clear hi); have hcz66 := Z.c2 BK482.out) | (go_at_call 7; (with_reducible refine (impl_PivotsOf.calls kj33 t474 _ _ t475 _ _ y486 t481 t496 _ ?q1 ?q2 ?q3 ?q4 A53.out).mono ?_); (case q1 => repeat (first | exact (Kd.R_reads' HO_483001.out).2.2 | (with_reducible refine Kd.C_alloc ?_ _) | (with_reducible refine Kd.C_drewN ?_ _) | (with_reducible refine Kd.C_drew ?_))); (case q2 => exact (Kd.R_reads' HO_483001.out).2.1); (case q3 => repeat (first | exact (Kd.R_reads' HO_6.out).2.2 | (with_reducible refine Kd.C_alloc ?_ _) | (with_reducible refine Kd.C_drewN ?_ _) | (with_reducible refine Kd.C_drew ?_))); (case q4 => exact (Kd.R_reads' HO_6.out).2.1); rintro e w67 ⟨rfl, hb⟩; replace HO_6 := Aside0.mk (Kd.R_below (by (with_reducible repeat (first | apply Kd.R_alloc | apply Kd.R_drewN | apply Kd.R_drew)); exact HO_6.out) hb); replace HO_483001 := Aside0.mk (Kd.R_below (by (with_reducible repeat (first | apply Kd.R_alloc | apply Kd.R_drewN | apply Kd.R_drew)); exact HO_483001.out) hb); replace BK482 := Z.bb BK482 hb; replace HB := Z.st (Z.bs HB.out GE482.out) hb; (try clear hb); (try clear hb2); (try clear hk); (try clear hi)))
               repeat (go_quiet (first | (go_at_call 12; (with_reducible refine (impl_SwingsOf.calls kj33 t474 _ _ t475 _ _ y486 t481 t495 _ ?q1 ?q2 ?q3 ?q4 A51.out).mono ?_); (case q1 => repeat (first | exact (Kd.R_reads' HO_483001.out).2.2 | (with_reducible refine Kd.C_alloc ?_ _) | (with_reducible refine Kd.C_drewN ?_ _) | (with_reducible refine Kd.C_drew ?_))); (case q2 => exact (Kd.R_reads' HO_483001.out).2.1); (case q3 => repeat (first | exact (Kd.R_reads' HO_6.out).2.2 | (with_reducible refine Kd.C_alloc ?_ _) | (with_reducible refine Kd.C_drewN ?_ _) | (with_reducible refine Kd.C_drew ?_))); (case q4 => exact (Kd.R_reads' HO_6.out).2.1); rintro e w65 ⟨rfl, hb⟩; replace HO_6 := Aside0.mk (Kd.R_below (by (with_reducible repeat (first | apply Kd.R_alloc | apply Kd.R_drewN | apply Kd.R_drew)); exact HO_6.out) hb); replace HO_483001 := Aside0.mk (Kd.R_below (by (with_reducible repeat (first | apply Kd.R_alloc | apply Kd.R_drewN | apply Kd.R_drew)); exact HO_483001.out) hb); replace BK482 := Z.bb BK482 hb; replace HB := Z.st (Z.bs HB.out GE482.out) hb; (try clear hb); (try clear hb2); (try clear hk); (try clear hi); have hcz66 := Z.c2 BK482.out) | (go_at_call 7; (with_reducible refine (impl_PivotsOf.calls kj33 t474 _ _ t475 _ _ y486 t481 t496 _ ?q1 ?q2 ?q3 ?q4 A53.out).mono ?_); (case q1 => repeat (first | exact (Kd.R_reads' HO_483001.out).2.2 | (with_reducible refine Kd.C_alloc ?_ _) | (with_reducible refine Kd.C_drewN ?_ _) | (with_reducible refine Kd.C_drew ?_))); (case q2 => exact (Kd.R_reads' HO_483001.out).2.1); (case q3 => repeat (first | exact (Kd.R_reads' HO_6.out).2.2 | (with_reducible refine Kd.C_alloc ?_ _) | (with_reducible refine Kd.C_drewN ?_ _) | (with_reducible refine Kd.C_drew ?_))); (case q4 => exact (Kd.R_reads' HO_6.out).2.1); rintro e w67 ⟨rfl, hb⟩; replace HO_6 := Aside0.mk (Kd.R_below (by (with_reducible repeat (first | apply Kd.R_alloc | apply Kd.R_drewN | apply Kd.R_drew)); exact HO_6.out) hb); replace HO_483001 := Aside0.mk (Kd.R_below (by (with_reducible repeat (first | apply Kd.R_alloc | apply Kd.R_drewN | apply Kd.R_drew)); exact HO_483001.out) hb); replace BK482 := Z.bb BK482 hb; replace HB := Z.st (Z.bs HB.out GE482.out) hb; (try clear hb); (try clear hb2); (try clear hk); (try clear hi))); try go_wp2_with (first | (go_at_call 12; (with_reducible refine (impl_SwingsOf.calls kj33 t474 _ _ t475 _ _ y486 t481 t495 _ ?q1 ?q2 ?q3 ?q4 A51.out).mono ?_); (case q1 => repeat (first | exact (Kd.R_reads' HO_483001.out).2.2 | (with_reducible refine Kd.C_alloc ?_ _) | (with_reducible refine Kd.C_drewN ?_ _) | (with_reducible refine Kd.C_drew ?_))); (case q2 => exact (Kd.R_reads' HO_483001.out).2.1); (case q3 => repeat (first | exact (Kd.R_reads' HO_6.out).2.2 | (with_reducible refine Kd.C_alloc ?_ _) | (with_reducible refine Kd.C_drewN ?_ _) | (with_reducible refine Kd.C_drew ?_))); (case q4 => exact (Kd.R_reads' HO_6.out).2.1); rintro e w65 ⟨rfl, hb⟩; replace HO_6 := Aside0.mk (Kd.R_below (by (with_reducible repeat (first | apply Kd.R_alloc | apply Kd.R_drewN | apply Kd.R_drew)); exact HO_6.out) hb); replace HO_483001 := Aside0.mk (Kd.R_below (by (with_reducible repeat (first | apply Kd.R_alloc | apply Kd.R_drewN | apply Kd.R_drew)); exact HO_483001.out) hb); replace BK482 := Z.bb BK482 hb; replace HB := Z.st (Z.bs HB.out GE482.out) hb; (try clear hb); (try clear hb2); (try clear hk); (try clear hi); have hcz66 := Z.c2 BK482.out) | (go_at_call 7; (with_reducible refine (impl_PivotsOf.calls kj33 t474 _ _ t475 _ _ y486 t481 t496 _ ?q1 ?q2 ?q3 ?q4 A53.out).mono ?_); (case q1 => repeat (first | exact (Kd.R_reads' HO_483001.out).2.2 | (with_reducible refine Kd.C_alloc ?_ _) | (with_reducible refine Kd.C_drewN ?_ _) | (with_reducible refine Kd.C_drew ?_))); (case q2 => exact (Kd.R_reads' HO_483001.out).2.1); (case q3 => repeat (first | exact (Kd.R_reads' HO_6.out).2.2 | (with_reducible refine Kd.C_alloc ?_ _) | (with_reducible refine Kd.C_drewN ?_ _) | (with_reducible refine Kd.C_drew ?_))); (case q4 => exact (Kd.R_reads' HO_6.out).2.1); rintro e w67 ⟨rfl, hb⟩; replace HO_6 := Aside0.mk (Kd.R_below (by (with_reducible repeat (first | apply Kd.R_alloc | apply Kd.R_drewN | apply Kd.R_drew)); exact HO_6.out) hb); replace HO_483001 := Aside0.mk (Kd.R_below (by (with_reducible repeat (first | apply Kd.R_alloc | apply Kd.R_drewN | apply Kd.R_drew)); exact HO_483001.out) hb); replace BK482 := Z.bb BK482 hb; replace HB := Z.st (Z.bs HB.out GE482.out) hb; (try clear hb); (try clear hb2); (try clear hk); (try clear hi))))
               go_ret
               exact ⟨by first | rfl | (simp [errW_none, errW_some] <;> rfl) | (simp only [← hji46, ← hji49]; first | rfl | (simp [errW_none, errW_some] <;> rfl)) | (simp [*, errW_none, errW_some] <;> rfl), Z.bs HB.out GE482.out⟩
             ·rw [if_neg c52] at H
              have c52b0 : (t493 == t495) = false := beq_eq_false_iff_ne.mpr c52
              have c52b1 : (t493 != t495) = true := bne_iff_ne.mpr c52
              obtain rfl := Option.some.inj H
              have hcz68 := Z.c2 BK482.out
              go_wp2_with (first | (go_at_call 12; (with_reducible refine (impl_SwingsOf.calls kj33 t474 _ _ t475 _ _ y486 t481 t495 _ ?q1 ?q2 ?q3 ?q4 A51.out).mono ?_); (case q1 => repeat (first | exact (Kd.R_reads' HO_483001.out).2.2 | (with_reducible refine Kd.C_alloc ?_ _) | (with_reducible refine Kd.C_drewN ?_ _) | (with_reducible refine Kd.C_drew ?_))); (case q2 => exact (Kd.R_reads' HO_483001.out).2.1); (case q3 => repeat (first | exact (Kd.R_reads' HO_6.out).2.2 | (with_reducible refine Kd.C_alloc ?_ _) | (with_reducible refine Kd.C_drewN ?_ _) | (with_reducible refine Kd.C_drew ?_))); (case q4 => exact (Kd.R_reads' HO_6.out).2.1); rintro e w69 ⟨rfl, hb⟩; replace HO_6 := Aside0.mk (Kd.R_below (by (with_reducible repeat (first | apply Kd.R_alloc | apply Kd.R_drewN | apply Kd.R_drew)); exact HO_6.out) hb); replace HO_483001 := Aside0.mk (Kd.R_below (by (with_reducible repeat (first | apply Kd.R_alloc | apply Kd.R_drewN | apply Kd.R_drew)); exact HO_483001.out) hb); replace BK482 := Z.bb BK482 hb; replace HB := Z.st (Z.bs HB.out GE482.out) hb; (try clear hb); (try clear hb2); (try clear hk); (try clear hi)))
              repeat (go_quiet (first | (go_at_call 12; (with_reducible refine (impl_SwingsOf.calls kj33 t474 _ _ t475 _ _ y486 t481 t495 _ ?q1 ?q2 ?q3 ?q4 A51.out).mono ?_); (case q1 => repeat (first | exact (Kd.R_reads' HO_483001.out).2.2 | (with_reducible refine Kd.C_alloc ?_ _) | (with_reducible refine Kd.C_drewN ?_ _) | (with_reducible refine Kd.C_drew ?_))); (case q2 => exact (Kd.R_reads' HO_483001.out).2.1); (case q3 => repeat (first | exact (Kd.R_reads' HO_6.out).2.2 | (with_reducible refine Kd.C_alloc ?_ _) | (with_reducible refine Kd.C_drewN ?_ _) | (with_reducible refine Kd.C_drew ?_))); (case q4 => exact (Kd.R_reads' HO_6.out).2.1); rintro e w69 ⟨rfl, hb⟩; replace HO_6 := Aside0.mk (Kd.R_below (by (with_reducible repeat (first | apply Kd.R_alloc | apply Kd.R_drewN | apply Kd.R_drew)); exact HO_6.out) hb); replace HO_483001 := Aside0.mk (Kd.R_below (by (with_reducible repeat (first | apply Kd.R_alloc | apply Kd.R_drewN | apply Kd.R_drew)); exact HO_483001.out) hb); replace BK482 := Z.bb BK482 hb; replace HB := Z.st (Z.bs HB.out GE482.out) hb; (try clear hb); (try clear hb2); (try clear hk); (try clear hi))); try go_wp2_with (first | (go_at_call 12; (with_reducible refine (impl_SwingsOf.calls kj33 t474 _ _ t475 _ _ y486 t481 t495 _ ?q1 ?q2 ?q3 ?q4 A51.out).mono ?_); (case q1 => repeat (first | exact (Kd.R_reads' HO_483001.out).2.2 | (with_reducible refine Kd.C_alloc ?_ _) | (with_reducible refine Kd.C_drewN ?_ _) | (with_reducible refine Kd.C_drew ?_))); (case q2 => exact (Kd.R_reads' HO_483001.out).2.1); (case q3 => repeat (first | exact (Kd.R_reads' HO_6.out).2.2 | (with_reducible refine Kd.C_alloc ?_ _) | (with_reducible refine Kd.C_drewN ?_ _) | (with_reducible refine Kd.C_drew ?_))); (case q4 => exact (Kd.R_reads' HO_6.out).2.1); rintro e w69 ⟨rfl, hb⟩; replace HO_6 := Aside0.mk (Kd.R_below (by (with_reducible repeat (first | apply Kd.R_alloc | apply Kd.R_drewN | apply Kd.R_drew)); exact HO_6.out) hb); replace HO_483001 := Aside0.mk (Kd.R_below (by (with_reducible repeat (first | apply Kd.R_alloc | apply Kd.R_drewN | apply Kd.R_drew)); exact HO_483001.out) hb); replace BK482 := Z.bb BK482 hb; replace HB := Z.st (Z.bs HB.out GE482.out) hb; (try clear hb); (try clear hb2); (try clear hk); (try clear hi))))
              go_ret
              exact ⟨by first | rfl | (simp [errW_none, errW_some] <;> rfl) | (simp only [← hji46, ← hji49]; first | rfl | (simp [errW_none, errW_some] <;> rfl)) | (simp [*, errW_none, errW_some] <;> rfl), Z.bs HB.out GE482.out⟩
            ·rw [if_neg c50] at H
             have c50b0 : ((Int.tmod (ji49) 2) == 1) = false := beq_eq_false_iff_ne.mpr c50
             have c50b1 : ((Int.tmod (ji49) 2) != 1) = true := bne_iff_ne.mpr c50
             have H' := Aside0.mk H
             clear H
             go_wp2
             repeat (go_quiet (fail); try go_wp2)
             go_roundg kj33
             case measure => have := HJ3.out; have := HK2.out; have := HJ33.out; omega
             case rel => exact ⟨(wrap64 (x8_2 + 1)), (by first | rfl | (simp; done) | (simp [*]; done)), H', ⟨by have := HJ3.out; have := HK2.out; have := HJ33.out; omega⟩, ⟨by (with_reducible repeat (first | apply Kd.R_alloc | apply Kd.R_drewN | apply Kd.R_drew)); exact HO_6.out⟩, ⟨by (with_reducible repeat (first | apply Kd.R_alloc | apply Kd.R_drewN | apply Kd.R_drew)); exact HO_483001.out⟩, ⟨by (with_reducible repeat (first | refine blk_drewN ?_ _ | refine blk_drew ?_ | refine blk_alloc ?_ _)); exact BK482.out⟩, ⟨Z.bs HB.out GE482.out⟩⟩
           ·rw [if_neg c47] at H
            have c47b0 : ((Int.tmod (ji46) 2) == 1) = false := beq_eq_false_iff_ne.mpr c47
            have c47b1 : ((Int.tmod (ji46) 2) != 1) = true := bne_iff_ne.mpr c47
            have H' := Aside0.mk H
            clear H
            go_wp2
            repeat (go_quiet (fail); try go_wp2)
            go_roundg kj33
            case measure => have := HJ3.out; have := HK2.out; have := HJ33.out; omega
            case rel => exact ⟨(wrap64 (x8_2 + 1)), (by first | rfl | (simp; done) | (simp [*]; done)), H', ⟨by have := HJ3.out; have := HK2.out; have := HJ33.out; omega⟩, ⟨by (with_reducible repeat (first | apply Kd.R_alloc | apply Kd.R_drewN | apply Kd.R_drew)); exact HO_6.out⟩, ⟨by (with_reducible repeat (first | apply Kd.R_alloc | apply Kd.R_drewN | apply Kd.R_drew)); exact HO_483001.out⟩, ⟨by (with_reducible repeat (first | refine blk_drewN ?_ _ | refine blk_drew ?_ | refine blk_alloc ?_ _)); exact BK482.out⟩, ⟨Z.bs HB.out GE482.out⟩⟩
       ·rw [if_neg c31] at H
        have c31b0 := decide_eq_false c31
        clear c31
        replace H := Option.bind_eq_some_iff.mp H
        obtain ⟨t491, A700, H⟩ := H
        try dsimp only at H
        have A70 := Aside0.mk A700
        clear A700
        by_cases c71 : t491 = true
        ·subst c71
         rw [if_pos rfl] at H
         replace H := Option.bind_eq_some_iff.mp H
         obtain ⟨t492, A720, H⟩ := H
         try dsimp only at H
         have A72 := Aside0.mk A720
         clear A720
         obtain rfl := Option.some.inj H
         have hcz73 := Z.c2 BK482.out
         go_wp2_with (first | (go_at_call 9; (with_reducible refine (laws_alive.calls  true _ A70.out).mono ?_); rintro e w' ⟨rfl, ⟨nd, rfl⟩⟩; (try first | exact ⟨rfl, _, World.drewN_drewN _ _ _⟩ | exact ⟨rfl, _, Eq.trans (World.drewN_drewN _ _ _) (congrArg (World.drewN _) (Nat.add_assoc _ _ _))⟩); obtain ⟨Ao74, co74, eo74⟩ := Kd.R_slice HO_6.out; subst eo74) | (go_at_call 13; (with_reducible refine (impl_StrongerOk.calls k2 t474 _ _ t475 _ _ y486 t481 t481 t492 _ ?q1 ?q2 ?q3 ?q4 A72.out).mono ?_); (case q1 => repeat (first | exact (Kd.R_reads' HO_483001.out).2.2 | (with_reducible refine Kd.C_alloc ?_ _) | (with_reducible refine Kd.C_drewN ?_ _) | (with_reducible refine Kd.C_drew ?_))); (case q2 => exact (Kd.R_reads' HO_483001.out).2.1); (case q3 => repeat (first | exact (Kd.R_reads' HO_6.out).2.2 | (with_reducible refine Kd.C_alloc ?_ _) | (with_reducible refine Kd.C_drewN ?_ _) | (with_reducible refine Kd.C_drew ?_))); (case q4 => exact (Kd.R_reads' HO_6.out).2.1); rintro e w75 ⟨rfl, hb⟩; replace HO_6 := Aside0.mk (Kd.R_below (by (with_reducible repeat (first | apply Kd.R_alloc | apply Kd.R_drewN | apply Kd.R_drew)); exact HO_6.out) hb); replace HO_483001 := Aside0.mk (Kd.R_below (by (with_reducible repeat (first | apply Kd.R_alloc | apply Kd.R_drewN | apply Kd.R_drew)); exact HO_483001.out) hb); replace BK482 := Z.bb BK482 hb; replace HB := Z.st (Z.bs HB.out GE482.out) hb; (try clear hb); (try clear hb2); (try clear hk); (try clear hi)))
         repeat (go_quiet (first | (go_at_call 9; (with_reducible refine (laws_alive.calls  true _ A70.out).mono ?_); rintro e w' ⟨rfl, ⟨nd, rfl⟩⟩; (try first | exact ⟨rfl, _, World.drewN_drewN _ _ _⟩ | exact ⟨rfl, _, Eq.trans (World.drewN_drewN _ _ _) (congrArg (World.drewN _) (Nat.add_assoc _ _ _))⟩); obtain ⟨Ao74, co74, eo74⟩ := Kd.R_slice HO_6.out; subst eo74) | (go_at_call 13; (with_reducible refine (impl_StrongerOk.calls k2 t474 _ _ t475 _ _ y486 t481 t481 t492 _ ?q1 ?q2 ?q3 ?q4 A72.out).mono ?_); (case q1 => repeat (first | exact (Kd.R_reads' HO_483001.out).2.2 | (with_reducible refine Kd.C_alloc ?_ _) | (with_reducible refine Kd.C_drewN ?_ _) | (with_reducible refine Kd.C_drew ?_))); (case q2 => exact (Kd.R_reads' HO_483001.out).2.1); (case q3 => repeat (first | exact (Kd.R_reads' HO_6.out).2.2 | (with_reducible refine Kd.C_alloc ?_ _) | (with_reducible refine Kd.C_drewN ?_ _) | (with_reducible refine Kd.C_drew ?_))); (case q4 => exact (Kd.R_reads' HO_6.out).2.1); rintro e w75 ⟨rfl, hb⟩; replace HO_6 := Aside0.mk (Kd.R_below (by (with_reducible repeat (first | apply Kd.R_alloc | apply Kd.R_drewN | apply Kd.R_drew)); exact HO_6.out) hb); replace HO_483001 := Aside0.mk (Kd.R_below (by (with_reducible repeat (first | apply Kd.R_alloc | apply Kd.R_drewN | apply Kd.R_drew)); exact HO_483001.out) hb); replace BK482 := Z.bb BK482 hb; replace HB := Z.st (Z.bs HB.out GE482.out) hb; (try clear hb); (try clear hb2); (try clear hk); (try clear hi))); try go_wp2_with (first | (go_at_call 9; (with_reducible refine (laws_alive.calls  true _ A70.out).mono ?_); rintro e w' ⟨rfl, ⟨nd, rfl⟩⟩; (try first | exact ⟨rfl, _, World.drewN_drewN _ _ _⟩ | exact ⟨rfl, _, Eq.trans (World.drewN_drewN _ _ _) (congrArg (World.drewN _) (Nat.add_assoc _ _ _))⟩); obtain ⟨Ao74, co74, eo74⟩ := Kd.R_slice HO_6.out; subst eo74) | (go_at_call 13; (with_reducible refine (impl_StrongerOk.calls k2 t474 _ _ t475 _ _ y486 t481 t481 t492 _ ?q1 ?q2 ?q3 ?q4 A72.out).mono ?_); (case q1 => repeat (first | exact (Kd.R_reads' HO_483001.out).2.2 | (with_reducible refine Kd.C_alloc ?_ _) | (with_reducible refine Kd.C_drewN ?_ _) | (with_reducible refine Kd.C_drew ?_))); (case q2 => exact (Kd.R_reads' HO_483001.out).2.1); (case q3 => repeat (first | exact (Kd.R_reads' HO_6.out).2.2 | (with_reducible refine Kd.C_alloc ?_ _) | (with_reducible refine Kd.C_drewN ?_ _) | (with_reducible refine Kd.C_drew ?_))); (case q4 => exact (Kd.R_reads' HO_6.out).2.1); rintro e w75 ⟨rfl, hb⟩; replace HO_6 := Aside0.mk (Kd.R_below (by (with_reducible repeat (first | apply Kd.R_alloc | apply Kd.R_drewN | apply Kd.R_drew)); exact HO_6.out) hb); replace HO_483001 := Aside0.mk (Kd.R_below (by (with_reducible repeat (first | apply Kd.R_alloc | apply Kd.R_drewN | apply Kd.R_drew)); exact HO_483001.out) hb); replace BK482 := Z.bb BK482 hb; replace HB := Z.st (Z.bs HB.out GE482.out) hb; (try clear hb); (try clear hb2); (try clear hk); (try clear hi))))
         go_ret
         exact ⟨by first | rfl | (simp [errW_none, errW_some] <;> rfl) | (simp [*, errW_none, errW_some] <;> rfl), Z.bs HB.out GE482.out⟩
        ·replace c71 := Bool.eq_false_iff.mpr c71
         subst c71
         rw [if_neg (show ¬ (false = true) by decide)] at H
         obtain rfl := Option.some.inj H
         have hcz76 := Z.c2 BK482.out
         go_wp2_with (first | (go_at_call 9; (with_reducible refine (laws_alive.calls  false _ A70.out).mono ?_); rintro e w' ⟨rfl, ⟨nd, rfl⟩⟩; (try first | exact ⟨rfl, _, World.drewN_drewN _ _ _⟩ | exact ⟨rfl, _, Eq.trans (World.drewN_drewN _ _ _) (congrArg (World.drewN _) (Nat.add_assoc _ _ _))⟩)))
         repeat (go_quiet (first | (go_at_call 9; (with_reducible refine (laws_alive.calls  false _ A70.out).mono ?_); rintro e w' ⟨rfl, ⟨nd, rfl⟩⟩; (try first | exact ⟨rfl, _, World.drewN_drewN _ _ _⟩ | exact ⟨rfl, _, Eq.trans (World.drewN_drewN _ _ _) (congrArg (World.drewN _) (Nat.add_assoc _ _ _))⟩))); try go_wp2_with (first | (go_at_call 9; (with_reducible refine (laws_alive.calls  false _ A70.out).mono ?_); rintro e w' ⟨rfl, ⟨nd, rfl⟩⟩; (try first | exact ⟨rfl, _, World.drewN_drewN _ _ _⟩ | exact ⟨rfl, _, Eq.trans (World.drewN_drewN _ _ _) (congrArg (World.drewN _) (Nat.add_assoc _ _ _))⟩))))
         go_ret
         exact ⟨by first | rfl | (simp [errW_none, errW_some] <;> rfl) | (simp [*, errW_none, errW_some] <;> rfl), Z.bs HB.out GE482.out⟩
/-- THE ONE PURE STATEMENT of laws_FnSameMembers: yours. -/
def laws_FnSameMembers.Pure : Prop := ∀ (l0 : List Int), l0.length ≤ maxLen → l0.length * 1 ≤ 140737488351232 → (∀ x ∈ l0, (Lit.int .u8 x).wf = true) → ∃ k, laws_FnSameMembers.f k l0 = some true
theorem laws_FnSameMembers.walk (P : laws_FnSameMembers.Pure) (a0 : Option Addr) (len0 cap0 : Nat) (z0 : List Int) (w : World) (w0 : (a0 = none ∧ len0 = 0 ∧ cap0 = 0 ∧ z0 = []) ∨ ∃ x, a0 = some x ∧ len0 ≤ cap0 ∧ cap0 ≤ maxLen ∧ z0.length = cap0 ∧ (∀ i, i < z0.length → w.cell? (x.add i) = some (.int .u8 (z0.getD i 0))) ∧ ∀ n ∈ z0, (Lit.int .u8 n).wf = true) (y0 : len0 * 1 ≤ 140737488351232) :
  Calls Try.prog 4 #[.slice a0 len0 cap0] w fun e w' => e = .returned (.bool true) ∧ Below w.heap.size w w' := by
 obtain ⟨l0, rfl, hr0, hm0, hw0, hc0⟩ := ReadsInt.ofRowC w0
 obtain ⟨k, h⟩ := P l0 hm0 y0 hw0
 refine (laws_FnSameMembers.calls k _ _ l0 true w (Kd.C_of_reads (d := (0 : Int)) (h1 := fun _ => rfl) hr0) hc0 h).mono ?_
 rintro e w' ⟨rfl, hd⟩
 exact ⟨rfl, hd⟩

end Go.Proofs.Ytenjngocdinfmaa.PAll

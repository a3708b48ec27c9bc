/- Walks of functions that laws of this seat reach, in the form of the print. -/
import Derived.Test.YtkogboechfieeaaCAll0
import Derived.Test.YtkogboechfieeaaCAll1
import Derived.Test.YtkogboechfieeaaCAll37
import Derived.Test.YtkogboechfieeaaCAll40
import Derived.Test.YtkogboechfieeaaCAll41
import Derived.Test.YtkogboechfieeaaCAll42
import Derived.Test.YtkogboechfieeaaZ
-- PRINTED
namespace Go.Proofs.Ytkogboechfieeaa.PAll
open Go.RowKit Go.Proofs.YtkogboechfieeaaW.PrintWords Go.Proofs.YtkogboechfieeaaW.PrintLast Go.Proofs.YtkogboechfieeaaW.PrintMore
attribute [local go_sem] max2_int min2_int max_two min_two max_three min_three max_four min_four
set_option linter.unusedVariables false
set_option linter.unusedSimpArgs false

/-! ### spec_DrawBreakersOf: function 20 -/
def spec_DrawBreakersOf.f (k : Nat) (l0 : List Int) : Option (Int × List Int × (List (List (S37))) × List Int × List Int) := (spec_l20Open.f l0).bind fun bt546 => ((spec_l20Bad.f k bt546.1 bt546.2).bind fun bt549 => (some (bt549.1, bt549.2.1, bt549.2.2.1, bt549.2.2.2.1, bt549.2.2.2.2.1)))
set_option maxHeartbeats 8000000 in
set_option maxRecDepth 100000 in
theorem spec_DrawBreakersOf.calls (k : Nat) (A0 : Option Addr) (c0 : Nat) (l0 : List Int) (r1 : Int) (r2 : List Int) (r3 : List (List (S37))) (r4 : List Int) (r5 : List Int) (w : World) (hr0 : Kd.C (Kd.int .u8) w A0 l0.length l0) (hc0 : l0.length ≤ c0) (h : spec_DrawBreakersOf.f k l0 = some (r1, r2, r3, r4, r5)) :
  Calls Try.prog 20 #[.slice A0 l0.length c0] w fun e w' => ∃ v1_ v2_ v3_ v4_ : Value, e = .returned (.tuple #[.agg #[.int .i64 r1, v1_, v2_], v3_, v4_]) ∧ Kd.R (Kd.int .i64) 3 w' w.heap.size (fun k_ => some k_ ≠ (v3_ : Value).ownBlock ∧ some k_ ≠ (v4_ : Value).ownBlock) v1_ r2 ∧ Kd.R (Kd.slice 37 k37) 34 w' w.heap.size (fun _ => True) v2_ r3 ∧ Kd.R (Kd.int .i64) 3 w' w.heap.size (fun k_ => some k_ ≠ (v1_ : Value).ownBlock ∧ some k_ ≠ (v4_ : Value).ownBlock) v3_ r4 ∧ Kd.R (Kd.int .i64) 3 w' w.heap.size (fun k_ => some k_ ≠ (v1_ : Value).ownBlock ∧ some k_ ≠ (v3_ : Value).ownBlock) v4_ r5 ∧ Below w.heap.size w w' := by
 have hu28 := Try.underlying28
 have HR0 := Z.k hr0
 have HC0 := Z.k hc0
 clear hr0 hc0
 have HB := Z.k (Below.refl w.heap.size w)
 have H := h
 clear h
 unfold spec_DrawBreakersOf.f at H
 replace H := Option.bind_eq_some_iff.mp H
 obtain ⟨⟨t546, t547⟩, A20, H⟩ := H
 try dsimp only at H
 have A2 := Z.k A20
 clear A20
 replace H := Option.bind_eq_some_iff.mp H
 obtain ⟨⟨t549, t550, t553, t556, t559, t562⟩, A30, H⟩ := H
 try dsimp only at H
 have A3 := Z.k A30
 clear A30
 simp only [Option.some.injEq, Prod.mk.injEq] at H
 obtain ⟨rfl, rfl, rfl, rfl, rfl⟩ := H
 go_enter Try.func20, Try.ntmps20
 go_wp2_with (first | ((with_reducible refine gate_dst (N := 2) rfl ?_); refine Z.bx #[.int .i64 0, .slice none 0 0, .slice none 0 0] 28 HB ?_; clear HB; intro gb545 w4 BK545 GE545 HB hg hb; have GW545 := GE545; clear hb hg) | ((with_reducible refine gate_callee (f := 56) rfl ?_); refine goesL_ (some 6) rfl rfl Try.func56 (by kernel_rfl) rfl #[.slice A0 l0.length c0] rfl Z.ar ?_; (with_reducible refine (spec_l20Open.calls _ _ l0 t546 t547 w _ ?q1 ?q2 ?q3 A2.out).mono ?_); (case q1 => repeat (first | (with_reducible first | exact HB.out | apply below_alloc | apply pw_below_drewN | apply below_drew1 | refine below_set ?_ GE545.out) | exact HB.out)); (case q2 => exact HR0.out); (case q3 => exact HC0.out); rintro e w5 ⟨g548, rfl, hi, hb, hb2⟩; refine ⟨_, rfl, ?_⟩; replace HB := Z.k (hb); have HI548 := Z.k (hi); have NB548_545 := Z.k (IsS92.ne_blk hi (blk_below (g := gb545) (o := .cells #[.int .i64 0, .slice none 0 0, .slice none 0 0] 28 (0, 0)) (Z.bk BK545.out) hb2) (by decide)); have NB545_548 := Z.k (Ne.symm (IsS92.ne_blk hi (blk_below (g := gb545) (o := .cells #[.int .i64 0, .slice none 0 0, .slice none 0 0] 28 (0, 0)) (Z.bk BK545.out) hb2) (by decide))); replace BK545 := Z.k (blk_below (g := gb545) (o := .cells #[.int .i64 0, .slice none 0 0, .slice none 0 0] 28 (0, 0)) (Z.bk BK545.out) hb2); (try clear hb); (try clear hb2); (try clear hk); (try clear hi)) | ((with_reducible refine gate_callee (f := 66) rfl ?_); refine goesL_ (some 7) rfl rfl Try.func66 (by kernel_rfl) rfl #[.pointer (some ⟨g548, 0, none⟩)] rfl Z.ar ?_; (with_reducible refine (spec_l20Bad.calls k g548 t546 t547 t549 t550 t553 t556 t559 t562 w _ ?q1 ?q2 A3.out).mono ?_); (case q1 => repeat (first | (with_reducible first | exact HI548.out | apply IsS92.alloc | apply IsS92.drewN | apply IsS92.drew | apply IsS92.set_1 | refine IsS92.far ?_ NB548_545.out _) | exact HI548.out)); (case q2 => repeat (first | (with_reducible first | exact HB.out | apply below_alloc | apply pw_below_drewN | apply below_drew1 | refine below_set ?_ (IsS92.ge HI548.out) | refine below_set ?_ GE545.out) | exact HB.out)); rintro e w6 ⟨v551, v554, v557, v560, rfl, ho0, ho1, ho2, ho3, hi, hb, hk⟩; refine ⟨_, rfl, ?_⟩; replace BK545 := Z.k (KeepBut.blk hk (g' := gb545) (o := .cells #[.int .i64 0, .slice none 0 0, .slice none 0 0] 28 (0, 0)) (Z.bk BK545.out) NB545_548.out (by simp)); have HO552 := Z.k (Kd.R_lower ho0 (below_size (by repeat (first | (with_reducible first | exact HB.out | apply below_alloc | apply pw_below_drewN | apply below_drew1 | refine below_set ?_ (IsS92.ge HI548.out) | refine below_set ?_ GE545.out) | exact HB.out)))); have HO555 := Z.k (Kd.R_lower ho1 (below_size (by repeat (first | (with_reducible first | exact HB.out | apply below_alloc | apply pw_below_drewN | apply below_drew1 | refine below_set ?_ (IsS92.ge HI548.out) | refine below_set ?_ GE545.out) | exact HB.out)))); have HO558 := Z.k (Kd.R_lower ho2 (below_size (by repeat (first | (with_reducible first | exact HB.out | apply below_alloc | apply pw_below_drewN | apply below_drew1 | refine below_set ?_ (IsS92.ge HI548.out) | refine below_set ?_ GE545.out) | exact HB.out)))); have HO561 := Z.k (Kd.R_lower ho3 (below_size (by repeat (first | (with_reducible first | exact HB.out | apply below_alloc | apply pw_below_drewN | apply below_drew1 | refine below_set ?_ (IsS92.ge HI548.out) | refine below_set ?_ GE545.out) | exact HB.out)))); replace HB := Z.k (hb); replace HI548 := Z.k (hi); (try clear hb); (try clear hb2); (try clear hk); (try clear hi); (try clear ho0); (try clear ho1); (try clear ho2); (try clear ho3); have hnb7 := NB545_548.out; have hnc7 := NB548_545.out; have hcz8 := Z.c3 BK545.out; obtain ⟨Ao9, co9, eo9⟩ := Kd.R_slice HO552.out; subst eo9; obtain ⟨Ao10, co10, eo10⟩ := Kd.R_slice HO555.out; subst eo10))
 refine bodyPost_ret (results_ctt rfl _ _ gb545 28 #[.int .i64 t549, .slice Ao9 t550.length co9, .slice Ao10 t553.length co10] (0, 0) _ rfl (by (with_reducible repeat (first | refine blk_drewN ?_ _ | refine blk_drew ?_ | refine blk_alloc ?_ _)); refine blk_put (cs := #[.int .i64 t549, .slice Ao9 t550.length co9, .slice none 0 0]) ?_ 2 _ rfl; (with_reducible repeat (first | refine blk_drewN ?_ _ | refine blk_drew ?_ | refine blk_alloc ?_ _)); refine blk_put (cs := #[.int .i64 t549, .slice none 0 0, .slice none 0 0]) ?_ 1 _ rfl; (with_reducible repeat (first | refine blk_drewN ?_ _ | refine blk_drew ?_ | refine blk_alloc ?_ _)); refine blk_put (cs := #[.int .i64 0, .slice none 0 0, .slice none 0 0]) ?_ 0 _ rfl; (with_reducible repeat (first | refine blk_drewN ?_ _ | refine blk_drew ?_ | refine blk_alloc ?_ _)); exact BK545.out) Try.underlying28 rfl (by kernel_rfl)) rfl ?_
 exact ⟨_, _, _, _, by first | rfl | (simp [errW_none, errW_some] <;> rfl) | (simp [*, errW_none, errW_some] <;> rfl), by (with_reducible repeat (first | apply Kd.R_alloc | apply Kd.R_drewN | apply Kd.R_drew)); exact Kd.R_mono (Kd.R_far (p := ⟨gb545, 2, none⟩) (Kd.R_far (p := ⟨gb545, 1, none⟩) (Kd.R_far (p := ⟨gb545, 0, none⟩) (Kd.R_types HO552.out BK545.out (by decide)) (fun _ hk => hk.2) (.int .i64 t549)) (fun _ hk => hk.2) (.slice Ao9 t550.length co9)) (fun _ hk => hk.2) (.slice Ao10 t553.length co10)) (fun _ hk => ⟨hk.1.1, hk.1.2⟩), by (with_reducible repeat (first | apply Kd.R_alloc | apply Kd.R_drewN | apply Kd.R_drew)); exact Kd.R_mono (Kd.R_far (p := ⟨gb545, 2, none⟩) (Kd.R_far (p := ⟨gb545, 1, none⟩) (Kd.R_far (p := ⟨gb545, 0, none⟩) (Kd.R_types HO555.out BK545.out (by decide)) (fun _ hk => hk.2) (.int .i64 t549)) (fun _ hk => hk.2) (.slice Ao9 t550.length co9)) (fun _ hk => hk.2) (.slice Ao10 t553.length co10)) (fun _ hk => trivial), by (with_reducible repeat (first | apply Kd.R_alloc | apply Kd.R_drewN | apply Kd.R_drew)); exact Kd.R_mono (Kd.R_far (p := ⟨gb545, 2, none⟩) (Kd.R_far (p := ⟨gb545, 1, none⟩) (Kd.R_far (p := ⟨gb545, 0, none⟩) (Kd.R_types HO558.out BK545.out (by decide)) (fun _ hk => hk.2) (.int .i64 t549)) (fun _ hk => hk.2) (.slice Ao9 t550.length co9)) (fun _ hk => hk.2) (.slice Ao10 t553.length co10)) (fun _ hk => ⟨hk.1.1, hk.1.2⟩), by (with_reducible repeat (first | apply Kd.R_alloc | apply Kd.R_drewN | apply Kd.R_drew)); exact Kd.R_mono (Kd.R_far (p := ⟨gb545, 2, none⟩) (Kd.R_far (p := ⟨gb545, 1, none⟩) (Kd.R_far (p := ⟨gb545, 0, none⟩) (Kd.R_types HO561.out BK545.out (by decide)) (fun _ hk => hk.2) (.int .i64 t549)) (fun _ hk => hk.2) (.slice Ao9 t550.length co9)) (fun _ hk => hk.2) (.slice Ao10 t553.length co10)) (fun _ hk => ⟨hk.1.1, hk.1.2⟩), by repeat (first | (with_reducible first | exact HB.out | apply below_alloc | apply pw_below_drewN | apply below_drew1 | refine below_set ?_ (IsS92.ge HI548.out) | refine below_set ?_ GE545.out) | exact HB.out)⟩

-- NOT PRINTED: function 113 (slices_IndexFunc_int_int)

-- NOT PRINTED: function 97 (slices_ContainsFunc_int_int)

/-! ### spec_DrawMayChange: function 25 -/
def spec_DrawMayChange.f (k : Nat) (l0 : List Int) : Option (Int × List Int × (List (List (S37))) × List Int × Int × Int × Int) := (spec_l20Open.f l0).bind fun bt626 => ((spec_l20State.f k bt626.1 bt626.2 14).bind fun bt629 => ((spec_l20Rd_pick.f k bt626.1 bt629.2.2.2.2 3).bind fun bt641 => ((spec_l20Rd_pick.f k bt626.1 bt641.2 40).bind fun bt643 => ((spec_l20Rd_pick.f k bt626.1 bt643.2 3).bind fun bt645 => ((spec_l20Crowd.f k bt626.1 bt645.2 bt629.1 bt629.2.1).bind fun bt647 => (some (bt629.1, bt629.2.1, bt629.2.2.1, bt629.2.2.2.1, wrap64 (bt641.1 - (wrap64 (Int.tdiv bt643.1 39))), bt645.1, bt647.1)))))))
end Go.Proofs.Ytkogboechfieeaa.PAll

/- Walks of functions that laws of this seat reach, in the form of the print. -/
import Derived.Test.YtkogboechfieeaaCAll0
import Derived.Test.YtkogboechfieeaaCAll1
import Derived.Test.YtkogboechfieeaaCAll37
import Derived.Test.YtkogboechfieeaaCAll40
import Derived.Test.YtkogboechfieeaaCAll41
import Derived.Test.YtkogboechfieeaaCAll42
import Derived.Test.YtkogboechfieeaaCAll47
import Derived.Test.YtkogboechfieeaaZ
-- PRINTED
namespace Go.Proofs.Ytkogboechfieeaa.PAll
open Go.RowKit Go.Proofs.YtkogboechfieeaaW.PrintWords Go.Proofs.YtkogboechfieeaaW.PrintLast Go.Proofs.YtkogboechfieeaaW.PrintMore
attribute [local go_sem] max2_int min2_int max_two min_two max_three min_three max_four min_four
set_option linter.unusedVariables false
set_option linter.unusedSimpArgs false

/-! ### spec_DrawSafeFor: function 42 -/
def spec_DrawSafeFor.f (k : Nat) (l0 : List Int) : Option (Int × List Int × (List (List (S37))) × List Int × List Int × Int) := (spec_l20Open.f l0).bind fun bt1078 => ((spec_l20Bad.f k bt1078.1 bt1078.2).bind fun bt1081 => ((spec_l20Crowd.f k bt1078.1 bt1081.2.2.2.2.2 bt1081.1 bt1081.2.1).bind fun bt1096 => (some (bt1081.1, bt1081.2.1, bt1081.2.2.1, bt1081.2.2.2.1, bt1081.2.2.2.2.1, bt1096.1))))
def spec_DrawSafeFor.T3 : Bool × List (List Nat × List Nat) := (true, [([], []), ([], []), ([], []), ([], []), ([], []), ([4], [4]), ([3, 5], [3, 5]), ([0, 6, 0], [0]), ([1, 7, 0, 1, 7], [1]), ([2, 8, 0, 1, 2, 7, 8], [2]), ([6, 9, 0, 1, 2, 3, 4, 5, 6, 7, 8, 9], [6])])
def spec_DrawSafeFor.B3 : List Nat := [0, 0, 0, 0, 0, 16, 56, 121, 251, 511, 1023]
theorem spec_DrawSafeFor.tab3 : rtab .any (opsOf Try.f42 3) = spec_DrawSafeFor.T3 := by kernel_rfl
theorem spec_DrawSafeFor.bits3 : waitsOk spec_DrawSafeFor.T3.2 spec_DrawSafeFor.B3 = true := by kernel_rfl
set_option maxHeartbeats 8000000 in
set_option maxRecDepth 100000 in
theorem spec_DrawSafeFor.calls (k : Nat) (A0 : Option Addr) (c0 : Nat) (l0 : List Int) (r1 : Int) (r2 : List Int) (r3 : List (List (S37))) (r4 : List Int) (r5 : List Int) (r6 : Int) (w : World) (hr0 : Kd.C (Kd.int .u8) w A0 l0.length l0) (hc0 : l0.length ≤ c0) (h : spec_DrawSafeFor.f k l0 = some (r1, r2, r3, r4, r5, r6)) :
  Calls Try.prog 42 #[.slice A0 l0.length c0] w fun e w' => ∃ v1_ v2_ v3_ v4_ : Value, e = .returned (.tuple #[.agg #[.int .i64 r1, v1_, v2_], v3_, v4_, .int .i64 r6]) ∧ Kd.R (Kd.int .i64) 3 w' w.heap.size (fun k_ => some k_ ≠ (v3_ : Value).ownBlock ∧ some k_ ≠ (v4_ : Value).ownBlock) v1_ r2 ∧ Kd.R (Kd.slice 37 k37) 34 w' w.heap.size (fun _ => True) v2_ r3 ∧ Kd.R (Kd.int .i64) 3 w' w.heap.size (fun k_ => some k_ ≠ (v1_ : Value).ownBlock ∧ some k_ ≠ (v4_ : Value).ownBlock) v3_ r4 ∧ Kd.R (Kd.int .i64) 3 w' w.heap.size (fun k_ => some k_ ≠ (v1_ : Value).ownBlock ∧ some k_ ≠ (v3_ : Value).ownBlock) v4_ r5 ∧ Below w.heap.size w w' := by
 have hu28 := Try.underlying28
 have hu25 := Try.underlying25
 have HR0 := Z.k hr0
 have HC0 := Z.k hc0
 clear hr0 hc0
 have HB := Z.k (Below.refl w.heap.size w)
 have H := h
 clear h
 unfold spec_DrawSafeFor.f at H
 replace H := Option.bind_eq_some_iff.mp H
 obtain ⟨⟨t1078, t1079⟩, A20, H⟩ := H
 try dsimp only at H
 have A2 := Z.k A20
 clear A20
 replace H := Option.bind_eq_some_iff.mp H
 obtain ⟨⟨t1081, t1082, t1085, t1088, t1091, t1094⟩, A30, H⟩ := H
 try dsimp only at H
 have A3 := Z.k A30
 clear A30
 replace H := Option.bind_eq_some_iff.mp H
 obtain ⟨⟨t1096, t1097⟩, A40, H⟩ := H
 try dsimp only at H
 have A4 := Z.k A40
 clear A40
 simp only [Option.some.injEq, Prod.mk.injEq] at H
 obtain ⟨rfl, rfl, rfl, rfl, rfl, rfl⟩ := H
 go_enter Try.func42, Try.ntmps42
 try go_wp2_with (first | ((with_reducible refine gate_dst (N := 2) rfl ?_); refine Z.bx #[.int .i64 0, .slice none 0 0, .slice none 0 0] 28 HB ?_; clear HB; intro gb1077 w5 BK1077 GE1077 HB hg hb; have GW1077 := GE1077; clear hb hg) | ((with_reducible refine gate_callee (f := 56) rfl ?_); refine goesL_ (some 11) rfl rfl Try.func56 (by kernel_rfl) rfl #[.slice A0 l0.length c0] rfl Z.ar ?_; (with_reducible refine (spec_l20Open.calls _ _ l0 t1078 t1079 w _ ?q1 ?q2 ?q3 A2.out).mono ?_); (case q1 => repeat (first | (with_reducible first | exact HB.out | apply below_alloc | apply pw_below_drewN | apply below_drew1 | refine below_set ?_ GE1077.out) | exact HB.out)); (case q2 => exact HR0.out); (case q3 => exact HC0.out); rintro e w6 ⟨g1080, rfl, hi, hb, hb2⟩; refine ⟨_, rfl, ?_⟩; replace HB := Z.k (hb); have HI1080 := Z.k (hi); have NB1080_1077 := Z.k (IsS92.ne_blk hi (blk_below (g := gb1077) (o := .cells #[.int .i64 0, .slice none 0 0, .slice none 0 0] 28 (0, 0)) (Z.bk BK1077.out) hb2) (by decide)); have NB1077_1080 := Z.k (Ne.symm (IsS92.ne_blk hi (blk_below (g := gb1077) (o := .cells #[.int .i64 0, .slice none 0 0, .slice none 0 0] 28 (0, 0)) (Z.bk BK1077.out) hb2) (by decide))); replace BK1077 := Z.k (blk_below (g := gb1077) (o := .cells #[.int .i64 0, .slice none 0 0, .slice none 0 0] 28 (0, 0)) (Z.bk BK1077.out) hb2); (try clear hb); (try clear hb2); (try clear hk); (try clear hi)) | ((with_reducible refine gate_callee (f := 66) rfl ?_); refine goesL_ (some 14) rfl rfl Try.func66 (by kernel_rfl) rfl #[.pointer (some ⟨g1080, 0, none⟩)] rfl Z.ar ?_; (with_reducible refine (spec_l20Bad.calls k g1080 t1078 t1079 t1081 t1082 t1085 t1088 t1091 t1094 w _ ?q1 ?q2 A3.out).mono ?_); (case q1 => repeat (first | (with_reducible first | exact HI1080.out | apply IsS92.alloc | apply IsS92.drewN | apply IsS92.drew | apply IsS92.set_1 | refine IsS92.far ?_ NB1080_1077.out _) | exact HI1080.out)); (case q2 => repeat (first | (with_reducible first | exact HB.out | apply below_alloc | apply pw_below_drewN | apply below_drew1 | refine below_set ?_ (IsS92.ge HI1080.out) | refine below_set ?_ GE1077.out) | exact HB.out)); rintro e w7 ⟨v1083, v1086, v1089, v1092, rfl, ho0, ho1, ho2, ho3, hi, hb, hk⟩; refine ⟨_, rfl, ?_⟩; replace BK1077 := Z.k (KeepBut.blk hk (g' := gb1077) (o := .cells #[.int .i64 0, .slice none 0 0, .slice none 0 0] 28 (0, 0)) (Z.bk BK1077.out) NB1077_1080.out (by simp)); have HO1084 := Z.k (Kd.R_lower ho0 (below_size (by repeat (first | (with_reducible first | exact HB.out | apply below_alloc | apply pw_below_drewN | apply below_drew1 | refine below_set ?_ (IsS92.ge HI1080.out) | refine below_set ?_ GE1077.out) | exact HB.out)))); have HO1087 := Z.k (Kd.R_lower ho1 (below_size (by repeat (first | (with_reducible first | exact HB.out | apply below_alloc | apply pw_below_drewN | apply below_drew1 | refine below_set ?_ (IsS92.ge HI1080.out) | refine below_set ?_ GE1077.out) | exact HB.out)))); have HO1090 := Z.k (Kd.R_lower ho2 (below_size (by repeat (first | (with_reducible first | exact HB.out | apply below_alloc | apply pw_below_drewN | apply below_drew1 | refine below_set ?_ (IsS92.ge HI1080.out) | refine below_set ?_ GE1077.out) | exact HB.out)))); have HO1093 := Z.k (Kd.R_lower ho3 (below_size (by repeat (first | (with_reducible first | exact HB.out | apply below_alloc | apply pw_below_drewN | apply below_drew1 | refine below_set ?_ (IsS92.ge HI1080.out) | refine below_set ?_ GE1077.out) | exact HB.out)))); replace HB := Z.k (hb); replace HI1080 := Z.k (hi); (try clear hb); (try clear hb2); (try clear hk); (try clear hi); (try clear ho0); (try clear ho1); (try clear ho2); (try clear ho3)) | ((with_reducible refine gate_dst (N := 7) rfl ?_); refine box_event ?hg (N := 7) ?hd (cs := #[.int .i64 0, .slice none 0 0, .slice none 0 0]) (t := 28) ?hr ?_; (case hd | hg => rfl); (case hr => first | (go_simp; done) | (go_simp; rfl)); intro gb1095 hg w8 hbox hb; replace HO1084 := Z.k (Kd.R_below (by (with_reducible repeat (first | apply Kd.R_alloc | apply Kd.R_drewN | apply Kd.R_drew)); exact HO1084.out) hb); replace HO1087 := Z.k (Kd.R_below (by (with_reducible repeat (first | apply Kd.R_alloc | apply Kd.R_drewN | apply Kd.R_drew)); exact HO1087.out) hb); replace HO1090 := Z.k (Kd.R_below (by (with_reducible repeat (first | apply Kd.R_alloc | apply Kd.R_drewN | apply Kd.R_drew)); exact HO1090.out) hb); replace HO1093 := Z.k (Kd.R_below (by (with_reducible repeat (first | apply Kd.R_alloc | apply Kd.R_drewN | apply Kd.R_drew)); exact HO1093.out) hb); have BK1095 := Z.k (hbox); have GW1095 := Z.k ((by rw [hg]; exact (below_size (by repeat (first | (with_reducible first | exact HB.out | apply below_alloc | apply pw_below_drewN | apply below_drew1 | refine below_set ?_ (IsS92.ge HI1080.out) | refine below_set ?_ GE1077.out) | exact HB.out))) : w.heap.size ≤ gb1095)); have GE1095 := Z.k ((by rw [hg]; exact (below_size (by repeat (first | (with_reducible first | exact HB.out | apply below_alloc | apply pw_below_drewN | apply below_drew1 | refine below_set ?_ (IsS92.ge HI1080.out) | refine below_set ?_ GE1077.out) | exact HB.out))) : w.heap.size ≤ gb1095)); replace HB := Z.k (below_step (by repeat (first | (with_reducible first | exact HB.out | apply below_alloc | apply pw_below_drewN | apply below_drew1 | refine below_set ?_ (IsS92.ge HI1080.out) | refine below_set ?_ GE1077.out) | exact HB.out)) hb); have NB1077_1095 := Z.nl hg BK1077; have NB1095_1077 := Z.ng hg BK1077; replace BK1077 := Z.bb BK1077 hb; have NB1080_1095 := Z.k ((by rw [hg]; exact Nat.ne_of_lt (IsS92.lt (show IsS92 w _ g1080 t1078 t1094 from by repeat (first | (with_reducible first | exact HI1080.out | apply IsS92.alloc | apply IsS92.drewN | apply IsS92.drew | apply IsS92.set_1 | refine IsS92.far ?_ NB1080_1077.out _) | exact HI1080.out))) : g1080 ≠ gb1095)); have NB1095_1080 := Z.k ((by rw [hg]; exact Nat.ne_of_gt (IsS92.lt (show IsS92 w _ g1080 t1078 t1094 from by repeat (first | (with_reducible first | exact HI1080.out | apply IsS92.alloc | apply IsS92.drewN | apply IsS92.drew | apply IsS92.set_1 | refine IsS92.far ?_ NB1080_1077.out _) | exact HI1080.out))) : gb1095 ≠ g1080)); replace HI1080 := Z.k (IsS92.below (by repeat (first | (with_reducible first | exact HI1080.out | apply IsS92.alloc | apply IsS92.drewN | apply IsS92.drew | apply IsS92.set_1 | refine IsS92.far ?_ NB1080_1077.out _) | exact HI1080.out)) hb); clear hb hbox hg; have hnb9 := NB1095_1077.out; have hnc9 := NB1077_1095.out; have hnb10 := NB1095_1080.out; have hnc10 := NB1080_1095.out; have hcz11 := Z.c3 BK1095.out; obtain ⟨Ao12, co12, eo12⟩ := Kd.R_slice HO1084.out; subst eo12; obtain ⟨Ao13, co13, eo13⟩ := Kd.R_slice HO1087.out; subst eo13))
 have n0_ : Aside0 (Kd.R (Kd.int .i64) 3 (((w8.setCell ⟨gb1095, 0, none⟩ (.int .i64 t1081)).setCell ⟨gb1095, 1, none⟩ (.slice Ao12 t1082.length co12)).setCell ⟨gb1095, 2, none⟩ (.slice Ao13 t1085.length co13)) w.heap.size (fun k_ => some k_ ≠ (v1089 : Value).ownBlock ∧ some k_ ≠ (v1092 : Value).ownBlock) (.slice Ao12 t1082.length co12) t1082) := ⟨by (with_reducible repeat (first | apply Kd.R_alloc | apply Kd.R_drewN | apply Kd.R_drew)); exact Kd.R_mono (Kd.R_far (p := ⟨gb1095, 2, none⟩) (Kd.R_far (p := ⟨gb1095, 1, none⟩) (Kd.R_far (p := ⟨gb1095, 0, none⟩) (Kd.R_types HO1084.out BK1095.out (by decide)) (fun _ hk => hk.2) (.int .i64 t1081)) (fun _ hk => hk.2) (.slice Ao12 t1082.length co12)) (fun _ hk => hk.2) (.slice Ao13 t1085.length co13)) (fun _ hk => ⟨hk.1.1, hk.1.2⟩)⟩
 have n1_ : Aside0 (Kd.R (Kd.slice 37 k37) 34 (((w8.setCell ⟨gb1095, 0, none⟩ (.int .i64 t1081)).setCell ⟨gb1095, 1, none⟩ (.slice Ao12 t1082.length co12)).setCell ⟨gb1095, 2, none⟩ (.slice Ao13 t1085.length co13)) w.heap.size (fun _ => True) (.slice Ao13 t1085.length co13) t1085) := ⟨by (with_reducible repeat (first | apply Kd.R_alloc | apply Kd.R_drewN | apply Kd.R_drew)); exact Kd.R_mono (Kd.R_far (p := ⟨gb1095, 2, none⟩) (Kd.R_far (p := ⟨gb1095, 1, none⟩) (Kd.R_far (p := ⟨gb1095, 0, none⟩) (Kd.R_types HO1087.out BK1095.out (by decide)) (fun _ hk => hk.2) (.int .i64 t1081)) (fun _ hk => hk.2) (.slice Ao12 t1082.length co12)) (fun _ hk => hk.2) (.slice Ao13 t1085.length co13)) (fun _ hk => trivial)⟩
 have n2_ : Aside0 (Kd.R (Kd.int .i64) 3 (((w8.setCell ⟨gb1095, 0, none⟩ (.int .i64 t1081)).setCell ⟨gb1095, 1, none⟩ (.slice Ao12 t1082.length co12)).setCell ⟨gb1095, 2, none⟩ (.slice Ao13 t1085.length co13)) w.heap.size (fun k_ => some k_ ≠ (.slice Ao12 t1082.length co12 : Value).ownBlock ∧ some k_ ≠ (v1092 : Value).ownBlock) v1089 t1088) := ⟨by (with_reducible repeat (first | apply Kd.R_alloc | apply Kd.R_drewN | apply Kd.R_drew)); exact Kd.R_mono (Kd.R_far (p := ⟨gb1095, 2, none⟩) (Kd.R_far (p := ⟨gb1095, 1, none⟩) (Kd.R_far (p := ⟨gb1095, 0, none⟩) (Kd.R_types HO1090.out BK1095.out (by decide)) (fun _ hk => hk.2) (.int .i64 t1081)) (fun _ hk => hk.2) (.slice Ao12 t1082.length co12)) (fun _ hk => hk.2) (.slice Ao13 t1085.length co13)) (fun _ hk => ⟨hk.1.1, hk.1.2⟩)⟩
 have n3_ : Aside0 (Kd.R (Kd.int .i64) 3 (((w8.setCell ⟨gb1095, 0, none⟩ (.int .i64 t1081)).setCell ⟨gb1095, 1, none⟩ (.slice Ao12 t1082.length co12)).setCell ⟨gb1095, 2, none⟩ (.slice Ao13 t1085.length co13)) w.heap.size (fun k_ => some k_ ≠ (.slice Ao12 t1082.length co12 : Value).ownBlock ∧ some k_ ≠ (v1089 : Value).ownBlock) v1092 t1091) := ⟨by (with_reducible repeat (first | apply Kd.R_alloc | apply Kd.R_drewN | apply Kd.R_drew)); exact Kd.R_mono (Kd.R_far (p := ⟨gb1095, 2, none⟩) (Kd.R_far (p := ⟨gb1095, 1, none⟩) (Kd.R_far (p := ⟨gb1095, 0, none⟩) (Kd.R_types HO1093.out BK1095.out (by decide)) (fun _ hk => hk.2) (.int .i64 t1081)) (fun _ hk => hk.2) (.slice Ao12 t1082.length co12)) (fun _ hk => hk.2) (.slice Ao13 t1085.length co13)) (fun _ hk => ⟨hk.1.1, hk.1.2⟩)⟩
 have n4_ : Aside0 ((((w8.setCell ⟨gb1095, 0, none⟩ (.int .i64 t1081)).setCell ⟨gb1095, 1, none⟩ (.slice Ao12 t1082.length co12)).setCell ⟨gb1095, 2, none⟩ (.slice Ao13 t1085.length co13)).heap[gb1077]? = some (.cells #[.int .i64 0, .slice none 0 0, .slice none 0 0] 28 (0, 0))) := ⟨by (with_reducible repeat (first | refine blk_drewN ?_ _ | refine blk_drew ?_ | refine blk_alloc ?_ _)); refine blk_far ?_ NB1077_1095.out _; (with_reducible repeat (first | refine blk_drewN ?_ _ | refine blk_drew ?_ | refine blk_alloc ?_ _)); refine blk_far ?_ NB1077_1095.out _; (with_reducible repeat (first | refine blk_drewN ?_ _ | refine blk_drew ?_ | refine blk_alloc ?_ _)); refine blk_far ?_ NB1077_1095.out _; (with_reducible repeat (first | refine blk_drewN ?_ _ | refine blk_drew ?_ | refine blk_alloc ?_ _)); exact BK1077.out⟩
 have n5_ : Aside0 ((((w8.setCell ⟨gb1095, 0, none⟩ (.int .i64 t1081)).setCell ⟨gb1095, 1, none⟩ (.slice Ao12 t1082.length co12)).setCell ⟨gb1095, 2, none⟩ (.slice Ao13 t1085.length co13)).heap[gb1095]? = some (.cells #[.int .i64 t1081, .slice Ao12 t1082.length co12, .slice Ao13 t1085.length co13] 28 (0, 0))) := ⟨by (with_reducible repeat (first | refine blk_drewN ?_ _ | refine blk_drew ?_ | refine blk_alloc ?_ _)); refine blk_put (cs := #[.int .i64 t1081, .slice Ao12 t1082.length co12, .slice none 0 0]) ?_ 2 _ rfl; (with_reducible repeat (first | refine blk_drewN ?_ _ | refine blk_drew ?_ | refine blk_alloc ?_ _)); refine blk_put (cs := #[.int .i64 t1081, .slice none 0 0, .slice none 0 0]) ?_ 1 _ rfl; (with_reducible repeat (first | refine blk_drewN ?_ _ | refine blk_drew ?_ | refine blk_alloc ?_ _)); refine blk_put (cs := #[.int .i64 0, .slice none 0 0, .slice none 0 0]) ?_ 0 _ rfl; (with_reducible repeat (first | refine blk_drewN ?_ _ | refine blk_drew ?_ | refine blk_alloc ?_ _)); exact BK1095.out⟩
 have n6_ : Aside0 (IsS92 w (((w8.setCell ⟨gb1095, 0, none⟩ (.int .i64 t1081)).setCell ⟨gb1095, 1, none⟩ (.slice Ao12 t1082.length co12)).setCell ⟨gb1095, 2, none⟩ (.slice Ao13 t1085.length co13)) g1080 t1078 t1094) := ⟨by repeat (first | (with_reducible first | exact HI1080.out | apply IsS92.alloc | apply IsS92.drewN | apply IsS92.drew | apply IsS92.set_1 | refine IsS92.far ?_ NB1080_1077.out _ | refine IsS92.far ?_ NB1080_1095.out _) | exact HI1080.out)⟩
 have n7_ : Aside0 (Below w.heap.size w (((w8.setCell ⟨gb1095, 0, none⟩ (.int .i64 t1081)).setCell ⟨gb1095, 1, none⟩ (.slice Ao12 t1082.length co12)).setCell ⟨gb1095, 2, none⟩ (.slice Ao13 t1085.length co13))) := ⟨by repeat (first | (with_reducible first | exact HB.out | apply below_alloc | apply pw_below_drewN | apply below_drew1 | refine below_set ?_ (IsS92.ge HI1080.out) | refine below_set ?_ GE1077.out | refine below_set ?_ GE1095.out) | exact HB.out)⟩
 (try clear HO1084)
 (try clear HO1087)
 (try clear HO1090)
 (try clear HO1093)
 (try clear BK1077)
 (try clear BK1095)
 (try clear HI1080)
 (try clear HB)
 generalize (((w8.setCell ⟨gb1095, 0, none⟩ (.int .i64 t1081)).setCell ⟨gb1095, 1, none⟩ (.slice Ao12 t1082.length co12)).setCell ⟨gb1095, 2, none⟩ (.slice Ao13 t1085.length co13)) = w14 at n0_ n1_ n2_ n3_ n4_ n5_ n6_ n7_ ⊢
 have HO1084 := n0_
 have HO1087 := n1_
 have HO1090 := n2_
 have HO1093 := n3_
 have BK1077 := n4_
 have BK1095 := n5_
 have HI1080 := n6_
 have HB := n7_
 clear n0_ n1_ n2_ n3_ n4_ n5_ n6_ n7_
 replace HO1084 := Z.k (Kd.R_drew HO1084.out)
 replace HO1087 := Z.k (Kd.R_drew HO1087.out)
 replace HO1090 := Z.k (Kd.R_drew HO1090.out)
 replace HO1093 := Z.k (Kd.R_drew HO1093.out)
 replace BK1077 := Z.k (blk_drew BK1077.out)
 replace BK1095 := Z.k (blk_drew BK1095.out)
 replace HI1080 := Z.k (IsS92.drew HI1080.out)
 replace HB := Z.k (below_drew1 HB.out)
 refine start_ (n := 11) (S := fun w' => w'.cell? ⟨gb1095, 0, none⟩ = some (.int .i64 t1081) ∧ w'.cell? ⟨gb1095, 1, none⟩ = some (.slice Ao12 t1082.length co12) ∧ w'.cell? ⟨gb1095, 2, none⟩ = some (.slice Ao13 t1085.length co13)) (ds := []) #[false, false, false, false, false, false, false, false, false, false, false] (by kernel_rfl) rfl rfl ⟨(blk_cell BK1095.out 0).trans rfl, (blk_cell BK1095.out 1).trans rfl, (blk_cell BK1095.out 2).trans rfl⟩ (fun hHeld => ?_); refine with_tabW spec_DrawSafeFor.tab3 spec_DrawSafeFor.bits3 (fun HT_ HW_ => ?_)
 generalize w14.drew = w15 at HO1084 HO1087 HO1090 HO1093 BK1077 BK1095 HI1080 HB hHeld ⊢
 refine Z.pv 1 19 11 2 HT_.out ?_
 refine Z.pv 2 20 11 6 HT_.out ?_
 refine Z.pv 3 21 11 14 HT_.out ?_
 refine Z.pv 4 22 11 30 HT_.out ?_
 refine Z.t3 0 18 11 31 HT_.out HW_.out hHeld ?_
 refine Z.t3 5 23 11 63 HT_.out HW_.out hHeld ?_
 refine one_ (i := 6) (N := some 24) (Z.mb 11 127) rfl rfl (one_of HT_.out (by kernel_rfl)) (by decide) (fun K hK => ?_)
 refine goes_ Try.func58 (by kernel_rfl) rfl #[.pointer (some ⟨g1080, 0, none⟩), .agg #[.int .i64 t1081, .slice Ao12 t1082.length co12]] (by rfl) rfl rfl Z.ar ?_
 with_reducible refine (spec_l20Crowd.calls k g1080 t1078 t1094 t1081 _ _ t1082 t1096 t1097 w _ ?q1 ?q2 ?q3 ?q4 ?q5 A4.out).mono ?_
 (case q1 => repeat (first | (with_reducible first | exact HI1080.out | apply IsS92.alloc | apply IsS92.drewN | apply IsS92.drew | apply IsS92.set_1 | refine IsS92.far ?_ NB1080_1077.out _ | refine IsS92.far ?_ NB1080_1095.out _) | exact HI1080.out))
 (case q2 => repeat (first | (with_reducible first | exact HB.out | apply below_alloc | apply pw_below_drewN | apply below_drew1 | refine below_set ?_ (IsS92.ge HI1080.out) | refine below_set ?_ GE1077.out | refine below_set ?_ GE1095.out) | exact HB.out))
 (case q3 => repeat (first | exact (Kd.R_reads' HO1084.out).2.2 | (with_reducible refine Kd.C_alloc ?_ _) | (with_reducible refine Kd.C_drewN ?_ _) | (with_reducible refine Kd.C_drew ?_)))
 (case q4 => exact (Kd.R_reads' HO1084.out).2.1)
 (case q5 => exact far_slice (IsS92.own_ne HI1080.out HO1084.out (by decide)))
 rintro e w16 ⟨rfl, hi, hb, hk⟩
 refine ⟨_, rfl, ?_⟩
 replace BK1077 := Z.k (KeepBut.blk hk (g' := gb1077) (o := .cells #[.int .i64 0, .slice none 0 0, .slice none 0 0] 28 (0, 0)) (Z.bk BK1077.out) NB1077_1080.out (by simp))
 replace HO1084 := Z.k (Kd.R_mono (Kd.R_keep (IsS92.apart (show IsS92 w _ g1080 t1078 t1094 from by repeat (first | (with_reducible first | exact HI1080.out | apply IsS92.alloc | apply IsS92.drewN | apply IsS92.drew | apply IsS92.set_1 | refine IsS92.far ?_ NB1080_1077.out _ | refine IsS92.far ?_ NB1080_1095.out _) | exact HI1080.out)) (by (with_reducible repeat (first | apply Kd.R_alloc | apply Kd.R_drewN | apply Kd.R_drew)); exact HO1084.out) (by decide)) hk (fun _ h => h.2)) (fun _ h => h.1))
 replace HO1087 := Z.k (Kd.R_mono (Kd.R_keep (IsS92.apart (show IsS92 w _ g1080 t1078 t1094 from by repeat (first | (with_reducible first | exact HI1080.out | apply IsS92.alloc | apply IsS92.drewN | apply IsS92.drew | apply IsS92.set_1 | refine IsS92.far ?_ NB1080_1077.out _ | refine IsS92.far ?_ NB1080_1095.out _) | exact HI1080.out)) (by (with_reducible repeat (first | apply Kd.R_alloc | apply Kd.R_drewN | apply Kd.R_drew)); exact HO1087.out) (by decide)) hk (fun _ h => h.2)) (fun _ h => h.1))
 replace HO1090 := Z.k (Kd.R_mono (Kd.R_keep (IsS92.apart (show IsS92 w _ g1080 t1078 t1094 from by repeat (first | (with_reducible first | exact HI1080.out | apply IsS92.alloc | apply IsS92.drewN | apply IsS92.drew | apply IsS92.set_1 | refine IsS92.far ?_ NB1080_1077.out _ | refine IsS92.far ?_ NB1080_1095.out _) | exact HI1080.out)) (by (with_reducible repeat (first | apply Kd.R_alloc | apply Kd.R_drewN | apply Kd.R_drew)); exact HO1090.out) (by decide)) hk (fun _ h => h.2)) (fun _ h => h.1))
 replace HO1093 := Z.k (Kd.R_mono (Kd.R_keep (IsS92.apart (show IsS92 w _ g1080 t1078 t1094 from by repeat (first | (with_reducible first | exact HI1080.out | apply IsS92.alloc | apply IsS92.drewN | apply IsS92.drew | apply IsS92.set_1 | refine IsS92.far ?_ NB1080_1077.out _ | refine IsS92.far ?_ NB1080_1095.out _) | exact HI1080.out)) (by (with_reducible repeat (first | apply Kd.R_alloc | apply Kd.R_drewN | apply Kd.R_drew)); exact HO1093.out) (by decide)) hk (fun _ h => h.2)) (fun _ h => h.1))
 replace BK1095 := Z.k (KeepBut.blk hk (g' := gb1095) (o := .cells #[.int .i64 t1081, .slice Ao12 t1082.length co12, .slice Ao13 t1085.length co13] 28 (0, 0)) (Z.bk BK1095.out) NB1095_1080.out (by simp))
 replace HB := Z.k (hb)
 replace HI1080 := Z.k (hi)
 (try clear hb)
 (try clear hb2)
 (try clear hk)
 (try clear hi)
 refine hK.out _ _ ⟨(blk_cell BK1095.out 0).trans rfl, (blk_cell BK1095.out 1).trans rfl, (blk_cell BK1095.out 2).trans rfl⟩ (fun hHeld => ?_)
 clear hK K
 refine Z.nm ?_
 refine one_ (i := 7) (N := none) #[true, true, true, true, true, true, true, true, false, false, false] rfl rfl (one_of HT_.out (by kernel_rfl)) (by decide) (fun K hK => ?_)
 have hs17 : w16.cell? ⟨gb1077, 0, none⟩ = some (.int .i64 0) := (blk_cell BK1077.out 0).trans rfl
 have hfs17 := blk_frozen BK1077.out 0
 have hns17_1 := NB1095_1077.out
 have hms17_1 := NB1077_1095.out
 have hs18 : w16.cell? ⟨gb1077, 1, none⟩ = some (.slice none 0 0) := (blk_cell BK1077.out 1).trans rfl
 have hfs18 := blk_frozen BK1077.out 1
 have hns18_1 := NB1095_1077.out
 have hms18_1 := NB1077_1095.out
 have hs19 : w16.cell? ⟨gb1077, 2, none⟩ = some (.slice none 0 0) := (blk_cell BK1077.out 2).trans rfl
 have hfs19 := blk_frozen BK1077.out 2
 have hns19_1 := NB1095_1077.out
 have hms19_1 := NB1077_1095.out
 refine skip_ (w1 := ?_) (by rfl) rfl ?_ ?_
 rotate_left
 ·go_simp
  rfl
 refine hK.out _ _ ⟨(Z.f3 NB1095_1077.out (hHeld.1)), (Z.f3 NB1095_1077.out (hHeld.2.1)), (Z.f3 NB1095_1077.out (hHeld.2.2))⟩ (fun hHeld => ?_)
 clear hK K
 refine Z.pv 8 3 11 511 HT_.out ?_
 refine Z.pv 9 4 11 1023 HT_.out ?_
 refine Z.pv 10 5 11 2047 HT_.out ?_
 refine done_ (done_of HT_.out (by kernel_rfl)) ?_
 try go_wp2
 refine bodyPost_ret (results_list (rs := [.cell 2 28, .tmp 3, .tmp 4, .tmp 5]) rfl (by simp) (.cell gb1077 28 #[.int .i64 t1081, .slice Ao12 t1082.length co12, .slice Ao13 t1085.length co13] (0, 0) _ rfl (by (with_reducible repeat (first | refine blk_drewN ?_ _ | refine blk_drew ?_ | refine blk_alloc ?_ _)); refine blk_put (cs := #[.int .i64 t1081, .slice Ao12 t1082.length co12, .slice none 0 0]) ?_ 2 _ rfl; (with_reducible repeat (first | refine blk_drewN ?_ _ | refine blk_drew ?_ | refine blk_alloc ?_ _)); refine blk_put (cs := #[.int .i64 t1081, .slice none 0 0, .slice none 0 0]) ?_ 1 _ rfl; (with_reducible repeat (first | refine blk_drewN ?_ _ | refine blk_drew ?_ | refine blk_alloc ?_ _)); refine blk_put (cs := #[.int .i64 0, .slice none 0 0, .slice none 0 0]) ?_ 0 _ rfl; (with_reducible repeat (first | refine blk_drewN ?_ _ | refine blk_drew ?_ | refine blk_alloc ?_ _)); exact BK1077.out) Try.underlying28 rfl (by kernel_rfl) (.tmp (.tmp (.tmp .nil))))) rfl ?_
 exact ⟨_, _, _, _, by first | rfl | (simp [errW_none, errW_some] <;> rfl) | (simp [*, errW_none, errW_some] <;> rfl), by (with_reducible repeat (first | apply Kd.R_alloc | apply Kd.R_drewN | apply Kd.R_drew)); exact Kd.R_mono (Kd.R_far (p := ⟨gb1077, 2, none⟩) (Kd.R_far (p := ⟨gb1077, 1, none⟩) (Kd.R_far (p := ⟨gb1077, 0, none⟩) (Kd.R_types HO1084.out BK1077.out (by decide)) (fun _ hk => hk.2) (.int .i64 t1081)) (fun _ hk => hk.2) (.slice Ao12 t1082.length co12)) (fun _ hk => hk.2) (.slice Ao13 t1085.length co13)) (fun _ hk => ⟨hk.1.1, hk.1.2⟩), by (with_reducible repeat (first | apply Kd.R_alloc | apply Kd.R_drewN | apply Kd.R_drew)); exact Kd.R_mono (Kd.R_far (p := ⟨gb1077, 2, none⟩) (Kd.R_far (p := ⟨gb1077, 1, none⟩) (Kd.R_far (p := ⟨gb1077, 0, none⟩) (Kd.R_types HO1087.out BK1077.out (by decide)) (fun _ hk => hk.2) (.int .i64 t1081)) (fun _ hk => hk.2) (.slice Ao12 t1082.length co12)) (fun _ hk => hk.2) (.slice Ao13 t1085.length co13)) (fun _ hk => trivial), by (with_reducible repeat (first | apply Kd.R_alloc | apply Kd.R_drewN | apply Kd.R_drew)); exact Kd.R_mono (Kd.R_far (p := ⟨gb1077, 2, none⟩) (Kd.R_far (p := ⟨gb1077, 1, none⟩) (Kd.R_far (p := ⟨gb1077, 0, none⟩) (Kd.R_types HO1090.out BK1077.out (by decide)) (fun _ hk => hk.2) (.int .i64 t1081)) (fun _ hk => hk.2) (.slice Ao12 t1082.length co12)) (fun _ hk => hk.2) (.slice Ao13 t1085.length co13)) (fun _ hk => ⟨hk.1.1, hk.1.2⟩), by (with_reducible repeat (first | apply Kd.R_alloc | apply Kd.R_drewN | apply Kd.R_drew)); exact Kd.R_mono (Kd.R_far (p := ⟨gb1077, 2, none⟩) (Kd.R_far (p := ⟨gb1077, 1, none⟩) (Kd.R_far (p := ⟨gb1077, 0, none⟩) (Kd.R_types HO1093.out BK1077.out (by decide)) (fun _ hk => hk.2) (.int .i64 t1081)) (fun _ hk => hk.2) (.slice Ao12 t1082.length co12)) (fun _ hk => hk.2) (.slice Ao13 t1085.length co13)) (fun _ hk => ⟨hk.1.1, hk.1.2⟩), by repeat (first | (with_reducible first | exact HB.out | apply below_alloc | apply pw_below_drewN | apply below_drew1 | refine below_set ?_ (IsS92.ge HI1080.out) | refine below_set ?_ GE1077.out | refine below_set ?_ GE1095.out) | exact HB.out)⟩

/-! ### spec_DrawFixedOf: function 44 -/
def spec_DrawFixedOf.f (k : Nat) (l0 : List Int) : Option (Int × List Int × (List (List (S37))) × List Int) := (spec_l20Open.f l0).bind fun bt1148 => ((spec_l20State.f k bt1148.1 bt1148.2 9).bind fun bt1151 => (some (bt1151.1, bt1151.2.1, bt1151.2.2.1, bt1151.2.2.2.1)))
/-! ### spec_DrawAmendersOf: function 47 -/
def spec_DrawAmendersOf.f (k : Nat) (l0 : List Int) : Option (Int × List Int × (List (List (S37))) × List Int × List Int) := (spec_DrawChangesTo.f k l0).bind fun bt1239 => (some (bt1239.1, bt1239.2.1, bt1239.2.2.1, bt1239.2.2.2.1, bt1239.2.2.2.2.1))
end Go.Proofs.Ytkogboechfieeaa.PAll

/- Walks of functions that laws of this seat reach, in the form of the print. -/
import Derived.Test.YtkogboechfieeaaCAll0
import Derived.Test.YtkogboechfieeaaCAll1
import Derived.Test.YtkogboechfieeaaCAll37
import Derived.Test.YtkogboechfieeaaCAll40
import Derived.Test.YtkogboechfieeaaCAll41
import Derived.Test.YtkogboechfieeaaCAll42
import Derived.Test.YtkogboechfieeaaZ
-- PRINTED
namespace Go.Proofs.Ytkogboechfieeaa.PAll
open Go.RowKit Go.Proofs.YtkogboechfieeaaW.PrintWords Go.Proofs.YtkogboechfieeaaW.PrintLast Go.Proofs.YtkogboechfieeaaW.PrintMore
attribute [local go_sem] max2_int min2_int max_two min_two max_three min_three max_four min_four
set_option linter.unusedVariables false
set_option linter.unusedSimpArgs false

/-! ### spec_DrawBreakersOf: function 20 -/
def spec_DrawBreakersOf.f (k : Nat) (l0 : List Int) : Option (Int × List Int × (List (List (S37))) × List Int × List Int) := (spec_l20Open.f l0).bind fun bt546 => ((spec_l20Bad.f k bt546.1 bt546.2).bind fun bt549 => (some (bt549.1, bt549.2.1, bt549.2.2.1, bt549.2.2.2.1, bt549.2.2.2.2.1)))
-- NOT PRINTED: function 113 (slices_IndexFunc_int_int)

-- NOT PRINTED: function 97 (slices_ContainsFunc_int_int)

/-! ### spec_DrawMayChange: function 25 -/
def spec_DrawMayChange.f (k : Nat) (l0 : List Int) : Option (Int × List Int × (List (List (S37))) × List Int × Int × Int × Int) := (spec_l20Open.f l0).bind fun bt626 => ((spec_l20State.f k bt626.1 bt626.2 14).bind fun bt629 => ((spec_l20Rd_pick.f k bt626.1 bt629.2.2.2.2 3).bind fun bt641 => ((spec_l20Rd_pick.f k bt626.1 bt641.2 40).bind fun bt643 => ((spec_l20Rd_pick.f k bt626.1 bt643.2 3).bind fun bt645 => ((spec_l20Crowd.f k bt626.1 bt645.2 bt629.1 bt629.2.1).bind fun bt647 => (some (bt629.1, bt629.2.1, bt629.2.2.1, bt629.2.2.2.1, wrap64 (bt641.1 - (wrap64 (Int.tdiv bt643.1 39))), bt645.1, bt647.1)))))))
def spec_DrawMayChange.T3 : Bool × List (List Nat × List Nat) := (true, [([], []), ([], []), ([], []), ([2], [2]), ([], []), ([4, 3], [4]), ([5], [5]), ([3, 6], [3, 6]), ([], []), ([8, 5], [8]), ([], []), ([], []), ([11], [11]), ([10, 12, 9], [10, 12]), ([0, 13, 0], [0]), ([1, 14, 0, 1, 14], [1]), ([7, 15, 0, 1, 2, 3, 4, 5, 6, 7, 14, 15], [7]), ([9, 16, 0, 1, 2, 3, 4, 5, 6, 7, 8, 9, 14, 15, 16], [9]), ([13, 17, 0, 1, 2, 3, 4, 5, 6, 7, 8, 9, 10, 11, 12, 13, 14, 15, 16, 17], [13])])
def spec_DrawMayChange.B3 : List Nat := [0, 0, 0, 4, 0, 28, 60, 124, 0, 316, 0, 0, 2048, 7996, 16189, 32575, 65535, 131071, 262143]
theorem spec_DrawMayChange.tab3 : rtab .any (opsOf Try.f25 3) = spec_DrawMayChange.T3 := by kernel_rfl
theorem spec_DrawMayChange.bits3 : waitsOk spec_DrawMayChange.T3.2 spec_DrawMayChange.B3 = true := by kernel_rfl
set_option maxHeartbeats 8000000 in
set_option maxRecDepth 100000 in
theorem spec_DrawMayChange.calls (k : Nat) (A0 : Option Addr) (c0 : Nat) (l0 : List Int) (r1 : Int) (r2 : List Int) (r3 : List (List (S37))) (r4 : List Int) (r5 : Int) (r6 : Int) (r7 : Int) (w : World) (hr0 : Kd.C (Kd.int .u8) w A0 l0.length l0) (hc0 : l0.length ≤ c0) (h : spec_DrawMayChange.f k l0 = some (r1, r2, r3, r4, r5, r6, r7)) :
  Calls Try.prog 25 #[.slice A0 l0.length c0] w fun e w' => ∃ v1_ v2_ v3_ : Value, e = .returned (.tuple #[.agg #[.int .i64 r1, v1_, v2_], v3_, .int .i64 r5, .int .i64 r6, .int .i64 r7]) ∧ Kd.R (Kd.int .i64) 3 w' w.heap.size (fun k_ => some k_ ≠ (v3_ : Value).ownBlock) v1_ r2 ∧ Kd.R (Kd.slice 37 k37) 34 w' w.heap.size (fun _ => True) v2_ r3 ∧ Kd.R (Kd.int .i64) 3 w' w.heap.size (fun k_ => some k_ ≠ (v1_ : Value).ownBlock) v3_ r4 ∧ Below w.heap.size w w' := by
 have hu28 := Try.underlying28
 have hu25 := Try.underlying25
 have HR0 := Z.k hr0
 have HC0 := Z.k hc0
 clear hr0 hc0
 have HB := Z.k (Below.refl w.heap.size w)
 have H := h
 clear h
 unfold spec_DrawMayChange.f at H
 replace H := Option.bind_eq_some_iff.mp H
 obtain ⟨⟨t626, t627⟩, A20, H⟩ := H
 try dsimp only at H
 have A2 := Z.k A20
 clear A20
 replace H := Option.bind_eq_some_iff.mp H
 obtain ⟨⟨t629, t630, t633, t636, t639⟩, A30, H⟩ := H
 try dsimp only at H
 have A3 := Z.k A30
 clear A30
 replace H := Option.bind_eq_some_iff.mp H
 obtain ⟨⟨t641, t642⟩, A40, H⟩ := H
 try dsimp only at H
 have A4 := Z.k A40
 clear A40
 replace H := Option.bind_eq_some_iff.mp H
 obtain ⟨⟨t643, t644⟩, A50, H⟩ := H
 try dsimp only at H
 have A5 := Z.k A50
 clear A50
 replace H := Option.bind_eq_some_iff.mp H
 obtain ⟨⟨t645, t646⟩, A60, H⟩ := H
 try dsimp only at H
 have A6 := Z.k A60
 clear A60
 replace H := Option.bind_eq_some_iff.mp H
 obtain ⟨⟨t647, t648⟩, A70, H⟩ := H
 try dsimp only at H
 have A7 := Z.k A70
 clear A70
 simp only [Option.some.injEq, Prod.mk.injEq] at H
 obtain ⟨rfl, rfl, rfl, rfl, rfl, rfl, rfl⟩ := H
 go_enter Try.func25, Try.ntmps25
 try go_wp2_with (first | ((with_reducible refine gate_dst (N := 2) rfl ?_); refine Z.bx #[.int .i64 0, .slice none 0 0, .slice none 0 0] 28 HB ?_; clear HB; intro gb625 w8 BK625 GE625 HB hg hb; have GW625 := GE625; clear hb hg) | ((with_reducible refine gate_callee (f := 56) rfl ?_); refine goesL_ (some 11) rfl rfl Try.func56 (by kernel_rfl) rfl #[.slice A0 l0.length c0] rfl Z.ar ?_; (with_reducible refine (spec_l20Open.calls _ _ l0 t626 t627 w _ ?q1 ?q2 ?q3 A2.out).mono ?_); (case q1 => repeat (first | (with_reducible first | exact HB.out | apply below_alloc | apply pw_below_drewN | apply below_drew1 | refine below_set ?_ GE625.out) | exact HB.out)); (case q2 => exact HR0.out); (case q3 => exact HC0.out); rintro e w9 ⟨g628, rfl, hi, hb, hb2⟩; refine ⟨_, rfl, ?_⟩; replace HB := Z.k (hb); have HI628 := Z.k (hi); have NB628_625 := Z.k (IsS92.ne_blk hi (blk_below (g := gb625) (o := .cells #[.int .i64 0, .slice none 0 0, .slice none 0 0] 28 (0, 0)) (Z.bk BK625.out) hb2) (by decide)); have NB625_628 := Z.k (Ne.symm (IsS92.ne_blk hi (blk_below (g := gb625) (o := .cells #[.int .i64 0, .slice none 0 0, .slice none 0 0] 28 (0, 0)) (Z.bk BK625.out) hb2) (by decide))); replace BK625 := Z.k (blk_below (g := gb625) (o := .cells #[.int .i64 0, .slice none 0 0, .slice none 0 0] 28 (0, 0)) (Z.bk BK625.out) hb2); (try clear hb); (try clear hb2); (try clear hk); (try clear hi)) | ((with_reducible refine gate_callee (f := 57) rfl ?_); refine goesL_ (some 14) rfl rfl Try.func57 (by kernel_rfl) rfl #[.pointer (some ⟨g628, 0, none⟩), .int .i64 14] rfl Z.ar ?_; (with_reducible refine (spec_l20State.calls k g628 t626 t627 14 t629 t630 t633 t636 t639 w _ ?q1 ?q2 A3.out).mono ?_); (case q1 => repeat (first | (with_reducible first | exact HI628.out | apply IsS92.alloc | apply IsS92.drewN | apply IsS92.drew | apply IsS92.set_1 | refine IsS92.far ?_ NB628_625.out _) | exact HI628.out)); (case q2 => repeat (first | (with_reducible first | exact HB.out | apply below_alloc | apply pw_below_drewN | apply below_drew1 | refine below_set ?_ (IsS92.ge HI628.out) | refine below_set ?_ GE625.out) | exact HB.out)); rintro e w10 ⟨v631, v634, v637, rfl, ho0, ho1, ho2, hi, hb, hk⟩; refine ⟨_, rfl, ?_⟩; replace BK625 := Z.k (KeepBut.blk hk (g' := gb625) (o := .cells #[.int .i64 0, .slice none 0 0, .slice none 0 0] 28 (0, 0)) (Z.bk BK625.out) NB625_628.out (by simp)); have HO632 := Z.k (Kd.R_lower ho0 (below_size (by repeat (first | (with_reducible first | exact HB.out | apply below_alloc | apply pw_below_drewN | apply below_drew1 | refine below_set ?_ (IsS92.ge HI628.out) | refine below_set ?_ GE625.out) | exact HB.out)))); have HO635 := Z.k (Kd.R_lower ho1 (below_size (by repeat (first | (with_reducible first | exact HB.out | apply below_alloc | apply pw_below_drewN | apply below_drew1 | refine below_set ?_ (IsS92.ge HI628.out) | refine below_set ?_ GE625.out) | exact HB.out)))); have HO638 := Z.k (Kd.R_lower ho2 (below_size (by repeat (first | (with_reducible first | exact HB.out | apply below_alloc | apply pw_below_drewN | apply below_drew1 | refine below_set ?_ (IsS92.ge HI628.out) | refine below_set ?_ GE625.out) | exact HB.out)))); replace HB := Z.k (hb); replace HI628 := Z.k (hi); (try clear hb); (try clear hb2); (try clear hk); (try clear hi); (try clear ho0); (try clear ho1); (try clear ho2)) | ((with_reducible refine gate_dst (N := 8) rfl ?_); refine box_event ?hg (N := 8) ?hd (cs := #[.int .i64 0, .slice none 0 0, .slice none 0 0]) (t := 28) ?hr ?_; (case hd | hg => rfl); (case hr => first | (go_simp; done) | (go_simp; rfl)); intro gb640 hg w11 hbox hb; replace HO632 := Z.k (Kd.R_below (by (with_reducible repeat (first | apply Kd.R_alloc | apply Kd.R_drewN | apply Kd.R_drew)); exact HO632.out) hb); replace HO635 := Z.k (Kd.R_below (by (with_reducible repeat (first | apply Kd.R_alloc | apply Kd.R_drewN | apply Kd.R_drew)); exact HO635.out) hb); replace HO638 := Z.k (Kd.R_below (by (with_reducible repeat (first | apply Kd.R_alloc | apply Kd.R_drewN | apply Kd.R_drew)); exact HO638.out) hb); have BK640 := Z.k (hbox); have GW640 := Z.k ((by rw [hg]; exact (below_size (by repeat (first | (with_reducible first | exact HB.out | apply below_alloc | apply pw_below_drewN | apply below_drew1 | refine below_set ?_ (IsS92.ge HI628.out) | refine below_set ?_ GE625.out) | exact HB.out))) : w.heap.size ≤ gb640)); have GE640 := Z.k ((by rw [hg]; exact (below_size (by repeat (first | (with_reducible first | exact HB.out | apply below_alloc | apply pw_below_drewN | apply below_drew1 | refine below_set ?_ (IsS92.ge HI628.out) | refine below_set ?_ GE625.out) | exact HB.out))) : w.heap.size ≤ gb640)); replace HB := Z.k (below_step (by repeat (first | (with_reducible first | exact HB.out | apply below_alloc | apply pw_below_drewN | apply below_drew1 | refine below_set ?_ (IsS92.ge HI628.out) | refine below_set ?_ GE625.out) | exact HB.out)) hb); have NB625_640 := Z.nl hg BK625; have NB640_625 := Z.ng hg BK625; replace BK625 := Z.bb BK625 hb; have NB628_640 := Z.k ((by rw [hg]; exact Nat.ne_of_lt (IsS92.lt (show IsS92 w _ g628 t626 t639 from by repeat (first | (with_reducible first | exact HI628.out | apply IsS92.alloc | apply IsS92.drewN | apply IsS92.drew | apply IsS92.set_1 | refine IsS92.far ?_ NB628_625.out _) | exact HI628.out))) : g628 ≠ gb640)); have NB640_628 := Z.k ((by rw [hg]; exact Nat.ne_of_gt (IsS92.lt (show IsS92 w _ g628 t626 t639 from by repeat (first | (with_reducible first | exact HI628.out | apply IsS92.alloc | apply IsS92.drewN | apply IsS92.drew | apply IsS92.set_1 | refine IsS92.far ?_ NB628_625.out _) | exact HI628.out))) : gb640 ≠ g628)); replace HI628 := Z.k (IsS92.below (by repeat (first | (with_reducible first | exact HI628.out | apply IsS92.alloc | apply IsS92.drewN | apply IsS92.drew | apply IsS92.set_1 | refine IsS92.far ?_ NB628_625.out _) | exact HI628.out)) hb); clear hb hbox hg; have hnb12 := NB640_625.out; have hnc12 := NB625_640.out; have hnb13 := NB640_628.out; have hnc13 := NB628_640.out; have hcz14 := Z.c3 BK640.out; obtain ⟨Ao15, co15, eo15⟩ := Kd.R_slice HO632.out; subst eo15; obtain ⟨Ao16, co16, eo16⟩ := Kd.R_slice HO635.out; subst eo16))
 have n0_ : Aside0 (Kd.R (Kd.int .i64) 3 (((w11.setCell ⟨gb640, 0, none⟩ (.int .i64 t629)).setCell ⟨gb640, 1, none⟩ (.slice Ao15 t630.length co15)).setCell ⟨gb640, 2, none⟩ (.slice Ao16 t633.length co16)) w.heap.size (fun k_ => some k_ ≠ (v637 : Value).ownBlock) (.slice Ao15 t630.length co15) t630) := ⟨by (with_reducible repeat (first | apply Kd.R_alloc | apply Kd.R_drewN | apply Kd.R_drew)); exact Kd.R_mono (Kd.R_far (p := ⟨gb640, 2, none⟩) (Kd.R_far (p := ⟨gb640, 1, none⟩) (Kd.R_far (p := ⟨gb640, 0, none⟩) (Kd.R_types HO632.out BK640.out (by decide)) (fun _ hk => hk.2) (.int .i64 t629)) (fun _ hk => hk.2) (.slice Ao15 t630.length co15)) (fun _ hk => hk.2) (.slice Ao16 t633.length co16)) (fun _ hk => hk.1)⟩
 have n1_ : Aside0 (Kd.R (Kd.slice 37 k37) 34 (((w11.setCell ⟨gb640, 0, none⟩ (.int .i64 t629)).setCell ⟨gb640, 1, none⟩ (.slice Ao15 t630.length co15)).setCell ⟨gb640, 2, none⟩ (.slice Ao16 t633.length co16)) w.heap.size (fun _ => True) (.slice Ao16 t633.length co16) t633) := ⟨by (with_reducible repeat (first | apply Kd.R_alloc | apply Kd.R_drewN | apply Kd.R_drew)); exact Kd.R_mono (Kd.R_far (p := ⟨gb640, 2, none⟩) (Kd.R_far (p := ⟨gb640, 1, none⟩) (Kd.R_far (p := ⟨gb640, 0, none⟩) (Kd.R_types HO635.out BK640.out (by decide)) (fun _ hk => hk.2) (.int .i64 t629)) (fun _ hk => hk.2) (.slice Ao15 t630.length co15)) (fun _ hk => hk.2) (.slice Ao16 t633.length co16)) (fun _ hk => trivial)⟩
 have n2_ : Aside0 (Kd.R (Kd.int .i64) 3 (((w11.setCell ⟨gb640, 0, none⟩ (.int .i64 t629)).setCell ⟨gb640, 1, none⟩ (.slice Ao15 t630.length co15)).setCell ⟨gb640, 2, none⟩ (.slice Ao16 t633.length co16)) w.heap.size (fun k_ => some k_ ≠ (.slice Ao15 t630.length co15 : Value).ownBlock) v637 t636) := ⟨by (with_reducible repeat (first | apply Kd.R_alloc | apply Kd.R_drewN | apply Kd.R_drew)); exact Kd.R_mono (Kd.R_far (p := ⟨gb640, 2, none⟩) (Kd.R_far (p := ⟨gb640, 1, none⟩) (Kd.R_far (p := ⟨gb640, 0, none⟩) (Kd.R_types HO638.out BK640.out (by decide)) (fun _ hk => hk.2) (.int .i64 t629)) (fun _ hk => hk.2) (.slice Ao15 t630.length co15)) (fun _ hk => hk.2) (.slice Ao16 t633.length co16)) (fun _ hk => hk.1)⟩
 have n3_ : Aside0 ((((w11.setCell ⟨gb640, 0, none⟩ (.int .i64 t629)).setCell ⟨gb640, 1, none⟩ (.slice Ao15 t630.length co15)).setCell ⟨gb640, 2, none⟩ (.slice Ao16 t633.length co16)).heap[gb625]? = some (.cells #[.int .i64 0, .slice none 0 0, .slice none 0 0] 28 (0, 0))) := ⟨by (with_reducible repeat (first | refine blk_drewN ?_ _ | refine blk_drew ?_ | refine blk_alloc ?_ _)); refine blk_far ?_ NB625_640.out _; (with_reducible repeat (first | refine blk_drewN ?_ _ | refine blk_drew ?_ | refine blk_alloc ?_ _)); refine blk_far ?_ NB625_640.out _; (with_reducible repeat (first | refine blk_drewN ?_ _ | refine blk_drew ?_ | refine blk_alloc ?_ _)); refine blk_far ?_ NB625_640.out _; (with_reducible repeat (first | refine blk_drewN ?_ _ | refine blk_drew ?_ | refine blk_alloc ?_ _)); exact BK625.out⟩
 have n4_ : Aside0 ((((w11.setCell ⟨gb640, 0, none⟩ (.int .i64 t629)).setCell ⟨gb640, 1, none⟩ (.slice Ao15 t630.length co15)).setCell ⟨gb640, 2, none⟩ (.slice Ao16 t633.length co16)).heap[gb640]? = some (.cells #[.int .i64 t629, .slice Ao15 t630.length co15, .slice Ao16 t633.length co16] 28 (0, 0))) := ⟨by (with_reducible repeat (first | refine blk_drewN ?_ _ | refine blk_drew ?_ | refine blk_alloc ?_ _)); refine blk_put (cs := #[.int .i64 t629, .slice Ao15 t630.length co15, .slice none 0 0]) ?_ 2 _ rfl; (with_reducible repeat (first | refine blk_drewN ?_ _ | refine blk_drew ?_ | refine blk_alloc ?_ _)); refine blk_put (cs := #[.int .i64 t629, .slice none 0 0, .slice none 0 0]) ?_ 1 _ rfl; (with_reducible repeat (first | refine blk_drewN ?_ _ | refine blk_drew ?_ | refine blk_alloc ?_ _)); refine blk_put (cs := #[.int .i64 0, .slice none 0 0, .slice none 0 0]) ?_ 0 _ rfl; (with_reducible repeat (first | refine blk_drewN ?_ _ | refine blk_drew ?_ | refine blk_alloc ?_ _)); exact BK640.out⟩
 have n5_ : Aside0 (IsS92 w (((w11.setCell ⟨gb640, 0, none⟩ (.int .i64 t629)).setCell ⟨gb640, 1, none⟩ (.slice Ao15 t630.length co15)).setCell ⟨gb640, 2, none⟩ (.slice Ao16 t633.length co16)) g628 t626 t639) := ⟨by repeat (first | (with_reducible first | exact HI628.out | apply IsS92.alloc | apply IsS92.drewN | apply IsS92.drew | apply IsS92.set_1 | refine IsS92.far ?_ NB628_625.out _ | refine IsS92.far ?_ NB628_640.out _) | exact HI628.out)⟩
 have n6_ : Aside0 (Below w.heap.size w (((w11.setCell ⟨gb640, 0, none⟩ (.int .i64 t629)).setCell ⟨gb640, 1, none⟩ (.slice Ao15 t630.length co15)).setCell ⟨gb640, 2, none⟩ (.slice Ao16 t633.length co16))) := ⟨by repeat (first | (with_reducible first | exact HB.out | apply below_alloc | apply pw_below_drewN | apply below_drew1 | refine below_set ?_ (IsS92.ge HI628.out) | refine below_set ?_ GE625.out | refine below_set ?_ GE640.out) | exact HB.out)⟩
 (try clear HO632)
 (try clear HO635)
 (try clear HO638)
 (try clear BK625)
 (try clear BK640)
 (try clear HI628)
 (try clear HB)
 generalize (((w11.setCell ⟨gb640, 0, none⟩ (.int .i64 t629)).setCell ⟨gb640, 1, none⟩ (.slice Ao15 t630.length co15)).setCell ⟨gb640, 2, none⟩ (.slice Ao16 t633.length co16)) = w17 at n0_ n1_ n2_ n3_ n4_ n5_ n6_ ⊢
 have HO632 := n0_
 have HO635 := n1_
 have HO638 := n2_
 have BK625 := n3_
 have BK640 := n4_
 have HI628 := n5_
 have HB := n6_
 clear n0_ n1_ n2_ n3_ n4_ n5_ n6_
 replace HO632 := Z.k (Kd.R_drew HO632.out)
 replace HO635 := Z.k (Kd.R_drew HO635.out)
 replace HO638 := Z.k (Kd.R_drew HO638.out)
 replace BK625 := Z.k (blk_drew BK625.out)
 replace BK640 := Z.k (blk_drew BK640.out)
 replace HI628 := Z.k (IsS92.drew HI628.out)
 replace HB := Z.k (below_drew1 HB.out)
 refine start_ (n := 19) (S := fun w' => w'.cell? ⟨gb640, 0, none⟩ = some (.int .i64 t629) ∧ w'.cell? ⟨gb640, 1, none⟩ = some (.slice Ao15 t630.length co15) ∧ w'.cell? ⟨gb640, 2, none⟩ = some (.slice Ao16 t633.length co16)) (ds := []) #[false, false, false, false, false, false, false, false, false, false, false, false, false, false, false, false, false, false, false] (by kernel_rfl) rfl rfl ⟨(blk_cell BK640.out 0).trans rfl, (blk_cell BK640.out 1).trans rfl, (blk_cell BK640.out 2).trans rfl⟩ (fun hHeld => ?_); refine with_tabW spec_DrawMayChange.tab3 spec_DrawMayChange.bits3 (fun HT_ HW_ => ?_)
 generalize w17.drew = w18 at HO632 HO635 HO638 BK625 BK640 HI628 HB hHeld ⊢
 refine Z.pv 1 18 19 2 HT_.out ?_
 refine Z.pv 2 19 19 6 HT_.out ?_
 refine Z.pv 4 21 19 22 HT_.out ?_
 refine Z.pv 8 25 19 278 HT_.out ?_
 refine Z.pv 10 27 19 1302 HT_.out ?_
 refine Z.pv 11 28 19 3350 HT_.out ?_
 refine Z.t3 0 17 19 3351 HT_.out HW_.out hHeld ?_
 refine Z.t3 12 29 19 7447 HT_.out HW_.out hHeld ?_
 refine one_ (i := 3) (N := some 20) (Z.mb 19 7455) rfl rfl (one_of HT_.out (by kernel_rfl)) (by decide) (fun K hK => ?_)
 refine goes_ Try.func73 (by kernel_rfl) rfl #[.pointer (some ⟨g628, 0, none⟩), .int .i64 3] (by rfl) rfl rfl Z.ar ?_
 with_reducible refine (spec_l20Rd_pick.calls k g628 t626 t639 3 t641 t642 w _ ?q1 ?q2 A4.out).mono ?_
 (case q1 => repeat (first | (with_reducible first | exact HI628.out | apply IsS92.alloc | apply IsS92.drewN | apply IsS92.drew | apply IsS92.set_1 | refine IsS92.far ?_ NB628_625.out _ | refine IsS92.far ?_ NB628_640.out _) | exact HI628.out))
 (case q2 => repeat (first | (with_reducible first | exact HB.out | apply below_alloc | apply pw_below_drewN | apply below_drew1 | refine below_set ?_ (IsS92.ge HI628.out) | refine below_set ?_ GE625.out | refine below_set ?_ GE640.out) | exact HB.out))
 rintro e w19 ⟨rfl, hi, hb, hk⟩
 refine ⟨_, rfl, ?_⟩
 replace BK625 := Z.k (KeepBut.blk hk (g' := gb625) (o := .cells #[.int .i64 0, .slice none 0 0, .slice none 0 0] 28 (0, 0)) (Z.bk BK625.out) NB625_628.out (by simp))
 replace HO632 := Z.k (Kd.R_mono (Kd.R_keep (IsS92.apart (show IsS92 w _ g628 t626 t639 from by repeat (first | (with_reducible first | exact HI628.out | apply IsS92.alloc | apply IsS92.drewN | apply IsS92.drew | apply IsS92.set_1 | refine IsS92.far ?_ NB628_625.out _ | refine IsS92.far ?_ NB628_640.out _) | exact HI628.out)) (by (with_reducible repeat (first | apply Kd.R_alloc | apply Kd.R_drewN | apply Kd.R_drew)); exact HO632.out) (by decide)) hk (fun _ h => h.2)) (fun _ h => h.1))
 replace HO635 := Z.k (Kd.R_mono (Kd.R_keep (IsS92.apart (show IsS92 w _ g628 t626 t639 from by repeat (first | (with_reducible first | exact HI628.out | apply IsS92.alloc | apply IsS92.drewN | apply IsS92.drew | apply IsS92.set_1 | refine IsS92.far ?_ NB628_625.out _ | refine IsS92.far ?_ NB628_640.out _) | exact HI628.out)) (by (with_reducible repeat (first | apply Kd.R_alloc | apply Kd.R_drewN | apply Kd.R_drew)); exact HO635.out) (by decide)) hk (fun _ h => h.2)) (fun _ h => h.1))
 replace HO638 := Z.k (Kd.R_mono (Kd.R_keep (IsS92.apart (show IsS92 w _ g628 t626 t639 from by repeat (first | (with_reducible first | exact HI628.out | apply IsS92.alloc | apply IsS92.drewN | apply IsS92.drew | apply IsS92.set_1 | refine IsS92.far ?_ NB628_625.out _ | refine IsS92.far ?_ NB628_640.out _) | exact HI628.out)) (by (with_reducible repeat (first | apply Kd.R_alloc | apply Kd.R_drewN | apply Kd.R_drew)); exact HO638.out) (by decide)) hk (fun _ h => h.2)) (fun _ h => h.1))
 replace BK640 := Z.k (KeepBut.blk hk (g' := gb640) (o := .cells #[.int .i64 t629, .slice Ao15 t630.length co15, .slice Ao16 t633.length co16] 28 (0, 0)) (Z.bk BK640.out) NB640_628.out (by simp))
 replace HB := Z.k (hb)
 replace HI628 := Z.k (hi)
 (try clear hb)
 (try clear hb2)
 (try clear hk)
 (try clear hi)
 refine hK.out _ _ ⟨(blk_cell BK640.out 0).trans rfl, (blk_cell BK640.out 1).trans rfl, (blk_cell BK640.out 2).trans rfl⟩ (fun hHeld => ?_)
 clear hK K
 refine Z.nm ?_
 refine one_ (i := 5) (N := some 22) (Z.mb 19 7487) rfl rfl (one_of HT_.out (by kernel_rfl)) (by decide) (fun K hK => ?_)
 refine goes_ Try.func73 (by kernel_rfl) rfl #[.pointer (some ⟨g628, 0, none⟩), .int .i64 40] (by rfl) rfl rfl Z.ar ?_
 with_reducible refine (spec_l20Rd_pick.calls k g628 t626 t642 40 t643 t644 w _ ?q1 ?q2 A5.out).mono ?_
 (case q1 => repeat (first | (with_reducible first | exact HI628.out | apply IsS92.alloc | apply IsS92.drewN | apply IsS92.drew | apply IsS92.set_1 | refine IsS92.far ?_ NB628_625.out _ | refine IsS92.far ?_ NB628_640.out _) | exact HI628.out))
 (case q2 => repeat (first | (with_reducible first | exact HB.out | apply below_alloc | apply pw_below_drewN | apply below_drew1 | refine below_set ?_ (IsS92.ge HI628.out) | refine below_set ?_ GE625.out | refine below_set ?_ GE640.out) | exact HB.out))
 rintro e w20 ⟨rfl, hi, hb, hk⟩
 refine ⟨_, rfl, ?_⟩
 replace BK625 := Z.k (KeepBut.blk hk (g' := gb625) (o := .cells #[.int .i64 0, .slice none 0 0, .slice none 0 0] 28 (0, 0)) (Z.bk BK625.out) NB625_628.out (by simp))
 replace HO632 := Z.k (Kd.R_mono (Kd.R_keep (IsS92.apart (show IsS92 w _ g628 t626 t642 from by repeat (first | (with_reducible first | exact HI628.out | apply IsS92.alloc | apply IsS92.drewN | apply IsS92.drew | apply IsS92.set_1 | refine IsS92.far ?_ NB628_625.out _ | refine IsS92.far ?_ NB628_640.out _) | exact HI628.out)) (by (with_reducible repeat (first | apply Kd.R_alloc | apply Kd.R_drewN | apply Kd.R_drew)); exact HO632.out) (by decide)) hk (fun _ h => h.2)) (fun _ h => h.1))
 replace HO635 := Z.k (Kd.R_mono (Kd.R_keep (IsS92.apart (show IsS92 w _ g628 t626 t642 from by repeat (first | (with_reducible first | exact HI628.out | apply IsS92.alloc | apply IsS92.drewN | apply IsS92.drew | apply IsS92.set_1 | refine IsS92.far ?_ NB628_625.out _ | refine IsS92.far ?_ NB628_640.out _) | exact HI628.out)) (by (with_reducible repeat (first | apply Kd.R_alloc | apply Kd.R_drewN | apply Kd.R_drew)); exact HO635.out) (by decide)) hk (fun _ h => h.2)) (fun _ h => h.1))
 replace HO638 := Z.k (Kd.R_mono (Kd.R_keep (IsS92.apart (show IsS92 w _ g628 t626 t642 from by repeat (first | (with_reducible first | exact HI628.out | apply IsS92.alloc | apply IsS92.drewN | apply IsS92.drew | apply IsS92.set_1 | refine IsS92.far ?_ NB628_625.out _ | refine IsS92.far ?_ NB628_640.out _) | exact HI628.out)) (by (with_reducible repeat (first | apply Kd.R_alloc | apply Kd.R_drewN | apply Kd.R_drew)); exact HO638.out) (by decide)) hk (fun _ h => h.2)) (fun _ h => h.1))
 replace BK640 := Z.k (KeepBut.blk hk (g' := gb640) (o := .cells #[.int .i64 t629, .slice Ao15 t630.length co15, .slice Ao16 t633.length co16] 28 (0, 0)) (Z.bk BK640.out) NB640_628.out (by simp))
 replace HB := Z.k (hb)
 replace HI628 := Z.k (hi)
 (try clear hb)
 (try clear hb2)
 (try clear hk)
 (try clear hi)
 refine hK.out _ _ ⟨(blk_cell BK640.out 0).trans rfl, (blk_cell BK640.out 1).trans rfl, (blk_cell BK640.out 2).trans rfl⟩ (fun hHeld => ?_)
 clear hK K
 refine Z.nm ?_
 refine Z.pv 6 23 19 7551 HT_.out ?_
 refine Z.pv 7 24 19 7679 HT_.out ?_
 refine one_ (i := 9) (N := some 26) (Z.mb 19 8191) rfl rfl (one_of HT_.out (by kernel_rfl)) (by decide) (fun K hK => ?_)
 refine goes_ Try.func73 (by kernel_rfl) rfl #[.pointer (some ⟨g628, 0, none⟩), .int .i64 3] (by rfl) rfl rfl Z.ar ?_
 with_reducible refine (spec_l20Rd_pick.calls k g628 t626 t644 3 t645 t646 w _ ?q1 ?q2 A6.out).mono ?_
 (case q1 => repeat (first | (with_reducible first | exact HI628.out | apply IsS92.alloc | apply IsS92.drewN | apply IsS92.drew | apply IsS92.set_1 | refine IsS92.far ?_ NB628_625.out _ | refine IsS92.far ?_ NB628_640.out _) | exact HI628.out))
 (case q2 => repeat (first | (with_reducible first | exact HB.out | apply below_alloc | apply pw_below_drewN | apply below_drew1 | refine below_set ?_ (IsS92.ge HI628.out) | refine below_set ?_ GE625.out | refine below_set ?_ GE640.out) | exact HB.out))
 rintro e w21 ⟨rfl, hi, hb, hk⟩
 refine ⟨_, rfl, ?_⟩
 replace BK625 := Z.k (KeepBut.blk hk (g' := gb625) (o := .cells #[.int .i64 0, .slice none 0 0, .slice none 0 0] 28 (0, 0)) (Z.bk BK625.out) NB625_628.out (by simp))
 replace HO632 := Z.k (Kd.R_mono (Kd.R_keep (IsS92.apart (show IsS92 w _ g628 t626 t644 from by repeat (first | (with_reducible first | exact HI628.out | apply IsS92.alloc | apply IsS92.drewN | apply IsS92.drew | apply IsS92.set_1 | refine IsS92.far ?_ NB628_625.out _ | refine IsS92.far ?_ NB628_640.out _) | exact HI628.out)) (by (with_reducible repeat (first | apply Kd.R_alloc | apply Kd.R_drewN | apply Kd.R_drew)); exact HO632.out) (by decide)) hk (fun _ h => h.2)) (fun _ h => h.1))
 replace HO635 := Z.k (Kd.R_mono (Kd.R_keep (IsS92.apart (show IsS92 w _ g628 t626 t644 from by repeat (first | (with_reducible first | exact HI628.out | apply IsS92.alloc | apply IsS92.drewN | apply IsS92.drew | apply IsS92.set_1 | refine IsS92.far ?_ NB628_625.out _ | refine IsS92.far ?_ NB628_640.out _) | exact HI628.out)) (by (with_reducible repeat (first | apply Kd.R_alloc | apply Kd.R_drewN | apply Kd.R_drew)); exact HO635.out) (by decide)) hk (fun _ h => h.2)) (fun _ h => h.1))
 replace HO638 := Z.k (Kd.R_mono (Kd.R_keep (IsS92.apart (show IsS92 w _ g628 t626 t644 from by repeat (first | (with_reducible first | exact HI628.out | apply IsS92.alloc | apply IsS92.drewN | apply IsS92.drew | apply IsS92.set_1 | refine IsS92.far ?_ NB628_625.out _ | refine IsS92.far ?_ NB628_640.out _) | exact HI628.out)) (by (with_reducible repeat (first | apply Kd.R_alloc | apply Kd.R_drewN | apply Kd.R_drew)); exact HO638.out) (by decide)) hk (fun _ h => h.2)) (fun _ h => h.1))
 replace BK640 := Z.k (KeepBut.blk hk (g' := gb640) (o := .cells #[.int .i64 t629, .slice Ao15 t630.length co15, .slice Ao16 t633.length co16] 28 (0, 0)) (Z.bk BK640.out) NB640_628.out (by simp))
 replace HB := Z.k (hb)
 replace HI628 := Z.k (hi)
 (try clear hb)
 (try clear hb2)
 (try clear hk)
 (try clear hi)
 refine hK.out _ _ ⟨(blk_cell BK640.out 0).trans rfl, (blk_cell BK640.out 1).trans rfl, (blk_cell BK640.out 2).trans rfl⟩ (fun hHeld => ?_)
 clear hK K
 refine Z.nm ?_
 refine one_ (i := 13) (N := some 30) (Z.mb 19 16383) rfl rfl (one_of HT_.out (by kernel_rfl)) (by decide) (fun K hK => ?_)
 refine goes_ Try.func58 (by kernel_rfl) rfl #[.pointer (some ⟨g628, 0, none⟩), .agg #[.int .i64 t629, .slice Ao15 t630.length co15]] (by rfl) rfl rfl Z.ar ?_
 with_reducible refine (spec_l20Crowd.calls k g628 t626 t646 t629 _ _ t630 t647 t648 w _ ?q1 ?q2 ?q3 ?q4 ?q5 A7.out).mono ?_
 (case q1 => repeat (first | (with_reducible first | exact HI628.out | apply IsS92.alloc | apply IsS92.drewN | apply IsS92.drew | apply IsS92.set_1 | refine IsS92.far ?_ NB628_625.out _ | refine IsS92.far ?_ NB628_640.out _) | exact HI628.out))
 (case q2 => repeat (first | (with_reducible first | exact HB.out | apply below_alloc | apply pw_below_drewN | apply below_drew1 | refine below_set ?_ (IsS92.ge HI628.out) | refine below_set ?_ GE625.out | refine below_set ?_ GE640.out) | exact HB.out))
 (case q3 => repeat (first | exact (Kd.R_reads' HO632.out).2.2 | (with_reducible refine Kd.C_alloc ?_ _) | (with_reducible refine Kd.C_drewN ?_ _) | (with_reducible refine Kd.C_drew ?_)))
 (case q4 => exact (Kd.R_reads' HO632.out).2.1)
 (case q5 => exact far_slice (IsS92.own_ne HI628.out HO632.out (by decide)))
 rintro e w22 ⟨rfl, hi, hb, hk⟩
 refine ⟨_, rfl, ?_⟩
 replace BK625 := Z.k (KeepBut.blk hk (g' := gb625) (o := .cells #[.int .i64 0, .slice none 0 0, .slice none 0 0] 28 (0, 0)) (Z.bk BK625.out) NB625_628.out (by simp))
 replace HO632 := Z.k (Kd.R_mono (Kd.R_keep (IsS92.apart (show IsS92 w _ g628 t626 t646 from by repeat (first | (with_reducible first | exact HI628.out | apply IsS92.alloc | apply IsS92.drewN | apply IsS92.drew | apply IsS92.set_1 | refine IsS92.far ?_ NB628_625.out _ | refine IsS92.far ?_ NB628_640.out _) | exact HI628.out)) (by (with_reducible repeat (first | apply Kd.R_alloc | apply Kd.R_drewN | apply Kd.R_drew)); exact HO632.out) (by decide)) hk (fun _ h => h.2)) (fun _ h => h.1))
 replace HO635 := Z.k (Kd.R_mono (Kd.R_keep (IsS92.apart (show IsS92 w _ g628 t626 t646 from by repeat (first | (with_reducible first | exact HI628.out | apply IsS92.alloc | apply IsS92.drewN | apply IsS92.drew | apply IsS92.set_1 | refine IsS92.far ?_ NB628_625.out _ | refine IsS92.far ?_ NB628_640.out _) | exact HI628.out)) (by (with_reducible repeat (first | apply Kd.R_alloc | apply Kd.R_drewN | apply Kd.R_drew)); exact HO635.out) (by decide)) hk (fun _ h => h.2)) (fun _ h => h.1))
 replace HO638 := Z.k (Kd.R_mono (Kd.R_keep (IsS92.apart (show IsS92 w _ g628 t626 t646 from by repeat (first | (with_reducible first | exact HI628.out | apply IsS92.alloc | apply IsS92.drewN | apply IsS92.drew | apply IsS92.set_1 | refine IsS92.far ?_ NB628_625.out _ | refine IsS92.far ?_ NB628_640.out _) | exact HI628.out)) (by (with_reducible repeat (first | apply Kd.R_alloc | apply Kd.R_drewN | apply Kd.R_drew)); exact HO638.out) (by decide)) hk (fun _ h => h.2)) (fun _ h => h.1))
 replace BK640 := Z.k (KeepBut.blk hk (g' := gb640) (o := .cells #[.int .i64 t629, .slice Ao15 t630.length co15, .slice Ao16 t633.length co16] 28 (0, 0)) (Z.bk BK640.out) NB640_628.out (by simp))
 replace HB := Z.k (hb)
 replace HI628 := Z.k (hi)
 (try clear hb)
 (try clear hb2)
 (try clear hk)
 (try clear hi)
 refine hK.out _ _ ⟨(blk_cell BK640.out 0).trans rfl, (blk_cell BK640.out 1).trans rfl, (blk_cell BK640.out 2).trans rfl⟩ (fun hHeld => ?_)
 clear hK K
 refine Z.nm ?_
 refine one_ (i := 14) (N := none) #[true, true, true, true, true, true, true, true, true, true, true, true, true, true, true, false, false, false, false] rfl rfl (one_of HT_.out (by kernel_rfl)) (by decide) (fun K hK => ?_)
 have hs23 : w22.cell? ⟨gb625, 0, none⟩ = some (.int .i64 0) := (blk_cell BK625.out 0).trans rfl
 have hfs23 := blk_frozen BK625.out 0
 have hns23_1 := NB640_625.out
 have hms23_1 := NB625_640.out
 have hs24 : w22.cell? ⟨gb625, 1, none⟩ = some (.slice none 0 0) := (blk_cell BK625.out 1).trans rfl
 have hfs24 := blk_frozen BK625.out 1
 have hns24_1 := NB640_625.out
 have hms24_1 := NB625_640.out
 have hs25 : w22.cell? ⟨gb625, 2, none⟩ = some (.slice none 0 0) := (blk_cell BK625.out 2).trans rfl
 have hfs25 := blk_frozen BK625.out 2
 have hns25_1 := NB640_625.out
 have hms25_1 := NB625_640.out
 refine skip_ (w1 := ?_) (by rfl) rfl ?_ ?_
 rotate_left
 ·go_simp
  rfl
 refine hK.out _ _ ⟨(Z.f3 NB640_625.out (hHeld.1)), (Z.f3 NB640_625.out (hHeld.2.1)), (Z.f3 NB640_625.out (hHeld.2.2))⟩ (fun hHeld => ?_)
 clear hK K
 refine Z.pv 15 3 19 65535 HT_.out ?_
 refine Z.pv 16 4 19 131071 HT_.out ?_
 refine Z.pv 17 5 19 262143 HT_.out ?_
 refine Z.pv 18 6 19 524287 HT_.out ?_
 refine done_ (done_of HT_.out (by kernel_rfl)) ?_
 try go_wp2
 refine bodyPost_ret (results_list (rs := [.cell 2 28, .tmp 3, .tmp 4, .tmp 5, .tmp 6]) rfl (by simp) (.cell gb625 28 #[.int .i64 t629, .slice Ao15 t630.length co15, .slice Ao16 t633.length co16] (0, 0) _ rfl (by (with_reducible repeat (first | refine blk_drewN ?_ _ | refine blk_drew ?_ | refine blk_alloc ?_ _)); refine blk_put (cs := #[.int .i64 t629, .slice Ao15 t630.length co15, .slice none 0 0]) ?_ 2 _ rfl; (with_reducible repeat (first | refine blk_drewN ?_ _ | refine blk_drew ?_ | refine blk_alloc ?_ _)); refine blk_put (cs := #[.int .i64 t629, .slice none 0 0, .slice none 0 0]) ?_ 1 _ rfl; (with_reducible repeat (first | refine blk_drewN ?_ _ | refine blk_drew ?_ | refine blk_alloc ?_ _)); refine blk_put (cs := #[.int .i64 0, .slice none 0 0, .slice none 0 0]) ?_ 0 _ rfl; (with_reducible repeat (first | refine blk_drewN ?_ _ | refine blk_drew ?_ | refine blk_alloc ?_ _)); exact BK625.out) Try.underlying28 rfl (by kernel_rfl) (.tmp (.tmp (.tmp (.tmp .nil)))))) rfl ?_
 exact ⟨_, _, _, by first | rfl | (simp [errW_none, errW_some] <;> rfl) | (simp [*, errW_none, errW_some] <;> rfl), by (with_reducible repeat (first | apply Kd.R_alloc | apply Kd.R_drewN | apply Kd.R_drew)); exact Kd.R_mono (Kd.R_far (p := ⟨gb625, 2, none⟩) (Kd.R_far (p := ⟨gb625, 1, none⟩) (Kd.R_far (p := ⟨gb625, 0, none⟩) (Kd.R_types HO632.out BK625.out (by decide)) (fun _ hk => hk.2) (.int .i64 t629)) (fun _ hk => hk.2) (.slice Ao15 t630.length co15)) (fun _ hk => hk.2) (.slice Ao16 t633.length co16)) (fun _ hk => hk.1), by (with_reducible repeat (first | apply Kd.R_alloc | apply Kd.R_drewN | apply Kd.R_drew)); exact Kd.R_mono (Kd.R_far (p := ⟨gb625, 2, none⟩) (Kd.R_far (p := ⟨gb625, 1, none⟩) (Kd.R_far (p := ⟨gb625, 0, none⟩) (Kd.R_types HO635.out BK625.out (by decide)) (fun _ hk => hk.2) (.int .i64 t629)) (fun _ hk => hk.2) (.slice Ao15 t630.length co15)) (fun _ hk => hk.2) (.slice Ao16 t633.length co16)) (fun _ hk => trivial), by (with_reducible repeat (first | apply Kd.R_alloc | apply Kd.R_drewN | apply Kd.R_drew)); exact Kd.R_mono (Kd.R_far (p := ⟨gb625, 2, none⟩) (Kd.R_far (p := ⟨gb625, 1, none⟩) (Kd.R_far (p := ⟨gb625, 0, none⟩) (Kd.R_types HO638.out BK625.out (by decide)) (fun _ hk => hk.2) (.int .i64 t629)) (fun _ hk => hk.2) (.slice Ao15 t630.length co15)) (fun _ hk => hk.2) (.slice Ao16 t633.length co16)) (fun _ hk => hk.1), by repeat (first | (with_reducible first | exact HB.out | apply below_alloc | apply pw_below_drewN | apply below_drew1 | refine below_set ?_ (IsS92.ge HI628.out) | refine below_set ?_ GE625.out | refine below_set ?_ GE640.out) | exact HB.out)⟩

end Go.Proofs.Ytkogboechfieeaa.PAll

/- Walks of functions that laws of this seat reach, in the form of the print. -/
import Derived.Test.YtojoblllgddckaaCAll0
import Derived.Test.YtojoblllgddckaaCAll1
import Derived.Test.YtojoblllgddckaaCAll45
import Derived.Test.YtojoblllgddckaaCAll47
import Derived.Test.YtojoblllgddckaaCAll67
import Derived.Test.YtojoblllgddckaaCAll68
import Derived.Test.YtojoblllgddckaaZ
-- PRINTED
namespace Go.Proofs.Ytojoblllgddckaa.PAll
open Go.RowKit Go.Proofs.YtojoblllgddckaaW.PrintWords Go.Proofs.YtojoblllgddckaaW.PrintLast Go.Proofs.YtojoblllgddckaaW.PrintMore
attribute [local go_sem] max2_int min2_int max_two min_two max_three min_three max_four min_four
set_option linter.unusedVariables false
set_option linter.unusedSimpArgs false

/-! ### spec_DrawApartOk: function 24 -/
def spec_DrawApartOk.f (k : Nat) (l0 : List Int) : Option (Int × List Int × (List (List (S91))) × Int × Int × Int × Int × Int × Int) := (spec_l20Open.f l0).bind fun bt479 => ((spec_l20Charter.f k bt479.1 bt479.2 14).bind fun bt482 => ((spec_l20Act.f k bt479.1 bt482.2.2.2 bt482.1 bt482.2.1 bt482.2.2.1).bind fun bt491 => ((spec_l20Act.f k bt479.1 bt491.2.2.2 bt482.1 bt482.2.1 bt482.2.2.1).bind fun bt495 => (some (bt482.1, bt482.2.1, bt482.2.2.1, bt491.1, bt491.2.1, bt491.2.2.1, bt495.1, bt495.2.1, bt495.2.2.1)))))
def spec_DrawApartOk.T3 : Bool × List (List Nat × List Nat) := (true, [([], []), ([], []), ([], []), ([1, 2], [1, 2]), ([], []), ([], []), ([4, 5, 3], [4, 5]), ([0, 6, 0], [0]), ([3, 7, 0, 1, 2, 3, 7], [3]), ([6, 8, 0, 1, 2, 3, 4, 5, 6, 7, 8], [6])])
def spec_DrawApartOk.B3 : List Nat := [0, 0, 0, 6, 0, 0, 62, 127, 255, 511]
theorem spec_DrawApartOk.tab3 : rtab .any (opsOf Try.f24 3) = spec_DrawApartOk.T3 := by kernel_rfl
theorem spec_DrawApartOk.bits3 : waitsOk spec_DrawApartOk.T3.2 spec_DrawApartOk.B3 = true := by kernel_rfl
set_option maxHeartbeats 8000000 in
set_option maxRecDepth 100000 in
theorem spec_DrawApartOk.calls (k : Nat) (A0 : Option Addr) (c0 : Nat) (l0 : List Int) (r1 : Int) (r2 : List Int) (r3 : List (List (S91))) (r4 : Int) (r5 : Int) (r6 : Int) (r7 : Int) (r8 : Int) (r9 : Int) (w : World) (hr0 : Kd.C (Kd.int .u8) w A0 l0.length l0) (hc0 : l0.length ≤ c0) (h : spec_DrawApartOk.f k l0 = some (r1, r2, r3, r4, r5, r6, r7, r8, r9)) :
  Calls Try.prog 24 #[.slice A0 l0.length c0] w fun e w' => ∃ v1_ v2_ : Value, e = .returned (.tuple #[.agg #[.int .i64 r1, v1_, v2_], .agg #[.int .i64 r4, .int .i64 r5, .int .i64 r6], .agg #[.int .i64 r7, .int .i64 r8, .int .i64 r9]]) ∧ Kd.R (Kd.int .i64) 3 w' w.heap.size (fun _ => True) v1_ r2 ∧ Kd.R (Kd.slice 91 k91) 56 w' w.heap.size (fun _ => True) v2_ r3 ∧ Below w.heap.size w w' := by
 have hu46 := Try.underlying46
 have hu48 := Try.underlying48
 have HR0 := Aside0.mk hr0
 have HC0 := Aside0.mk hc0
 clear hr0 hc0
 have HB := Aside0.mk (Below.refl w.heap.size w)
 have H := h
 clear h
 unfold spec_DrawApartOk.f at H
 replace H := Option.bind_eq_some_iff.mp H
 obtain ⟨⟨t479, t480⟩, A20, H⟩ := H
 try dsimp only at H
 have A2 := Aside0.mk A20
 clear A20
 replace H := Option.bind_eq_some_iff.mp H
 obtain ⟨⟨t482, t483, t486, t489⟩, A30, H⟩ := H
 try dsimp only at H
 have A3 := Aside0.mk A30
 clear A30
 replace H := Option.bind_eq_some_iff.mp H
 obtain ⟨⟨t491, t492, t493, t494⟩, A40, H⟩ := H
 try dsimp only at H
 have A4 := Aside0.mk A40
 clear A40
 replace H := Option.bind_eq_some_iff.mp H
 obtain ⟨⟨t495, t496, t497, t498⟩, A50, H⟩ := H
 try dsimp only at H
 have A5 := Aside0.mk A50
 clear A50
 simp only [Option.some.injEq, Prod.mk.injEq] at H
 obtain ⟨rfl, rfl, rfl, rfl, rfl, rfl, rfl, rfl, rfl⟩ := H
 go_enter Try.func24, Try.ntmps24
 try go_wp2_with (first | ((with_reducible refine gate_dst (N := 2) rfl ?_); refine Z.bx #[.int .i64 0, .slice none 0 0, .slice none 0 0] 46 HB ?_; clear HB; intro gb476 w6 BK476 GE476 HB hg hb; have GW476 := GE476; clear hb hg) | ((with_reducible refine gate_dst (N := 3) rfl ?_); refine Z.bz #[.int .i64 0, .int .i64 0, .int .i64 0] 48 HB GE476 ?_; clear HB; intro gb477 w7 BK477 GE477 HB hg hb; have GW477 := GE477; have NB476_477 := Z.nl hg BK476; have NB477_476 := Z.ng hg BK476; replace BK476 := Z.bb BK476 hb; clear hb hg) | ((with_reducible refine gate_dst (N := 4) rfl ?_); refine box_event ?hg (N := 4) ?hd (cs := #[.int .i64 0, .int .i64 0, .int .i64 0]) (t := 48) ?hr ?_; (case hd | hg => rfl); (case hr => first | (go_simp; done) | (go_simp; rfl)); intro gb478 hg w8 hbox hb; have BK478 := Aside0.mk (hbox); have GW478 := Aside0.mk ((by rw [hg]; exact (below_size (by repeat (first | (with_reducible first | exact HB.out | apply below_alloc | apply pw_below_drewN | apply below_drew1 | refine below_set ?_ GE476.out | refine below_set ?_ GE477.out) | exact HB.out))) : w.heap.size ≤ gb478)); have GE478 := Aside0.mk ((by rw [hg]; exact (below_size (by repeat (first | (with_reducible first | exact HB.out | apply below_alloc | apply pw_below_drewN | apply below_drew1 | refine below_set ?_ GE476.out | refine below_set ?_ GE477.out) | exact HB.out))) : w.heap.size ≤ gb478)); replace HB := Aside0.mk (below_step (by repeat (first | (with_reducible first | exact HB.out | apply below_alloc | apply pw_below_drewN | apply below_drew1 | refine below_set ?_ GE476.out | refine below_set ?_ GE477.out) | exact HB.out)) hb); have NB476_478 := Z.nl hg BK476; have NB478_476 := Z.ng hg BK476; replace BK476 := Z.bb BK476 hb; have NB477_478 := Z.nl hg BK477; have NB478_477 := Z.ng hg BK477; replace BK477 := Z.bb BK477 hb; clear hb hbox hg) | ((with_reducible refine gate_callee (f := 49) rfl ?_); refine goesL_ (some 8) rfl rfl Try.func49 (by kernel_rfl) rfl #[.slice A0 l0.length c0] rfl Z.ar ?_; (with_reducible refine (spec_l20Open.calls _ _ l0 t479 t480 w _ ?q1 ?q2 ?q3 A2.out).mono ?_); (case q1 => repeat (first | (with_reducible first | exact HB.out | apply below_alloc | apply pw_below_drewN | apply below_drew1 | refine below_set ?_ GE476.out | refine below_set ?_ GE477.out | refine below_set ?_ GE478.out) | exact HB.out)); (case q2 => exact HR0.out); (case q3 => exact HC0.out); rintro e w9 ⟨g481, rfl, hi, hb, hb2⟩; refine ⟨_, rfl, ?_⟩; replace HB := Aside0.mk (hb); have HI481 := Aside0.mk (hi); have NB481_476 := Aside0.mk (IsS106.ne_blk hi (blk_below (g := gb476) (o := .cells #[.int .i64 0, .slice none 0 0, .slice none 0 0] 46 (0, 0)) (Z.bk BK476.out) hb2) (by decide)); have NB476_481 := Aside0.mk (Ne.symm (IsS106.ne_blk hi (blk_below (g := gb476) (o := .cells #[.int .i64 0, .slice none 0 0, .slice none 0 0] 46 (0, 0)) (Z.bk BK476.out) hb2) (by decide))); replace BK476 := Aside0.mk (blk_below (g := gb476) (o := .cells #[.int .i64 0, .slice none 0 0, .slice none 0 0] 46 (0, 0)) (Z.bk BK476.out) hb2); have NB481_477 := Aside0.mk (IsS106.ne_blk hi (blk_below (g := gb477) (o := .cells #[.int .i64 0, .int .i64 0, .int .i64 0] 48 (0, 0)) (Z.bk BK477.out) hb2) (by decide)); have NB477_481 := Aside0.mk (Ne.symm (IsS106.ne_blk hi (blk_below (g := gb477) (o := .cells #[.int .i64 0, .int .i64 0, .int .i64 0] 48 (0, 0)) (Z.bk BK477.out) hb2) (by decide))); replace BK477 := Aside0.mk (blk_below (g := gb477) (o := .cells #[.int .i64 0, .int .i64 0, .int .i64 0] 48 (0, 0)) (Z.bk BK477.out) hb2); have NB481_478 := Aside0.mk (IsS106.ne_blk hi (blk_below (g := gb478) (o := .cells #[.int .i64 0, .int .i64 0, .int .i64 0] 48 (0, 0)) (Z.bk BK478.out) hb2) (by decide)); have NB478_481 := Aside0.mk (Ne.symm (IsS106.ne_blk hi (blk_below (g := gb478) (o := .cells #[.int .i64 0, .int .i64 0, .int .i64 0] 48 (0, 0)) (Z.bk BK478.out) hb2) (by decide))); replace BK478 := Aside0.mk (blk_below (g := gb478) (o := .cells #[.int .i64 0, .int .i64 0, .int .i64 0] 48 (0, 0)) (Z.bk BK478.out) hb2); (try clear hb); (try clear hb2); (try clear hk); (try clear hi)) | ((with_reducible refine gate_callee (f := 65) rfl ?_); refine goesL_ (some 10) rfl rfl Try.func65 (by kernel_rfl) rfl #[.pointer (some ⟨g481, 0, none⟩), .int .i64 14] rfl Z.ar ?_; (with_reducible refine (spec_l20Charter.calls k g481 t479 t480 14 t482 t483 t486 t489 w _ ?q1 ?q2 A3.out).mono ?_); (case q1 => repeat (first | (with_reducible first | exact HI481.out | apply IsS106.alloc | apply IsS106.drewN | apply IsS106.drew | apply IsS106.set_1 | refine IsS106.far ?_ NB481_476.out _ | refine IsS106.far ?_ NB481_477.out _ | refine IsS106.far ?_ NB481_478.out _) | exact HI481.out)); (case q2 => repeat (first | (with_reducible first | exact HB.out | apply below_alloc | apply pw_below_drewN | apply below_drew1 | refine below_set ?_ (IsS106.ge HI481.out) | refine below_set ?_ GE476.out | refine below_set ?_ GE477.out | refine below_set ?_ GE478.out) | exact HB.out)); rintro e w10 ⟨v484, v487, rfl, ho0, ho1, hi, hb, hk⟩; refine ⟨_, rfl, ?_⟩; replace BK476 := Aside0.mk (KeepBut.blk hk (g' := gb476) (o := .cells #[.int .i64 0, .slice none 0 0, .slice none 0 0] 46 (0, 0)) (Z.bk BK476.out) NB476_481.out (by simp)); replace BK477 := Aside0.mk (KeepBut.blk hk (g' := gb477) (o := .cells #[.int .i64 0, .int .i64 0, .int .i64 0] 48 (0, 0)) (Z.bk BK477.out) NB477_481.out (by simp)); replace BK478 := Aside0.mk (KeepBut.blk hk (g' := gb478) (o := .cells #[.int .i64 0, .int .i64 0, .int .i64 0] 48 (0, 0)) (Z.bk BK478.out) NB478_481.out (by simp)); have HO485 := Aside0.mk (Kd.R_lower ho0 (below_size (by repeat (first | (with_reducible first | exact HB.out | apply below_alloc | apply pw_below_drewN | apply below_drew1 | refine below_set ?_ (IsS106.ge HI481.out) | refine below_set ?_ GE476.out | refine below_set ?_ GE477.out | refine below_set ?_ GE478.out) | exact HB.out)))); have HO488 := Aside0.mk (Kd.R_lower ho1 (below_size (by repeat (first | (with_reducible first | exact HB.out | apply below_alloc | apply pw_below_drewN | apply below_drew1 | refine below_set ?_ (IsS106.ge HI481.out) | refine below_set ?_ GE476.out | refine below_set ?_ GE477.out | refine below_set ?_ GE478.out) | exact HB.out)))); replace HB := Aside0.mk (hb); replace HI481 := Aside0.mk (hi); (try clear hb); (try clear hb2); (try clear hk); (try clear hi); (try clear ho0); (try clear ho1)) | ((with_reducible refine gate_dst (N := 6) rfl ?_); refine box_event ?hg (N := 6) ?hd (cs := #[.int .i64 0, .slice none 0 0, .slice none 0 0]) (t := 46) ?hr ?_; (case hd | hg => rfl); (case hr => first | (go_simp; done) | (go_simp; rfl)); intro gb490 hg w11 hbox hb; replace HO485 := Aside0.mk (Kd.R_below (by (with_reducible repeat (first | apply Kd.R_alloc | apply Kd.R_drewN | apply Kd.R_drew)); exact HO485.out) hb); replace HO488 := Aside0.mk (Kd.R_below (by (with_reducible repeat (first | apply Kd.R_alloc | apply Kd.R_drewN | apply Kd.R_drew)); exact HO488.out) hb); have BK490 := Aside0.mk (hbox); have GW490 := Aside0.mk ((by rw [hg]; exact (below_size (by repeat (first | (with_reducible first | exact HB.out | apply below_alloc | apply pw_below_drewN | apply below_drew1 | refine below_set ?_ (IsS106.ge HI481.out) | refine below_set ?_ GE476.out | refine below_set ?_ GE477.out | refine below_set ?_ GE478.out) | exact HB.out))) : w.heap.size ≤ gb490)); have GE490 := Aside0.mk ((by rw [hg]; exact (below_size (by repeat (first | (with_reducible first | exact HB.out | apply below_alloc | apply pw_below_drewN | apply below_drew1 | refine below_set ?_ (IsS106.ge HI481.out) | refine below_set ?_ GE476.out | refine below_set ?_ GE477.out | refine below_set ?_ GE478.out) | exact HB.out))) : w.heap.size ≤ gb490)); replace HB := Aside0.mk (below_step (by repeat (first | (with_reducible first | exact HB.out | apply below_alloc | apply pw_below_drewN | apply below_drew1 | refine below_set ?_ (IsS106.ge HI481.out) | refine below_set ?_ GE476.out | refine below_set ?_ GE477.out | refine below_set ?_ GE478.out) | exact HB.out)) hb); have NB476_490 := Z.nl hg BK476; have NB490_476 := Z.ng hg BK476; replace BK476 := Z.bb BK476 hb; have NB477_490 := Z.nl hg BK477; have NB490_477 := Z.ng hg BK477; replace BK477 := Z.bb BK477 hb; have NB478_490 := Z.nl hg BK478; have NB490_478 := Z.ng hg BK478; replace BK478 := Z.bb BK478 hb; have NB481_490 := Aside0.mk ((by rw [hg]; exact Nat.ne_of_lt (IsS106.lt (show IsS106 w _ g481 t479 t489 from by repeat (first | (with_reducible first | exact HI481.out | apply IsS106.alloc | apply IsS106.drewN | apply IsS106.drew | apply IsS106.set_1 | refine IsS106.far ?_ NB481_476.out _ | refine IsS106.far ?_ NB481_477.out _ | refine IsS106.far ?_ NB481_478.out _) | exact HI481.out))) : g481 ≠ gb490)); have NB490_481 := Aside0.mk ((by rw [hg]; exact Nat.ne_of_gt (IsS106.lt (show IsS106 w _ g481 t479 t489 from by repeat (first | (with_reducible first | exact HI481.out | apply IsS106.alloc | apply IsS106.drewN | apply IsS106.drew | apply IsS106.set_1 | refine IsS106.far ?_ NB481_476.out _ | refine IsS106.far ?_ NB481_477.out _ | refine IsS106.far ?_ NB481_478.out _) | exact HI481.out))) : gb490 ≠ g481)); replace HI481 := Aside0.mk (IsS106.below (by repeat (first | (with_reducible first | exact HI481.out | apply IsS106.alloc | apply IsS106.drewN | apply IsS106.drew | apply IsS106.set_1 | refine IsS106.far ?_ NB481_476.out _ | refine IsS106.far ?_ NB481_477.out _ | refine IsS106.far ?_ NB481_478.out _) | exact HI481.out)) hb); clear hb hbox hg; have hnb12 := NB490_476.out; have hnc12 := NB476_490.out; have hnb13 := NB490_477.out; have hnc13 := NB477_490.out; have hnb14 := NB490_478.out; have hnc14 := NB478_490.out; have hnb15 := NB490_481.out; have hnc15 := NB481_490.out; have hcz16 := Z.c3 BK490.out; obtain ⟨Ao17, co17, eo17⟩ := Kd.R_slice HO485.out; subst eo17; obtain ⟨Ao18, co18, eo18⟩ := Kd.R_slice HO488.out; subst eo18))
 have n0_ : Aside0 (Kd.R (Kd.int .i64) 3 (((w11.setCell ⟨gb490, 0, none⟩ (.int .i64 t482)).setCell ⟨gb490, 1, none⟩ (.slice Ao17 t483.length co17)).setCell ⟨gb490, 2, none⟩ (.slice Ao18 t486.length co18)) w.heap.size (fun _ => True) (.slice Ao17 t483.length co17) t483) := ⟨by (with_reducible repeat (first | apply Kd.R_alloc | apply Kd.R_drewN | apply Kd.R_drew)); exact Kd.R_mono (Kd.R_far (p := ⟨gb490, 2, none⟩) (Kd.R_far (p := ⟨gb490, 1, none⟩) (Kd.R_far (p := ⟨gb490, 0, none⟩) (Kd.R_types HO485.out BK490.out (by decide)) (fun _ hk => hk.2) (.int .i64 t482)) (fun _ hk => hk.2) (.slice Ao17 t483.length co17)) (fun _ hk => hk.2) (.slice Ao18 t486.length co18)) (fun _ hk => trivial)⟩
 have n1_ : Aside0 (Kd.R (Kd.slice 91 k91) 56 (((w11.setCell ⟨gb490, 0, none⟩ (.int .i64 t482)).setCell ⟨gb490, 1, none⟩ (.slice Ao17 t483.length co17)).setCell ⟨gb490, 2, none⟩ (.slice Ao18 t486.length co18)) w.heap.size (fun _ => True) (.slice Ao18 t486.length co18) t486) := ⟨by (with_reducible repeat (first | apply Kd.R_alloc | apply Kd.R_drewN | apply Kd.R_drew)); exact Kd.R_mono (Kd.R_far (p := ⟨gb490, 2, none⟩) (Kd.R_far (p := ⟨gb490, 1, none⟩) (Kd.R_far (p := ⟨gb490, 0, none⟩) (Kd.R_types HO488.out BK490.out (by decide)) (fun _ hk => hk.2) (.int .i64 t482)) (fun _ hk => hk.2) (.slice Ao17 t483.length co17)) (fun _ hk => hk.2) (.slice Ao18 t486.length co18)) (fun _ hk => trivial)⟩
 have n2_ : Aside0 ((((w11.setCell ⟨gb490, 0, none⟩ (.int .i64 t482)).setCell ⟨gb490, 1, none⟩ (.slice Ao17 t483.length co17)).setCell ⟨gb490, 2, none⟩ (.slice Ao18 t486.length co18)).heap[gb476]? = some (.cells #[.int .i64 0, .slice none 0 0, .slice none 0 0] 46 (0, 0))) := ⟨by (with_reducible repeat (first | refine blk_drewN ?_ _ | refine blk_drew ?_ | refine blk_alloc ?_ _)); refine blk_far ?_ NB476_490.out _; (with_reducible repeat (first | refine blk_drewN ?_ _ | refine blk_drew ?_ | refine blk_alloc ?_ _)); refine blk_far ?_ NB476_490.out _; (with_reducible repeat (first | refine blk_drewN ?_ _ | refine blk_drew ?_ | refine blk_alloc ?_ _)); refine blk_far ?_ NB476_490.out _; (with_reducible repeat (first | refine blk_drewN ?_ _ | refine blk_drew ?_ | refine blk_alloc ?_ _)); exact BK476.out⟩
 have n3_ : Aside0 ((((w11.setCell ⟨gb490, 0, none⟩ (.int .i64 t482)).setCell ⟨gb490, 1, none⟩ (.slice Ao17 t483.length co17)).setCell ⟨gb490, 2, none⟩ (.slice Ao18 t486.length co18)).heap[gb477]? = some (.cells #[.int .i64 0, .int .i64 0, .int .i64 0] 48 (0, 0))) := ⟨by (with_reducible repeat (first | refine blk_drewN ?_ _ | refine blk_drew ?_ | refine blk_alloc ?_ _)); refine blk_far ?_ NB477_490.out _; (with_reducible repeat (first | refine blk_drewN ?_ _ | refine blk_drew ?_ | refine blk_alloc ?_ _)); refine blk_far ?_ NB477_490.out _; (with_reducible repeat (first | refine blk_drewN ?_ _ | refine blk_drew ?_ | refine blk_alloc ?_ _)); refine blk_far ?_ NB477_490.out _; (with_reducible repeat (first | refine blk_drewN ?_ _ | refine blk_drew ?_ | refine blk_alloc ?_ _)); exact BK477.out⟩
 have n4_ : Aside0 ((((w11.setCell ⟨gb490, 0, none⟩ (.int .i64 t482)).setCell ⟨gb490, 1, none⟩ (.slice Ao17 t483.length co17)).setCell ⟨gb490, 2, none⟩ (.slice Ao18 t486.length co18)).heap[gb478]? = some (.cells #[.int .i64 0, .int .i64 0, .int .i64 0] 48 (0, 0))) := ⟨by (with_reducible repeat (first | refine blk_drewN ?_ _ | refine blk_drew ?_ | refine blk_alloc ?_ _)); refine blk_far ?_ NB478_490.out _; (with_reducible repeat (first | refine blk_drewN ?_ _ | refine blk_drew ?_ | refine blk_alloc ?_ _)); refine blk_far ?_ NB478_490.out _; (with_reducible repeat (first | refine blk_drewN ?_ _ | refine blk_drew ?_ | refine blk_alloc ?_ _)); refine blk_far ?_ NB478_490.out _; (with_reducible repeat (first | refine blk_drewN ?_ _ | refine blk_drew ?_ | refine blk_alloc ?_ _)); exact BK478.out⟩
 have n5_ : Aside0 ((((w11.setCell ⟨gb490, 0, none⟩ (.int .i64 t482)).setCell ⟨gb490, 1, none⟩ (.slice Ao17 t483.length co17)).setCell ⟨gb490, 2, none⟩ (.slice Ao18 t486.length co18)).heap[gb490]? = some (.cells #[.int .i64 t482, .slice Ao17 t483.length co17, .slice Ao18 t486.length co18] 46 (0, 0))) := ⟨by (with_reducible repeat (first | refine blk_drewN ?_ _ | refine blk_drew ?_ | refine blk_alloc ?_ _)); refine blk_put (cs := #[.int .i64 t482, .slice Ao17 t483.length co17, .slice none 0 0]) ?_ 2 _ rfl; (with_reducible repeat (first | refine blk_drewN ?_ _ | refine blk_drew ?_ | refine blk_alloc ?_ _)); refine blk_put (cs := #[.int .i64 t482, .slice none 0 0, .slice none 0 0]) ?_ 1 _ rfl; (with_reducible repeat (first | refine blk_drewN ?_ _ | refine blk_drew ?_ | refine blk_alloc ?_ _)); refine blk_put (cs := #[.int .i64 0, .slice none 0 0, .slice none 0 0]) ?_ 0 _ rfl; (with_reducible repeat (first | refine blk_drewN ?_ _ | refine blk_drew ?_ | refine blk_alloc ?_ _)); exact BK490.out⟩
 have n6_ : Aside0 (IsS106 w (((w11.setCell ⟨gb490, 0, none⟩ (.int .i64 t482)).setCell ⟨gb490, 1, none⟩ (.slice Ao17 t483.length co17)).setCell ⟨gb490, 2, none⟩ (.slice Ao18 t486.length co18)) g481 t479 t489) := ⟨by repeat (first | (with_reducible first | exact HI481.out | apply IsS106.alloc | apply IsS106.drewN | apply IsS106.drew | apply IsS106.set_1 | refine IsS106.far ?_ NB481_476.out _ | refine IsS106.far ?_ NB481_477.out _ | refine IsS106.far ?_ NB481_478.out _ | refine IsS106.far ?_ NB481_490.out _) | exact HI481.out)⟩
 have n7_ : Aside0 (Below w.heap.size w (((w11.setCell ⟨gb490, 0, none⟩ (.int .i64 t482)).setCell ⟨gb490, 1, none⟩ (.slice Ao17 t483.length co17)).setCell ⟨gb490, 2, none⟩ (.slice Ao18 t486.length co18))) := ⟨by repeat (first | (with_reducible first | exact HB.out | apply below_alloc | apply pw_below_drewN | apply below_drew1 | refine below_set ?_ (IsS106.ge HI481.out) | refine below_set ?_ GE476.out | refine below_set ?_ GE477.out | refine below_set ?_ GE478.out | refine below_set ?_ GE490.out) | exact HB.out)⟩
 (try clear HO485)
 (try clear HO488)
 (try clear BK476)
 (try clear BK477)
 (try clear BK478)
 (try clear BK490)
 (try clear HI481)
 (try clear HB)
 generalize (((w11.setCell ⟨gb490, 0, none⟩ (.int .i64 t482)).setCell ⟨gb490, 1, none⟩ (.slice Ao17 t483.length co17)).setCell ⟨gb490, 2, none⟩ (.slice Ao18 t486.length co18)) = w19 at n0_ n1_ n2_ n3_ n4_ n5_ n6_ n7_ ⊢
 have HO485 := n0_
 have HO488 := n1_
 have BK476 := n2_
 have BK477 := n3_
 have BK478 := n4_
 have BK490 := n5_
 have HI481 := n6_
 have HB := n7_
 clear n0_ n1_ n2_ n3_ n4_ n5_ n6_ n7_
 replace HO485 := Aside0.mk (Kd.R_drew HO485.out)
 replace HO488 := Aside0.mk (Kd.R_drew HO488.out)
 replace BK476 := Aside0.mk (blk_drew BK476.out)
 replace BK477 := Aside0.mk (blk_drew BK477.out)
 replace BK478 := Aside0.mk (blk_drew BK478.out)
 replace BK490 := Aside0.mk (blk_drew BK490.out)
 replace HI481 := Aside0.mk (IsS106.drew HI481.out)
 replace HB := Aside0.mk (below_drew1 HB.out)
 refine start_ (n := 10) (S := fun w' => w'.cell? ⟨gb490, 0, none⟩ = some (.int .i64 t482) ∧ w'.cell? ⟨gb490, 1, none⟩ = some (.slice Ao17 t483.length co17) ∧ w'.cell? ⟨gb490, 2, none⟩ = some (.slice Ao18 t486.length co18)) (ds := []) #[false, false, false, false, false, false, false, false, false, false] (by kernel_rfl) rfl rfl ⟨(blk_cell BK490.out 0).trans rfl, (blk_cell BK490.out 1).trans rfl, (blk_cell BK490.out 2).trans rfl⟩ (fun hHeld => ?_); refine with_tabW spec_DrawApartOk.tab3 spec_DrawApartOk.bits3 (fun HT_ HW_ => ?_)
 generalize w19.drew = w20 at HO485 HO488 BK476 BK477 BK478 BK490 HI481 HB hHeld ⊢
 refine Z.pv 1 12 10 2 HT_.out ?_
 refine Z.pv 4 15 10 18 HT_.out ?_
 refine Z.t3 0 11 10 19 HT_.out HW_.out hHeld ?_
 refine Z.t3 2 13 10 23 HT_.out HW_.out hHeld ?_
 refine Z.t3 5 16 10 55 HT_.out HW_.out hHeld ?_
 refine one_ (i := 3) (N := some 14) (Z.mb 10 63) rfl rfl (one_of HT_.out (by kernel_rfl)) (by decide) (fun K hK => ?_)
 refine goes_ Try.func66 (by kernel_rfl) rfl #[.pointer (some ⟨g481, 0, none⟩), .agg #[.int .i64 t482, .slice Ao17 t483.length co17, .slice Ao18 t486.length co18]] (by rfl) rfl rfl Z.ar ?_
 with_reducible refine (spec_l20Act.calls k g481 t479 t489 t482 _ _ t483 _ _ t486 t491 t492 t493 t494 w _ ?q1 ?q2 ?q3 ?q4 ?q5 ?q6 ?q7 A4.out).mono ?_
 (case q1 => repeat (first | (with_reducible first | exact HI481.out | apply IsS106.alloc | apply IsS106.drewN | apply IsS106.drew | apply IsS106.set_1 | refine IsS106.far ?_ NB481_476.out _ | refine IsS106.far ?_ NB481_477.out _ | refine IsS106.far ?_ NB481_478.out _ | refine IsS106.far ?_ NB481_490.out _) | exact HI481.out))
 (case q2 => repeat (first | (with_reducible first | exact HB.out | apply below_alloc | apply pw_below_drewN | apply below_drew1 | refine below_set ?_ (IsS106.ge HI481.out) | refine below_set ?_ GE476.out | refine below_set ?_ GE477.out | refine below_set ?_ GE478.out | refine below_set ?_ GE490.out) | exact HB.out))
 (case q3 => repeat (first | exact (Kd.R_reads' HO485.out).2.2 | (with_reducible refine Kd.C_alloc ?_ _) | (with_reducible refine Kd.C_drewN ?_ _) | (with_reducible refine Kd.C_drew ?_)))
 (case q4 => exact (Kd.R_reads' HO485.out).2.1)
 (case q5 => exact far_slice (IsS106.own_ne HI481.out HO485.out (by decide)))
 (case q6 => exact Kd.C_foot_own (IsS106.apart (show IsS106 w _ g481 t479 t489 from by repeat (first | (with_reducible first | exact HI481.out | apply IsS106.alloc | apply IsS106.drewN | apply IsS106.drew | apply IsS106.set_1 | refine IsS106.far ?_ NB481_476.out _ | refine IsS106.far ?_ NB481_477.out _ | refine IsS106.far ?_ NB481_478.out _ | refine IsS106.far ?_ NB481_490.out _) | exact HI481.out)) (by (with_reducible repeat (first | apply Kd.R_alloc | apply Kd.R_drewN | apply Kd.R_drew)); exact HO488.out) (by decide)) (fun _ h_ => h_.2))
 (case q7 => exact (Kd.R_reads' HO488.out).2.1)
 rintro e w21 ⟨rfl, hi, hb, hk⟩
 refine ⟨_, rfl, ?_⟩
 replace BK476 := Aside0.mk (KeepBut.blk hk (g' := gb476) (o := .cells #[.int .i64 0, .slice none 0 0, .slice none 0 0] 46 (0, 0)) (Z.bk BK476.out) NB476_481.out (by simp))
 replace BK477 := Aside0.mk (KeepBut.blk hk (g' := gb477) (o := .cells #[.int .i64 0, .int .i64 0, .int .i64 0] 48 (0, 0)) (Z.bk BK477.out) NB477_481.out (by simp))
 replace BK478 := Aside0.mk (KeepBut.blk hk (g' := gb478) (o := .cells #[.int .i64 0, .int .i64 0, .int .i64 0] 48 (0, 0)) (Z.bk BK478.out) NB478_481.out (by simp))
 replace HO485 := Aside0.mk (Kd.R_mono (Kd.R_keep (IsS106.apart (show IsS106 w _ g481 t479 t489 from by repeat (first | (with_reducible first | exact HI481.out | apply IsS106.alloc | apply IsS106.drewN | apply IsS106.drew | apply IsS106.set_1 | refine IsS106.far ?_ NB481_476.out _ | refine IsS106.far ?_ NB481_477.out _ | refine IsS106.far ?_ NB481_478.out _ | refine IsS106.far ?_ NB481_490.out _) | exact HI481.out)) (by (with_reducible repeat (first | apply Kd.R_alloc | apply Kd.R_drewN | apply Kd.R_drew)); exact HO485.out) (by decide)) hk (fun _ h => h.2)) (fun _ h => h.1))
 replace HO488 := Aside0.mk (Kd.R_mono (Kd.R_keep (IsS106.apart (show IsS106 w _ g481 t479 t489 from by repeat (first | (with_reducible first | exact HI481.out | apply IsS106.alloc | apply IsS106.drewN | apply IsS106.drew | apply IsS106.set_1 | refine IsS106.far ?_ NB481_476.out _ | refine IsS106.far ?_ NB481_477.out _ | refine IsS106.far ?_ NB481_478.out _ | refine IsS106.far ?_ NB481_490.out _) | exact HI481.out)) (by (with_reducible repeat (first | apply Kd.R_alloc | apply Kd.R_drewN | apply Kd.R_drew)); exact HO488.out) (by decide)) hk (fun _ h => h.2)) (fun _ h => h.1))
 replace BK490 := Aside0.mk (KeepBut.blk hk (g' := gb490) (o := .cells #[.int .i64 t482, .slice Ao17 t483.length co17, .slice Ao18 t486.length co18] 46 (0, 0)) (Z.bk BK490.out) NB490_481.out (by simp))
 replace HB := Aside0.mk (hb)
 replace HI481 := Aside0.mk (hi)
 (try clear hb)
 (try clear hb2)
 (try clear hk)
 (try clear hi)
 refine hK.out _ _ ⟨(blk_cell BK490.out 0).trans rfl, (blk_cell BK490.out 1).trans rfl, (blk_cell BK490.out 2).trans rfl⟩ (fun hHeld => ?_)
 clear hK K
 refine Z.nm ?_
 refine one_ (i := 6) (N := some 17) (Z.mb 10 127) rfl rfl (one_of HT_.out (by kernel_rfl)) (by decide) (fun K hK => ?_)
 refine goes_ Try.func66 (by kernel_rfl) rfl #[.pointer (some ⟨g481, 0, none⟩), .agg #[.int .i64 t482, .slice Ao17 t483.length co17, .slice Ao18 t486.length co18]] (by rfl) rfl rfl Z.ar ?_
 with_reducible refine (spec_l20Act.calls k g481 t479 t494 t482 _ _ t483 _ _ t486 t495 t496 t497 t498 w _ ?q1 ?q2 ?q3 ?q4 ?q5 ?q6 ?q7 A5.out).mono ?_
 (case q1 => repeat (first | (with_reducible first | exact HI481.out | apply IsS106.alloc | apply IsS106.drewN | apply IsS106.drew | apply IsS106.set_1 | refine IsS106.far ?_ NB481_476.out _ | refine IsS106.far ?_ NB481_477.out _ | refine IsS106.far ?_ NB481_478.out _ | refine IsS106.far ?_ NB481_490.out _) | exact HI481.out))
 (case q2 => repeat (first | (with_reducible first | exact HB.out | apply below_alloc | apply pw_below_drewN | apply below_drew1 | refine below_set ?_ (IsS106.ge HI481.out) | refine below_set ?_ GE476.out | refine below_set ?_ GE477.out | refine below_set ?_ GE478.out | refine below_set ?_ GE490.out) | exact HB.out))
 (case q3 => repeat (first | exact (Kd.R_reads' HO485.out).2.2 | (with_reducible refine Kd.C_alloc ?_ _) | (with_reducible refine Kd.C_drewN ?_ _) | (with_reducible refine Kd.C_drew ?_)))
 (case q4 => exact (Kd.R_reads' HO485.out).2.1)
 (case q5 => exact far_slice (IsS106.own_ne HI481.out HO485.out (by decide)))
 (case q6 => exact Kd.C_foot_own (IsS106.apart (show IsS106 w _ g481 t479 t494 from by repeat (first | (with_reducible first | exact HI481.out | apply IsS106.alloc | apply IsS106.drewN | apply IsS106.drew | apply IsS106.set_1 | refine IsS106.far ?_ NB481_476.out _ | refine IsS106.far ?_ NB481_477.out _ | refine IsS106.far ?_ NB481_478.out _ | refine IsS106.far ?_ NB481_490.out _) | exact HI481.out)) (by (with_reducible repeat (first | apply Kd.R_alloc | apply Kd.R_drewN | apply Kd.R_drew)); exact HO488.out) (by decide)) (fun _ h_ => h_.2))
 (case q7 => exact (Kd.R_reads' HO488.out).2.1)
 rintro e w22 ⟨rfl, hi, hb, hk⟩
 refine ⟨_, rfl, ?_⟩
 replace BK476 := Aside0.mk (KeepBut.blk hk (g' := gb476) (o := .cells #[.int .i64 0, .slice none 0 0, .slice none 0 0] 46 (0, 0)) (Z.bk BK476.out) NB476_481.out (by simp))
 replace BK477 := Aside0.mk (KeepBut.blk hk (g' := gb477) (o := .cells #[.int .i64 0, .int .i64 0, .int .i64 0] 48 (0, 0)) (Z.bk BK477.out) NB477_481.out (by simp))
 replace BK478 := Aside0.mk (KeepBut.blk hk (g' := gb478) (o := .cells #[.int .i64 0, .int .i64 0, .int .i64 0] 48 (0, 0)) (Z.bk BK478.out) NB478_481.out (by simp))
 replace HO485 := Aside0.mk (Kd.R_mono (Kd.R_keep (IsS106.apart (show IsS106 w _ g481 t479 t494 from by repeat (first | (with_reducible first | exact HI481.out | apply IsS106.alloc | apply IsS106.drewN | apply IsS106.drew | apply IsS106.set_1 | refine IsS106.far ?_ NB481_476.out _ | refine IsS106.far ?_ NB481_477.out _ | refine IsS106.far ?_ NB481_478.out _ | refine IsS106.far ?_ NB481_490.out _) | exact HI481.out)) (by (with_reducible repeat (first | apply Kd.R_alloc | apply Kd.R_drewN | apply Kd.R_drew)); exact HO485.out) (by decide)) hk (fun _ h => h.2)) (fun _ h => h.1))
 replace HO488 := Aside0.mk (Kd.R_mono (Kd.R_keep (IsS106.apart (show IsS106 w _ g481 t479 t494 from by repeat (first | (with_reducible first | exact HI481.out | apply IsS106.alloc | apply IsS106.drewN | apply IsS106.drew | apply IsS106.set_1 | refine IsS106.far ?_ NB481_476.out _ | refine IsS106.far ?_ NB481_477.out _ | refine IsS106.far ?_ NB481_478.out _ | refine IsS106.far ?_ NB481_490.out _) | exact HI481.out)) (by (with_reducible repeat (first | apply Kd.R_alloc | apply Kd.R_drewN | apply Kd.R_drew)); exact HO488.out) (by decide)) hk (fun _ h => h.2)) (fun _ h => h.1))
 replace BK490 := Aside0.mk (KeepBut.blk hk (g' := gb490) (o := .cells #[.int .i64 t482, .slice Ao17 t483.length co17, .slice Ao18 t486.length co18] 46 (0, 0)) (Z.bk BK490.out) NB490_481.out (by simp))
 replace HB := Aside0.mk (hb)
 replace HI481 := Aside0.mk (hi)
 (try clear hb)
 (try clear hb2)
 (try clear hk)
 (try clear hi)
 refine hK.out _ _ ⟨(blk_cell BK490.out 0).trans rfl, (blk_cell BK490.out 1).trans rfl, (blk_cell BK490.out 2).trans rfl⟩ (fun hHeld => ?_)
 clear hK K
 refine Z.nm ?_
 refine one_ (i := 7) (N := none) #[true, true, true, true, true, true, true, true, false, false] rfl rfl (one_of HT_.out (by kernel_rfl)) (by decide) (fun K hK => ?_)
 have hs23 : w22.cell? ⟨gb476, 0, none⟩ = some (.int .i64 0) := (blk_cell BK476.out 0).trans rfl
 have hfs23 := blk_frozen BK476.out 0
 have hns23_1 := NB477_476.out
 have hns23_2 := NB478_476.out
 have hns23_3 := NB490_476.out
 have hms23_1 := NB476_477.out
 have hms23_2 := NB476_478.out
 have hms23_3 := NB476_490.out
 have hs24 : w22.cell? ⟨gb476, 1, none⟩ = some (.slice none 0 0) := (blk_cell BK476.out 1).trans rfl
 have hfs24 := blk_frozen BK476.out 1
 have hns24_1 := NB477_476.out
 have hns24_2 := NB478_476.out
 have hns24_3 := NB490_476.out
 have hms24_1 := NB476_477.out
 have hms24_2 := NB476_478.out
 have hms24_3 := NB476_490.out
 have hs25 : w22.cell? ⟨gb476, 2, none⟩ = some (.slice none 0 0) := (blk_cell BK476.out 2).trans rfl
 have hfs25 := blk_frozen BK476.out 2
 have hns25_1 := NB477_476.out
 have hns25_2 := NB478_476.out
 have hns25_3 := NB490_476.out
 have hms25_1 := NB476_477.out
 have hms25_2 := NB476_478.out
 have hms25_3 := NB476_490.out
 refine skip_ (w1 := ?_) (by rfl) rfl ?_ ?_
 rotate_left
 ·go_simp
  rfl
 refine hK.out _ _ ⟨(Z.f3 NB490_476.out (hHeld.1)), (Z.f3 NB490_476.out (hHeld.2.1)), (Z.f3 NB490_476.out (hHeld.2.2))⟩ (fun hHeld => ?_)
 clear hK K
 refine one_ (i := 8) (N := none) #[true, true, true, true, true, true, true, true, true, false] rfl rfl (one_of HT_.out (by kernel_rfl)) (by decide) (fun K hK => ?_)
 have hs26 : w22.cell? ⟨gb477, 0, none⟩ = some (.int .i64 0) := (blk_cell BK477.out 0).trans rfl
 have hfs26 := blk_frozen BK477.out 0
 have hns26_0 := NB476_477.out
 have hns26_2 := NB478_477.out
 have hns26_3 := NB490_477.out
 have hms26_0 := NB477_476.out
 have hms26_2 := NB477_478.out
 have hms26_3 := NB477_490.out
 have hs27 : w22.cell? ⟨gb477, 1, none⟩ = some (.int .i64 0) := (blk_cell BK477.out 1).trans rfl
 have hfs27 := blk_frozen BK477.out 1
 have hns27_0 := NB476_477.out
 have hns27_2 := NB478_477.out
 have hns27_3 := NB490_477.out
 have hms27_0 := NB477_476.out
 have hms27_2 := NB477_478.out
 have hms27_3 := NB477_490.out
 have hs28 : w22.cell? ⟨gb477, 2, none⟩ = some (.int .i64 0) := (blk_cell BK477.out 2).trans rfl
 have hfs28 := blk_frozen BK477.out 2
 have hns28_0 := NB476_477.out
 have hns28_2 := NB478_477.out
 have hns28_3 := NB490_477.out
 have hms28_0 := NB477_476.out
 have hms28_2 := NB477_478.out
 have hms28_3 := NB477_490.out
 refine skip_ (w1 := ?_) (by rfl) rfl ?_ ?_
 rotate_left
 ·go_simp
  rfl
 refine hK.out _ _ ⟨(Z.f3 NB490_477.out (hHeld.1)), (Z.f3 NB490_477.out (hHeld.2.1)), (Z.f3 NB490_477.out (hHeld.2.2))⟩ (fun hHeld => ?_)
 clear hK K
 refine one_ (i := 9) (N := none) #[true, true, true, true, true, true, true, true, true, true] rfl rfl (one_of HT_.out (by kernel_rfl)) (by decide) (fun K hK => ?_)
 have hs29 : w22.cell? ⟨gb478, 0, none⟩ = some (.int .i64 0) := (blk_cell BK478.out 0).trans rfl
 have hfs29 := blk_frozen BK478.out 0
 have hns29_0 := NB476_478.out
 have hns29_1 := NB477_478.out
 have hns29_3 := NB490_478.out
 have hms29_0 := NB478_476.out
 have hms29_1 := NB478_477.out
 have hms29_3 := NB478_490.out
 have hs30 : w22.cell? ⟨gb478, 1, none⟩ = some (.int .i64 0) := (blk_cell BK478.out 1).trans rfl
 have hfs30 := blk_frozen BK478.out 1
 have hns30_0 := NB476_478.out
 have hns30_1 := NB477_478.out
 have hns30_3 := NB490_478.out
 have hms30_0 := NB478_476.out
 have hms30_1 := NB478_477.out
 have hms30_3 := NB478_490.out
 have hs31 : w22.cell? ⟨gb478, 2, none⟩ = some (.int .i64 0) := (blk_cell BK478.out 2).trans rfl
 have hfs31 := blk_frozen BK478.out 2
 have hns31_0 := NB476_478.out
 have hns31_1 := NB477_478.out
 have hns31_3 := NB490_478.out
 have hms31_0 := NB478_476.out
 have hms31_1 := NB478_477.out
 have hms31_3 := NB478_490.out
 refine skip_ (w1 := ?_) (by rfl) rfl ?_ ?_
 rotate_left
 ·go_simp
  rfl
 refine hK.out _ _ ⟨(Z.f3 NB490_478.out (hHeld.1)), (Z.f3 NB490_478.out (hHeld.2.1)), (Z.f3 NB490_478.out (hHeld.2.2))⟩ (fun hHeld => ?_)
 clear hK K
 refine done_ (done_of HT_.out (by kernel_rfl)) ?_
 try go_wp2
 refine bodyPost_ret (results_list (rs := [.cell 2 46, .cell 3 48, .cell 4 48]) rfl (by simp) (.cell gb476 46 #[.int .i64 t482, .slice Ao17 t483.length co17, .slice Ao18 t486.length co18] (0, 0) _ rfl (by (with_reducible repeat (first | refine blk_drewN ?_ _ | refine blk_drew ?_ | refine blk_alloc ?_ _)); refine blk_far ?_ NB476_478.out _; (with_reducible repeat (first | refine blk_drewN ?_ _ | refine blk_drew ?_ | refine blk_alloc ?_ _)); refine blk_far ?_ NB476_478.out _; (with_reducible repeat (first | refine blk_drewN ?_ _ | refine blk_drew ?_ | refine blk_alloc ?_ _)); refine blk_far ?_ NB476_478.out _; (with_reducible repeat (first | refine blk_drewN ?_ _ | refine blk_drew ?_ | refine blk_alloc ?_ _)); refine blk_far ?_ NB476_477.out _; (with_reducible repeat (first | refine blk_drewN ?_ _ | refine blk_drew ?_ | refine blk_alloc ?_ _)); refine blk_far ?_ NB476_477.out _; (with_reducible repeat (first | refine blk_drewN ?_ _ | refine blk_drew ?_ | refine blk_alloc ?_ _)); refine blk_far ?_ NB476_477.out _; (with_reducible repeat (first | refine blk_drewN ?_ _ | refine blk_drew ?_ | refine blk_alloc ?_ _)); refine blk_put (cs := #[.int .i64 t482, .slice Ao17 t483.length co17, .slice none 0 0]) ?_ 2 _ rfl; (with_reducible repeat (first | refine blk_drewN ?_ _ | refine blk_drew ?_ | refine blk_alloc ?_ _)); refine blk_put (cs := #[.int .i64 t482, .slice none 0 0, .slice none 0 0]) ?_ 1 _ rfl; (with_reducible repeat (first | refine blk_drewN ?_ _ | refine blk_drew ?_ | refine blk_alloc ?_ _)); refine blk_put (cs := #[.int .i64 0, .slice none 0 0, .slice none 0 0]) ?_ 0 _ rfl; (with_reducible repeat (first | refine blk_drewN ?_ _ | refine blk_drew ?_ | refine blk_alloc ?_ _)); exact BK476.out) Try.underlying46 rfl (by kernel_rfl) (.cell gb477 48 #[.int .i64 t491, .int .i64 t492, .int .i64 t493] (0, 0) _ rfl (by (with_reducible repeat (first | refine blk_drewN ?_ _ | refine blk_drew ?_ | refine blk_alloc ?_ _)); refine blk_far ?_ NB477_478.out _; (with_reducible repeat (first | refine blk_drewN ?_ _ | refine blk_drew ?_ | refine blk_alloc ?_ _)); refine blk_far ?_ NB477_478.out _; (with_reducible repeat (first | refine blk_drewN ?_ _ | refine blk_drew ?_ | refine blk_alloc ?_ _)); refine blk_far ?_ NB477_478.out _; (with_reducible repeat (first | refine blk_drewN ?_ _ | refine blk_drew ?_ | refine blk_alloc ?_ _)); refine blk_put (cs := #[.int .i64 t491, .int .i64 t492, .int .i64 0]) ?_ 2 _ rfl; (with_reducible repeat (first | refine blk_drewN ?_ _ | refine blk_drew ?_ | refine blk_alloc ?_ _)); refine blk_put (cs := #[.int .i64 t491, .int .i64 0, .int .i64 0]) ?_ 1 _ rfl; (with_reducible repeat (first | refine blk_drewN ?_ _ | refine blk_drew ?_ | refine blk_alloc ?_ _)); refine blk_put (cs := #[.int .i64 0, .int .i64 0, .int .i64 0]) ?_ 0 _ rfl; (with_reducible repeat (first | refine blk_drewN ?_ _ | refine blk_drew ?_ | refine blk_alloc ?_ _)); refine blk_far ?_ NB477_476.out _; (with_reducible repeat (first | refine blk_drewN ?_ _ | refine blk_drew ?_ | refine blk_alloc ?_ _)); refine blk_far ?_ NB477_476.out _; (with_reducible repeat (first | refine blk_drewN ?_ _ | refine blk_drew ?_ | refine blk_alloc ?_ _)); refine blk_far ?_ NB477_476.out _; (with_reducible repeat (first | refine blk_drewN ?_ _ | refine blk_drew ?_ | refine blk_alloc ?_ _)); exact BK477.out) Try.underlying48 rfl (by kernel_rfl) (.cell gb478 48 #[.int .i64 t495, .int .i64 t496, .int .i64 t497] (0, 0) _ rfl (by (with_reducible repeat (first | refine blk_drewN ?_ _ | refine blk_drew ?_ | refine blk_alloc ?_ _)); refine blk_put (cs := #[.int .i64 t495, .int .i64 t496, .int .i64 0]) ?_ 2 _ rfl; (with_reducible repeat (first | refine blk_drewN ?_ _ | refine blk_drew ?_ | refine blk_alloc ?_ _)); refine blk_put (cs := #[.int .i64 t495, .int .i64 0, .int .i64 0]) ?_ 1 _ rfl; (with_reducible repeat (first | refine blk_drewN ?_ _ | refine blk_drew ?_ | refine blk_alloc ?_ _)); refine blk_put (cs := #[.int .i64 0, .int .i64 0, .int .i64 0]) ?_ 0 _ rfl; (with_reducible repeat (first | refine blk_drewN ?_ _ | refine blk_drew ?_ | refine blk_alloc ?_ _)); refine blk_far ?_ NB478_477.out _; (with_reducible repeat (first | refine blk_drewN ?_ _ | refine blk_drew ?_ | refine blk_alloc ?_ _)); refine blk_far ?_ NB478_477.out _; (with_reducible repeat (first | refine blk_drewN ?_ _ | refine blk_drew ?_ | refine blk_alloc ?_ _)); refine blk_far ?_ NB478_477.out _; (with_reducible repeat (first | refine blk_drewN ?_ _ | refine blk_drew ?_ | refine blk_alloc ?_ _)); refine blk_far ?_ NB478_476.out _; (with_reducible repeat (first | refine blk_drewN ?_ _ | refine blk_drew ?_ | refine blk_alloc ?_ _)); refine blk_far ?_ NB478_476.out _; (with_reducible repeat (first | refine blk_drewN ?_ _ | refine blk_drew ?_ | refine blk_alloc ?_ _)); refine blk_far ?_ NB478_476.out _; (with_reducible repeat (first | refine blk_drewN ?_ _ | refine blk_drew ?_ | refine blk_alloc ?_ _)); exact BK478.out) Try.underlying48 rfl (by kernel_rfl) .nil)))) rfl ?_
 exact ⟨_, _, by first | rfl | (simp [errW_none, errW_some] <;> rfl) | (simp [*, errW_none, errW_some] <;> rfl), by (with_reducible repeat (first | apply Kd.R_alloc | apply Kd.R_drewN | apply Kd.R_drew)); exact Kd.R_mono (Kd.R_far (p := ⟨gb478, 2, none⟩) (Kd.R_far (p := ⟨gb478, 1, none⟩) (Kd.R_far (p := ⟨gb478, 0, none⟩) (Kd.R_far (p := ⟨gb477, 2, none⟩) (Kd.R_far (p := ⟨gb477, 1, none⟩) (Kd.R_far (p := ⟨gb477, 0, none⟩) (Kd.R_far (p := ⟨gb476, 2, none⟩) (Kd.R_far (p := ⟨gb476, 1, none⟩) (Kd.R_far (p := ⟨gb476, 0, none⟩) (Kd.R_types (Kd.R_types (Kd.R_types HO485.out BK476.out (by decide)) BK477.out (by decide)) BK478.out (by decide)) (fun _ hk => hk.1.1.2) (.int .i64 t482)) (fun _ hk => hk.1.1.2) (.slice Ao17 t483.length co17)) (fun _ hk => hk.1.1.2) (.slice Ao18 t486.length co18)) (fun _ hk => hk.1.2) (.int .i64 t491)) (fun _ hk => hk.1.2) (.int .i64 t492)) (fun _ hk => hk.1.2) (.int .i64 t493)) (fun _ hk => hk.2) (.int .i64 t495)) (fun _ hk => hk.2) (.int .i64 t496)) (fun _ hk => hk.2) (.int .i64 t497)) (fun _ hk => trivial), by (with_reducible repeat (first | apply Kd.R_alloc | apply Kd.R_drewN | apply Kd.R_drew)); exact Kd.R_mono (Kd.R_far (p := ⟨gb478, 2, none⟩) (Kd.R_far (p := ⟨gb478, 1, none⟩) (Kd.R_far (p := ⟨gb478, 0, none⟩) (Kd.R_far (p := ⟨gb477, 2, none⟩) (Kd.R_far (p := ⟨gb477, 1, none⟩) (Kd.R_far (p := ⟨gb477, 0, none⟩) (Kd.R_far (p := ⟨gb476, 2, none⟩) (Kd.R_far (p := ⟨gb476, 1, none⟩) (Kd.R_far (p := ⟨gb476, 0, none⟩) (Kd.R_types (Kd.R_types (Kd.R_types HO488.out BK476.out (by decide)) BK477.out (by decide)) BK478.out (by decide)) (fun _ hk => hk.1.1.2) (.int .i64 t482)) (fun _ hk => hk.1.1.2) (.slice Ao17 t483.length co17)) (fun _ hk => hk.1.1.2) (.slice Ao18 t486.length co18)) (fun _ hk => hk.1.2) (.int .i64 t491)) (fun _ hk => hk.1.2) (.int .i64 t492)) (fun _ hk => hk.1.2) (.int .i64 t493)) (fun _ hk => hk.2) (.int .i64 t495)) (fun _ hk => hk.2) (.int .i64 t496)) (fun _ hk => hk.2) (.int .i64 t497)) (fun _ hk => trivial), by repeat (first | (with_reducible first | exact HB.out | apply below_alloc | apply pw_below_drewN | apply below_drew1 | refine below_set ?_ (IsS106.ge HI481.out) | refine below_set ?_ GE476.out | refine below_set ?_ GE477.out | refine below_set ?_ GE478.out | refine below_set ?_ GE490.out) | exact HB.out)⟩

end Go.Proofs.Ytojoblllgddckaa.PAll

/- Walks of functions that laws of this seat reach, in the form of the print. -/
import Derived.Test.YtojoblllgddckaaCAll0
import Derived.Test.YtojoblllgddckaaCAll1
import Derived.Test.YtojoblllgddckaaCAll26
import Derived.Test.YtojoblllgddckaaCAll51
import Derived.Test.YtojoblllgddckaaCAll68
import Derived.Test.YtojoblllgddckaaZ
-- PRINTED
namespace Go.Proofs.Ytojoblllgddckaa.PAll
open Go.RowKit Go.Proofs.YtojoblllgddckaaW.PrintWords Go.Proofs.YtojoblllgddckaaW.PrintLast Go.Proofs.YtojoblllgddckaaW.PrintMore
attribute [local go_sem] max2_int min2_int max_two min_two max_three min_three max_four min_four
set_option linter.unusedVariables false
set_option linter.unusedSimpArgs false

/-! ### spec_DrawFirstVoid: function 32 -/
def spec_DrawFirstVoid.f (k : Nat) (l0 : List Int) : Option (Int × List Int × (List (List (S91))) × List Int × (List (S48))) := (spec_l20Open.f l0).bind fun bt791 => ((spec_l20Acted.f k bt791.1 bt791.2).bind fun bt794 => (if ((l0.length : Int) % 3) > 0 then ((spec_ValidActs.f k bt794.1 bt794.2.1 bt794.2.2.1 bt794.2.2.2.1 bt794.2.2.2.2.1).bind fun t809 => (some (bt794.1, bt794.2.1, bt794.2.2.1, bt794.2.2.2.1, t809))) else (some (bt794.1, bt794.2.1, bt794.2.2.1, bt794.2.2.2.1, bt794.2.2.2.2.1))))
def spec_DrawFirstVoid.T3 : Bool × List (List Nat × List Nat) := (true, [([], []), ([], []), ([], []), ([], []), ([], []), ([2, 3, 4], [2, 3, 4]), ([0, 5, 0], [0]), ([1, 6, 0, 1, 6], [1]), ([5, 7, 0, 1, 2, 3, 4, 5, 6, 7], [5])])
def spec_DrawFirstVoid.B3 : List Nat := [0, 0, 0, 0, 0, 28, 61, 127, 255]
theorem spec_DrawFirstVoid.tab3 : rtab .any (opsOf Try.f32 3) = spec_DrawFirstVoid.T3 := by kernel_rfl
theorem spec_DrawFirstVoid.bits3 : waitsOk spec_DrawFirstVoid.T3.2 spec_DrawFirstVoid.B3 = true := by kernel_rfl
set_option maxHeartbeats 8000000 in
set_option maxRecDepth 100000 in
theorem spec_DrawFirstVoid.calls (k : Nat) (A0 : Option Addr) (c0 : Nat) (l0 : List Int) (r1 : Int) (r2 : List Int) (r3 : List (List (S91))) (r4 : List Int) (r5 : List (S48)) (w : World) (hr0 : Kd.C (Kd.int .u8) w A0 l0.length l0) (hc0 : l0.length ≤ c0) (h : spec_DrawFirstVoid.f k l0 = some (r1, r2, r3, r4, r5)) :
  Calls Try.prog 32 #[.slice A0 l0.length c0] w fun e w' => ∃ v1_ v2_ v3_ v4_ : Value, e = .returned (.tuple #[.agg #[.int .i64 r1, v1_, v2_], v3_, v4_]) ∧ Kd.R (Kd.int .i64) 3 w' w.heap.size (fun k_ => some k_ ≠ (v3_ : Value).ownBlock) v1_ r2 ∧ Kd.R (Kd.slice 91 k91) 56 w' w.heap.size (fun _ => True) v2_ r3 ∧ Kd.R (Kd.int .i64) 3 w' w.heap.size (fun k_ => some k_ ≠ (v1_ : Value).ownBlock) v3_ r4 ∧ Kd.R k48 48 w' w.heap.size (fun _ => True) v4_ r5 ∧ Below w.heap.size w w' := by
 have hu46 := Try.underlying46
 have HR0 := Z.k hr0
 have HC0 := Z.k hc0
 clear hr0 hc0
 have HB := Z.k (Below.refl w.heap.size w)
 have H := h
 clear h
 unfold spec_DrawFirstVoid.f at H
 replace H := Option.bind_eq_some_iff.mp H
 obtain ⟨⟨t791, t792⟩, A20, H⟩ := H
 try dsimp only at H
 have A2 := Z.k A20
 clear A20
 replace H := Option.bind_eq_some_iff.mp H
 obtain ⟨⟨t794, t795, t798, t801, t804, t807⟩, A30, H⟩ := H
 try dsimp only at H
 have A3 := Z.k A30
 clear A30
 by_cases c4 : ((l0.length : Int) % 3) > 0
 ·rw [if_pos c4] at H
  have c4b0 : decide (0 < ((l0.length : Int) % 3)) = true := decide_eq_true c4
  clear c4
  replace H := Option.bind_eq_some_iff.mp H
  obtain ⟨t809, A50, H⟩ := H
  have A5 := Z.k A50
  clear A50
  simp only [Option.some.injEq, Prod.mk.injEq] at H
  obtain ⟨rfl, rfl, rfl, rfl, rfl⟩ := H
  go_enter Try.func32, Try.ntmps32
  try go_wp2_with (first | ((with_reducible refine gate_dst (N := 2) rfl ?_); refine Z.bx #[.int .i64 0, .slice none 0 0, .slice none 0 0] 46 HB ?_; clear HB; intro gb790 w6 BK790 GE790 HB hg hb; have GW790 := GE790; clear hb hg) | ((with_reducible refine gate_callee (f := 49) rfl ?_); refine goesL_ (some 10) rfl rfl Try.func49 (by kernel_rfl) rfl #[.slice A0 l0.length c0] rfl Z.ar ?_; (with_reducible refine (spec_l20Open.calls _ _ l0 t791 t792 w _ ?q1 ?q2 ?q3 A2.out).mono ?_); (case q1 => repeat ((with_reducible exact HB.out))); (case q2 => exact HR0.out); (case q3 => exact HC0.out); rintro e w7 ⟨g793, rfl, hi, hb, hb2⟩; refine ⟨_, rfl, ?_⟩; replace HB := Z.k (hb); have HI793 := Z.k (hi); have NB793_790 := Z.k (IsS106.ne_blk hi (blk_below (g := gb790) (o := .cells #[.int .i64 0, .slice none 0 0, .slice none 0 0] 46 (0, 0)) (Z.bk BK790.out) hb2) (by decide)); have NB790_793 := Z.k (Ne.symm (IsS106.ne_blk hi (blk_below (g := gb790) (o := .cells #[.int .i64 0, .slice none 0 0, .slice none 0 0] 46 (0, 0)) (Z.bk BK790.out) hb2) (by decide))); replace BK790 := Z.k (blk_below (g := gb790) (o := .cells #[.int .i64 0, .slice none 0 0, .slice none 0 0] 46 (0, 0)) (Z.bk BK790.out) hb2); (try clear hb); (try clear hb2); (try clear hi)) | ((with_reducible refine gate_callee (f := 78) rfl ?_); refine goesL_ (some 11) rfl rfl Try.func78 (by kernel_rfl) rfl #[.pointer (some ⟨g793, 0, none⟩)] rfl Z.ar ?_; (with_reducible refine (spec_l20Acted.calls k g793 t791 t792 t794 t795 t798 t801 t804 t807 w _ ?q1 ?q2 A3.out).mono ?_); (case q1 => repeat ((with_reducible exact HI793.out))); (case q2 => repeat ((with_reducible exact HB.out))); rintro e w8 ⟨v796, v799, v802, v805, rfl, ho0, ho1, ho2, ho3, hi, hb, hk⟩; refine ⟨_, rfl, ?_⟩; replace BK790 := Z.k (KeepBut.blk hk (g' := gb790) (o := .cells #[.int .i64 0, .slice none 0 0, .slice none 0 0] 46 (0, 0)) (Z.bk BK790.out) NB790_793.out (by simp)); have HO797 := Z.k (Kd.R_lower ho0 (below_size (by repeat ((with_reducible exact HB.out))))); have HO800 := Z.k (Kd.R_lower ho1 (below_size (by repeat ((with_reducible exact HB.out))))); have HO803 := Z.k (Kd.R_lower ho2 (below_size (by repeat ((with_reducible exact HB.out))))); have HO806 := Z.k (Kd.R_lower ho3 (below_size (by repeat ((with_reducible exact HB.out))))); replace HB := Z.k (hb); replace HI793 := Z.k (hi); (try clear hb); (try clear hk); (try clear hi); (try clear ho0); (try clear ho1); (try clear ho2); (try clear ho3)) | ((with_reducible refine gate_dst (N := 5) rfl ?_); refine box_event ?hg (N := 5) ?hd (cs := #[.int .i64 0, .slice none 0 0, .slice none 0 0]) (t := 46) ?hr ?_; (case hd | hg => rfl); (case hr => (go_simp; done)); intro gb808 hg w9 hbox hb; replace HO797 := Z.k (Kd.R_below (by (with_reducible skip); exact HO797.out) hb); replace HO800 := Z.k (Kd.R_below (by (with_reducible skip); exact HO800.out) hb); replace HO803 := Z.k (Kd.R_below (by (with_reducible skip); exact HO803.out) hb); replace HO806 := Z.k (Kd.R_below (by (with_reducible skip); exact HO806.out) hb); have BK808 := Z.k (hbox); have GW808 := Z.k ((by rw [hg]; exact (below_size (by repeat ((with_reducible exact HB.out)))) : w.heap.size ≤ gb808)); have GE808 := Z.k ((by rw [hg]; exact (below_size (by repeat ((with_reducible exact HB.out)))) : w.heap.size ≤ gb808)); replace HB := Z.k (below_step (by repeat ((with_reducible exact HB.out))) hb); have NB790_808 := Z.nl hg BK790; have NB808_790 := Z.ng hg BK790; replace BK790 := Z.bb BK790 hb; have NB793_808 := Z.k ((by rw [hg]; exact Nat.ne_of_lt (IsS106.lt (show IsS106 w _ g793 t791 t807 from by repeat ((with_reducible exact HI793.out)))) : g793 ≠ gb808)); have NB808_793 := Z.k ((by rw [hg]; exact Nat.ne_of_gt (IsS106.lt (show IsS106 w _ g793 t791 t807 from by repeat ((with_reducible exact HI793.out)))) : gb808 ≠ g793)); replace HI793 := Z.k (IsS106.below (by repeat ((with_reducible exact HI793.out))) hb); clear hb hbox hg; have hnb10 := NB808_790.out; have hnc10 := NB790_808.out; have hnb11 := NB808_793.out; have hnc11 := NB793_808.out; have hcz12 := Z.c3 BK808.out; obtain ⟨Ao13, co13, eo13⟩ := Kd.R_slice HO797.out; subst eo13; obtain ⟨Ao14, co14, eo14⟩ := Kd.R_slice HO800.out; subst eo14))
  have n0_ : Aside0 (Kd.R (Kd.int .i64) 3 (((w9.setCell ⟨gb808, 0, none⟩ (.int .i64 t794)).setCell ⟨gb808, 1, none⟩ (.slice Ao13 t795.length co13)).setCell ⟨gb808, 2, none⟩ (.slice Ao14 t798.length co14)) w.heap.size (fun k_ => some k_ ≠ (v802 : Value).ownBlock) (.slice Ao13 t795.length co13) t795) := ⟨by (with_reducible skip); exact Kd.R_mono (Kd.R_far (p := ⟨gb808, 2, none⟩) (Kd.R_far (p := ⟨gb808, 1, none⟩) (Kd.R_far (p := ⟨gb808, 0, none⟩) (Kd.R_types HO797.out BK808.out (by decide)) (fun _ hk => hk.2) (.int .i64 t794)) (fun _ hk => hk.2) (.slice Ao13 t795.length co13)) (fun _ hk => hk.2) (.slice Ao14 t798.length co14)) (fun _ hk => hk.1)⟩
  have n1_ : Aside0 (Kd.R (Kd.slice 91 k91) 56 (((w9.setCell ⟨gb808, 0, none⟩ (.int .i64 t794)).setCell ⟨gb808, 1, none⟩ (.slice Ao13 t795.length co13)).setCell ⟨gb808, 2, none⟩ (.slice Ao14 t798.length co14)) w.heap.size (fun _ => True) (.slice Ao14 t798.length co14) t798) := ⟨by (with_reducible skip); exact Kd.R_mono (Kd.R_far (p := ⟨gb808, 2, none⟩) (Kd.R_far (p := ⟨gb808, 1, none⟩) (Kd.R_far (p := ⟨gb808, 0, none⟩) (Kd.R_types HO800.out BK808.out (by decide)) (fun _ hk => hk.2) (.int .i64 t794)) (fun _ hk => hk.2) (.slice Ao13 t795.length co13)) (fun _ hk => hk.2) (.slice Ao14 t798.length co14)) (fun _ hk => trivial)⟩
  have n2_ : Aside0 (Kd.R (Kd.int .i64) 3 (((w9.setCell ⟨gb808, 0, none⟩ (.int .i64 t794)).setCell ⟨gb808, 1, none⟩ (.slice Ao13 t795.length co13)).setCell ⟨gb808, 2, none⟩ (.slice Ao14 t798.length co14)) w.heap.size (fun k_ => some k_ ≠ (.slice Ao13 t795.length co13 : Value).ownBlock) v802 t801) := ⟨by (with_reducible skip); exact Kd.R_mono (Kd.R_far (p := ⟨gb808, 2, none⟩) (Kd.R_far (p := ⟨gb808, 1, none⟩) (Kd.R_far (p := ⟨gb808, 0, none⟩) (Kd.R_types HO803.out BK808.out (by decide)) (fun _ hk => hk.2) (.int .i64 t794)) (fun _ hk => hk.2) (.slice Ao13 t795.length co13)) (fun _ hk => hk.2) (.slice Ao14 t798.length co14)) (fun _ hk => hk.1)⟩
  have n3_ : Aside0 (Kd.R k48 48 (((w9.setCell ⟨gb808, 0, none⟩ (.int .i64 t794)).setCell ⟨gb808, 1, none⟩ (.slice Ao13 t795.length co13)).setCell ⟨gb808, 2, none⟩ (.slice Ao14 t798.length co14)) w.heap.size (fun _ => True) v805 t804) := ⟨by (with_reducible skip); exact Kd.R_mono (Kd.R_far (p := ⟨gb808, 2, none⟩) (Kd.R_far (p := ⟨gb808, 1, none⟩) (Kd.R_far (p := ⟨gb808, 0, none⟩) (Kd.R_types HO806.out BK808.out (by decide)) (fun _ hk => hk.2) (.int .i64 t794)) (fun _ hk => hk.2) (.slice Ao13 t795.length co13)) (fun _ hk => hk.2) (.slice Ao14 t798.length co14)) (fun _ hk => trivial)⟩
  have n4_ : Aside0 ((((w9.setCell ⟨gb808, 0, none⟩ (.int .i64 t794)).setCell ⟨gb808, 1, none⟩ (.slice Ao13 t795.length co13)).setCell ⟨gb808, 2, none⟩ (.slice Ao14 t798.length co14)).heap[gb790]? = some (.cells #[.int .i64 0, .slice none 0 0, .slice none 0 0] 46 (0, 0))) := ⟨by (with_reducible skip); refine blk_far ?_ NB790_808.out _; (with_reducible skip); refine blk_far ?_ NB790_808.out _; (with_reducible skip); refine blk_far ?_ NB790_808.out _; (with_reducible skip); exact BK790.out⟩
  have n5_ : Aside0 ((((w9.setCell ⟨gb808, 0, none⟩ (.int .i64 t794)).setCell ⟨gb808, 1, none⟩ (.slice Ao13 t795.length co13)).setCell ⟨gb808, 2, none⟩ (.slice Ao14 t798.length co14)).heap[gb808]? = some (.cells #[.int .i64 t794, .slice Ao13 t795.length co13, .slice Ao14 t798.length co14] 46 (0, 0))) := ⟨by (with_reducible skip); refine blk_put (cs := #[.int .i64 t794, .slice Ao13 t795.length co13, .slice none 0 0]) ?_ 2 _ rfl; (with_reducible skip); refine blk_put (cs := #[.int .i64 t794, .slice none 0 0, .slice none 0 0]) ?_ 1 _ rfl; (with_reducible skip); refine blk_put (cs := #[.int .i64 0, .slice none 0 0, .slice none 0 0]) ?_ 0 _ rfl; (with_reducible skip); exact BK808.out⟩
  have n6_ : Aside0 (IsS106 w (((w9.setCell ⟨gb808, 0, none⟩ (.int .i64 t794)).setCell ⟨gb808, 1, none⟩ (.slice Ao13 t795.length co13)).setCell ⟨gb808, 2, none⟩ (.slice Ao14 t798.length co14)) g793 t791 t807) := ⟨by repeat ((with_reducible first | exact HI793.out | refine IsS106.far ?_ NB793_808.out _))⟩
  have n7_ : Aside0 (Below w.heap.size w (((w9.setCell ⟨gb808, 0, none⟩ (.int .i64 t794)).setCell ⟨gb808, 1, none⟩ (.slice Ao13 t795.length co13)).setCell ⟨gb808, 2, none⟩ (.slice Ao14 t798.length co14))) := ⟨by repeat ((with_reducible first | exact HB.out | refine below_set ?_ GE808.out))⟩
  (try clear HO797)
  (try clear HO800)
  (try clear HO803)
  (try clear HO806)
  (try clear BK790)
  (try clear BK808)
  (try clear HI793)
  (try clear HB)
  generalize (((w9.setCell ⟨gb808, 0, none⟩ (.int .i64 t794)).setCell ⟨gb808, 1, none⟩ (.slice Ao13 t795.length co13)).setCell ⟨gb808, 2, none⟩ (.slice Ao14 t798.length co14)) = w15 at n0_ n1_ n2_ n3_ n4_ n5_ n6_ n7_ ⊢
  have HO797 := n0_
  have HO800 := n1_
  have HO803 := n2_
  have HO806 := n3_
  have BK790 := n4_
  have BK808 := n5_
  have HI793 := n6_
  have HB := n7_
  clear n0_ n1_ n2_ n3_ n4_ n5_ n6_ n7_
  replace HO797 := Z.k (Kd.R_drew HO797.out)
  replace HO800 := Z.k (Kd.R_drew HO800.out)
  replace HO803 := Z.k (Kd.R_drew HO803.out)
  replace HO806 := Z.k (Kd.R_drew HO806.out)
  replace BK790 := Z.k (blk_drew BK790.out)
  replace BK808 := Z.k (blk_drew BK808.out)
  replace HI793 := Z.k (IsS106.drew HI793.out)
  replace HB := Z.k (below_drew1 HB.out)
  obtain ⟨Ao17, co17, eo17⟩ := Kd.R_slice HO803.out
  (subst eo17)
  obtain ⟨Ao18, co18, eo18⟩ := Kd.R_slice HO806.out
  (subst eo18)
  refine start_ (n := 9) (S := fun w' => w'.cell? ⟨gb808, 0, none⟩ = some (.int .i64 t794) ∧ w'.cell? ⟨gb808, 1, none⟩ = some (.slice Ao13 t795.length co13) ∧ w'.cell? ⟨gb808, 2, none⟩ = some (.slice Ao14 t798.length co14)) (ds := []) #[false, false, false, false, false, false, false, false, false] (by kernel_rfl) rfl rfl ⟨(blk_cell BK808.out 0).trans rfl, (blk_cell BK808.out 1).trans rfl, (blk_cell BK808.out 2).trans rfl⟩ (fun hHeld => ?_); refine with_tabW spec_DrawFirstVoid.tab3 spec_DrawFirstVoid.bits3 (fun HT_ HW_ => ?_)
  generalize w15.drew = w16 at HO797 HO800 HO803 HO806 BK790 BK808 HI793 HB hHeld ⊢
  refine Z.pv 1 20 9 2 HT_.out ?_
  refine Z.pv 3 22 9 10 HT_.out ?_
  refine Z.pv 4 23 9 26 HT_.out ?_
  refine Z.t3 0 19 9 27 HT_.out HW_.out hHeld ?_
  refine Z.t3 2 21 9 31 HT_.out HW_.out hHeld ?_
  refine one_ (i := 5) (N := some 24) (Z.mb 9 63) rfl rfl (one_of HT_.out (by kernel_rfl)) (by decide) (fun K hK => ?_)
  refine goes_ Try.func41 (by kernel_rfl) rfl #[.agg #[.int .i64 t794, .slice Ao13 t795.length co13, .slice Ao14 t798.length co14], .slice Ao17 t801.length co17, .slice Ao18 t804.length co18] (by rfl) rfl rfl Z.ar ?_
  with_reducible refine (spec_ValidActs.calls k t794 _ _ t795 _ _ t798 _ _ t801 _ _ t804 t809 _ ?q1 ?q2 ?q3 ?q4 ?q5 ?q6 ?q7 ?q8 A5.out).mono ?_
  (case q1 => repeat (exact (Kd.R_reads' HO797.out).2.2))
  (case q2 => exact (Kd.R_reads' HO797.out).2.1)
  (case q3 => repeat (exact (Kd.R_reads' HO800.out).2.2))
  (case q4 => exact (Kd.R_reads' HO800.out).2.1)
  (case q5 => repeat (exact (Kd.R_reads' HO803.out).2.2))
  (case q6 => exact (Kd.R_reads' HO803.out).2.1)
  (case q7 => repeat (exact (Kd.R_reads' HO806.out).2.2))
  (case q8 => exact (Kd.R_reads' HO806.out).2.1)
  rintro e w19 ⟨v810, rfl, ho0, hb⟩
  refine ⟨_, rfl, ?_⟩
  replace HO797 := Z.k (Kd.R_below (by (with_reducible skip); exact HO797.out) hb)
  replace HO800 := Z.k (Kd.R_below (by (with_reducible skip); exact HO800.out) hb)
  replace HO803 := Z.k (Kd.R_below (by (with_reducible skip); exact HO803.out) hb)
  have HO811 := Z.k (Kd.R_lower (Kd.R_new' ho0 (Kd.R_lt (by (with_reducible skip); exact HO806.out))) (below_size (by repeat ((with_reducible exact HB.out)))))
  replace HO806 := Z.k (Kd.R_elder' (by (with_reducible skip); exact HO806.out) (Kd.R_base ho0) hb)
  replace BK790 := Z.bb BK790 hb
  replace BK808 := Z.bb BK808 hb
  replace HB := Z.k (below_step (by repeat ((with_reducible exact HB.out))) hb)
  replace HI793 := Z.k (IsS106.below (by repeat ((with_reducible exact HI793.out))) hb)
  (try clear hb)
  (try clear ho0)
  refine hK.out _ _ ⟨(blk_cell BK808.out 0).trans rfl, (blk_cell BK808.out 1).trans rfl, (blk_cell BK808.out 2).trans rfl⟩ (fun hHeld => ?_)
  clear hK K
  refine Z.nm ?_
  refine one_ (i := 6) (N := none) #[true, true, true, true, true, true, true, false, false] rfl rfl (one_of HT_.out (by kernel_rfl)) (by decide) (fun K hK => ?_)
  have hs20 : w19.cell? ⟨gb790, 0, none⟩ = some (.int .i64 0) := (blk_cell BK790.out 0).trans rfl
  have hfs20 := blk_frozen BK790.out 0
  have hns20_1 := NB808_790.out
  have hms20_1 := NB790_808.out
  have hs21 : w19.cell? ⟨gb790, 1, none⟩ = some (.slice none 0 0) := (blk_cell BK790.out 1).trans rfl
  have hfs21 := blk_frozen BK790.out 1
  have hns21_1 := NB808_790.out
  have hms21_1 := NB790_808.out
  have hs22 : w19.cell? ⟨gb790, 2, none⟩ = some (.slice none 0 0) := (blk_cell BK790.out 2).trans rfl
  have hfs22 := blk_frozen BK790.out 2
  have hns22_1 := NB808_790.out
  have hms22_1 := NB790_808.out
  refine skip_ (w1 := ?_) (by rfl) rfl ?_ ?_
  rotate_left
  ·go_simp
   rfl
  refine hK.out _ _ ⟨(Z.f3 NB808_790.out (hHeld.1)), (Z.f3 NB808_790.out (hHeld.2.1)), (Z.f3 NB808_790.out (hHeld.2.2))⟩ (fun hHeld => ?_)
  clear hK K
  refine Z.pv 7 3 9 255 HT_.out ?_
  refine Z.pv 8 4 9 511 HT_.out ?_
  refine done_ (done_of HT_.out (by kernel_rfl)) ?_
  try go_wp2
  refine bodyPost_ret (results_ctt rfl _ _ gb790 46 #[.int .i64 t794, .slice Ao13 t795.length co13, .slice Ao14 t798.length co14] (0, 0) _ rfl (by (with_reducible skip); refine blk_put (cs := #[.int .i64 t794, .slice Ao13 t795.length co13, .slice none 0 0]) ?_ 2 _ rfl; (with_reducible skip); refine blk_put (cs := #[.int .i64 t794, .slice none 0 0, .slice none 0 0]) ?_ 1 _ rfl; (with_reducible skip); refine blk_put (cs := #[.int .i64 0, .slice none 0 0, .slice none 0 0]) ?_ 0 _ rfl; (with_reducible skip); exact BK790.out) Try.underlying46 rfl (by kernel_rfl)) rfl ?_
  exact ⟨_, _, _, _, by rfl, by (with_reducible skip); exact Kd.R_mono (Kd.R_far (p := ⟨gb790, 2, none⟩) (Kd.R_far (p := ⟨gb790, 1, none⟩) (Kd.R_far (p := ⟨gb790, 0, none⟩) (Kd.R_types HO797.out BK790.out (by decide)) (fun _ hk => hk.2) (.int .i64 t794)) (fun _ hk => hk.2) (.slice Ao13 t795.length co13)) (fun _ hk => hk.2) (.slice Ao14 t798.length co14)) (fun _ hk => hk.1), by (with_reducible skip); exact Kd.R_mono (Kd.R_far (p := ⟨gb790, 2, none⟩) (Kd.R_far (p := ⟨gb790, 1, none⟩) (Kd.R_far (p := ⟨gb790, 0, none⟩) (Kd.R_types HO800.out BK790.out (by decide)) (fun _ hk => hk.2) (.int .i64 t794)) (fun _ hk => hk.2) (.slice Ao13 t795.length co13)) (fun _ hk => hk.2) (.slice Ao14 t798.length co14)) (fun _ hk => trivial), by (with_reducible skip); exact Kd.R_mono (Kd.R_far (p := ⟨gb790, 2, none⟩) (Kd.R_far (p := ⟨gb790, 1, none⟩) (Kd.R_far (p := ⟨gb790, 0, none⟩) (Kd.R_types HO803.out BK790.out (by decide)) (fun _ hk => hk.2) (.int .i64 t794)) (fun _ hk => hk.2) (.slice Ao13 t795.length co13)) (fun _ hk => hk.2) (.slice Ao14 t798.length co14)) (fun _ hk => hk.1), by (with_reducible skip); exact Kd.R_mono (Kd.R_far (p := ⟨gb790, 2, none⟩) (Kd.R_far (p := ⟨gb790, 1, none⟩) (Kd.R_far (p := ⟨gb790, 0, none⟩) (Kd.R_types HO811.out BK790.out (by decide)) (fun _ hk => hk.2) (.int .i64 t794)) (fun _ hk => hk.2) (.slice Ao13 t795.length co13)) (fun _ hk => hk.2) (.slice Ao14 t798.length co14)) (fun _ hk => trivial), by repeat ((with_reducible first | exact HB.out | refine below_set ?_ GE790.out))⟩
 ·rw [if_neg c4] at H
  have c4b0 : decide (0 < ((l0.length : Int) % 3)) = false := decide_eq_false c4
  clear c4
  simp only [Option.some.injEq, Prod.mk.injEq] at H
  obtain ⟨rfl, rfl, rfl, rfl, rfl⟩ := H
  go_enter Try.func32, Try.ntmps32
  go_wp2_with (first | ((with_reducible refine gate_dst (N := 2) rfl ?_); refine Z.bx #[.int .i64 0, .slice none 0 0, .slice none 0 0] 46 HB ?_; clear HB; intro gb790 w23 BK790 GE790 HB hg hb; have GW790 := GE790; clear hb hg) | ((with_reducible refine gate_callee (f := 49) rfl ?_); refine goesL_ (some 10) rfl rfl Try.func49 (by kernel_rfl) rfl #[.slice A0 l0.length c0] rfl Z.ar ?_; (with_reducible refine (spec_l20Open.calls _ _ l0 t791 t792 w _ ?q1 ?q2 ?q3 A2.out).mono ?_); (case q1 => repeat ((with_reducible exact HB.out))); (case q2 => exact HR0.out); (case q3 => exact HC0.out); rintro e w24 ⟨g793, rfl, hi, hb, hb2⟩; refine ⟨_, rfl, ?_⟩; replace HB := Z.k (hb); have HI793 := Z.k (hi); have NB793_790 := Z.k (IsS106.ne_blk hi (blk_below (g := gb790) (o := .cells #[.int .i64 0, .slice none 0 0, .slice none 0 0] 46 (0, 0)) (Z.bk BK790.out) hb2) (by decide)); have NB790_793 := Z.k (Ne.symm (IsS106.ne_blk hi (blk_below (g := gb790) (o := .cells #[.int .i64 0, .slice none 0 0, .slice none 0 0] 46 (0, 0)) (Z.bk BK790.out) hb2) (by decide))); replace BK790 := Z.k (blk_below (g := gb790) (o := .cells #[.int .i64 0, .slice none 0 0, .slice none 0 0] 46 (0, 0)) (Z.bk BK790.out) hb2); (try clear hb); (try clear hb2); (try clear hi)) | ((with_reducible refine gate_callee (f := 78) rfl ?_); refine goesL_ (some 11) rfl rfl Try.func78 (by kernel_rfl) rfl #[.pointer (some ⟨g793, 0, none⟩)] rfl Z.ar ?_; (with_reducible refine (spec_l20Acted.calls k g793 t791 t792 t794 t795 t798 t801 t804 t807 w _ ?q1 ?q2 A3.out).mono ?_); (case q1 => repeat ((with_reducible exact HI793.out))); (case q2 => repeat ((with_reducible exact HB.out))); rintro e w25 ⟨v796, v799, v802, v805, rfl, ho0, ho1, ho2, ho3, hi, hb, hk⟩; refine ⟨_, rfl, ?_⟩; replace BK790 := Z.k (KeepBut.blk hk (g' := gb790) (o := .cells #[.int .i64 0, .slice none 0 0, .slice none 0 0] 46 (0, 0)) (Z.bk BK790.out) NB790_793.out (by simp)); have HO797 := Z.k (Kd.R_lower ho0 (below_size (by repeat ((with_reducible exact HB.out))))); have HO800 := Z.k (Kd.R_lower ho1 (below_size (by repeat ((with_reducible exact HB.out))))); have HO803 := Z.k (Kd.R_lower ho2 (below_size (by repeat ((with_reducible exact HB.out))))); have HO806 := Z.k (Kd.R_lower ho3 (below_size (by repeat ((with_reducible exact HB.out))))); replace HB := Z.k (hb); replace HI793 := Z.k (hi); (try clear hb); (try clear hk); (try clear hi); (try clear ho0); (try clear ho1); (try clear ho2); (try clear ho3)) | ((with_reducible refine gate_dst (N := 5) rfl ?_); refine box_event ?hg (N := 5) ?hd (cs := #[.int .i64 0, .slice none 0 0, .slice none 0 0]) (t := 46) ?hr ?_; (case hd | hg => rfl); (case hr => (go_simp; done)); intro gb808 hg w26 hbox hb; replace HO797 := Z.k (Kd.R_below (by (with_reducible skip); exact HO797.out) hb); replace HO800 := Z.k (Kd.R_below (by (with_reducible skip); exact HO800.out) hb); replace HO803 := Z.k (Kd.R_below (by (with_reducible skip); exact HO803.out) hb); replace HO806 := Z.k (Kd.R_below (by (with_reducible skip); exact HO806.out) hb); have BK808 := Z.k (hbox); have GW808 := Z.k ((by rw [hg]; exact (below_size (by repeat ((with_reducible exact HB.out)))) : w.heap.size ≤ gb808)); have GE808 := Z.k ((by rw [hg]; exact (below_size (by repeat ((with_reducible exact HB.out)))) : w.heap.size ≤ gb808)); replace HB := Z.k (below_step (by repeat ((with_reducible exact HB.out))) hb); have NB790_808 := Z.nl hg BK790; have NB808_790 := Z.ng hg BK790; replace BK790 := Z.bb BK790 hb; have NB793_808 := Z.k ((by rw [hg]; exact Nat.ne_of_lt (IsS106.lt (show IsS106 w _ g793 t791 t807 from by repeat ((with_reducible exact HI793.out)))) : g793 ≠ gb808)); have NB808_793 := Z.k ((by rw [hg]; exact Nat.ne_of_gt (IsS106.lt (show IsS106 w _ g793 t791 t807 from by repeat ((with_reducible exact HI793.out)))) : gb808 ≠ g793)); replace HI793 := Z.k (IsS106.below (by repeat ((with_reducible exact HI793.out))) hb); clear hb hbox hg; have hnb27 := NB808_790.out; have hnc27 := NB790_808.out; have hnb28 := NB808_793.out; have hnc28 := NB793_808.out; have hcz29 := Z.c3 BK808.out; obtain ⟨Ao30, co30, eo30⟩ := Kd.R_slice HO797.out; subst eo30; obtain ⟨Ao31, co31, eo31⟩ := Kd.R_slice HO800.out; subst eo31; have hnb32 := NB790_793.out; have hnc32 := NB793_790.out; have hcz33 := Z.c3 BK790.out))
  refine bodyPost_ret (results_ctt rfl _ _ gb790 46 #[.int .i64 t794, .slice Ao30 t795.length co30, .slice Ao31 t798.length co31] (0, 0) _ rfl (by (with_reducible skip); refine blk_put (cs := #[.int .i64 t794, .slice Ao30 t795.length co30, .slice none 0 0]) ?_ 2 _ rfl; (with_reducible skip); refine blk_put (cs := #[.int .i64 t794, .slice none 0 0, .slice none 0 0]) ?_ 1 _ rfl; (with_reducible skip); refine blk_put (cs := #[.int .i64 0, .slice none 0 0, .slice none 0 0]) ?_ 0 _ rfl; (with_reducible skip); refine blk_far ?_ NB790_808.out _; (with_reducible skip); refine blk_far ?_ NB790_808.out _; (with_reducible skip); refine blk_far ?_ NB790_808.out _; (with_reducible skip); exact BK790.out) Try.underlying46 rfl (by kernel_rfl)) rfl ?_
  exact ⟨_, _, _, _, by rfl, by (with_reducible skip); exact Kd.R_mono (Kd.R_far (p := ⟨gb790, 2, none⟩) (Kd.R_far (p := ⟨gb790, 1, none⟩) (Kd.R_far (p := ⟨gb790, 0, none⟩) (Kd.R_far (p := ⟨gb808, 2, none⟩) (Kd.R_far (p := ⟨gb808, 1, none⟩) (Kd.R_far (p := ⟨gb808, 0, none⟩) (Kd.R_types (Kd.R_types HO797.out BK808.out (by decide)) BK790.out (by decide)) (fun _ hk => hk.1.2) (.int .i64 t794)) (fun _ hk => hk.1.2) (.slice Ao30 t795.length co30)) (fun _ hk => hk.1.2) (.slice Ao31 t798.length co31)) (fun _ hk => hk.2) (.int .i64 t794)) (fun _ hk => hk.2) (.slice Ao30 t795.length co30)) (fun _ hk => hk.2) (.slice Ao31 t798.length co31)) (fun _ hk => hk.1.1), by (with_reducible skip); exact Kd.R_mono (Kd.R_far (p := ⟨gb790, 2, none⟩) (Kd.R_far (p := ⟨gb790, 1, none⟩) (Kd.R_far (p := ⟨gb790, 0, none⟩) (Kd.R_far (p := ⟨gb808, 2, none⟩) (Kd.R_far (p := ⟨gb808, 1, none⟩) (Kd.R_far (p := ⟨gb808, 0, none⟩) (Kd.R_types (Kd.R_types HO800.out BK808.out (by decide)) BK790.out (by decide)) (fun _ hk => hk.1.2) (.int .i64 t794)) (fun _ hk => hk.1.2) (.slice Ao30 t795.length co30)) (fun _ hk => hk.1.2) (.slice Ao31 t798.length co31)) (fun _ hk => hk.2) (.int .i64 t794)) (fun _ hk => hk.2) (.slice Ao30 t795.length co30)) (fun _ hk => hk.2) (.slice Ao31 t798.length co31)) (fun _ hk => trivial), by (with_reducible skip); exact Kd.R_mono (Kd.R_far (p := ⟨gb790, 2, none⟩) (Kd.R_far (p := ⟨gb790, 1, none⟩) (Kd.R_far (p := ⟨gb790, 0, none⟩) (Kd.R_far (p := ⟨gb808, 2, none⟩) (Kd.R_far (p := ⟨gb808, 1, none⟩) (Kd.R_far (p := ⟨gb808, 0, none⟩) (Kd.R_types (Kd.R_types HO803.out BK808.out (by decide)) BK790.out (by decide)) (fun _ hk => hk.1.2) (.int .i64 t794)) (fun _ hk => hk.1.2) (.slice Ao30 t795.length co30)) (fun _ hk => hk.1.2) (.slice Ao31 t798.length co31)) (fun _ hk => hk.2) (.int .i64 t794)) (fun _ hk => hk.2) (.slice Ao30 t795.length co30)) (fun _ hk => hk.2) (.slice Ao31 t798.length co31)) (fun _ hk => hk.1.1), by (with_reducible skip); exact Kd.R_mono (Kd.R_far (p := ⟨gb790, 2, none⟩) (Kd.R_far (p := ⟨gb790, 1, none⟩) (Kd.R_far (p := ⟨gb790, 0, none⟩) (Kd.R_far (p := ⟨gb808, 2, none⟩) (Kd.R_far (p := ⟨gb808, 1, none⟩) (Kd.R_far (p := ⟨gb808, 0, none⟩) (Kd.R_types (Kd.R_types HO806.out BK808.out (by decide)) BK790.out (by decide)) (fun _ hk => hk.1.2) (.int .i64 t794)) (fun _ hk => hk.1.2) (.slice Ao30 t795.length co30)) (fun _ hk => hk.1.2) (.slice Ao31 t798.length co31)) (fun _ hk => hk.2) (.int .i64 t794)) (fun _ hk => hk.2) (.slice Ao30 t795.length co30)) (fun _ hk => hk.2) (.slice Ao31 t798.length co31)) (fun _ hk => trivial), by repeat ((with_reducible first | exact HB.out | refine below_set ?_ GE790.out | refine below_set ?_ GE808.out))⟩

end Go.Proofs.Ytojoblllgddckaa.PAll

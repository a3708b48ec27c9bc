/- Walks of functions that laws of this seat reach, in the form of the print. -/
import Derived.Test.YtkogboechfieeaaCAll40
-- PRINTED
namespace Go.Proofs.Ytkogboechfieeaa.PAll
open Go.RowKit Go.Proofs.YtkogboechfieeaaW.PrintWords Go.Proofs.YtkogboechfieeaaW.PrintLast Go.Proofs.YtkogboechfieeaaW.PrintMore
attribute [local go_sem] max2_int min2_int max_two min_two max_three min_three max_four min_four
set_option linter.unusedVariables false
set_option linter.unusedSimpArgs false

/-! ### spec_l20Crowd: function 58 -/
def spec_l20Crowd.f (k : Nat) (s0_0 : List Int) (s0_1 : Int) (a1_0 : Int) (l1_1 : List Int) : Option (Int × Int) := (spec_l20Rd_pick.f k s0_0 s0_1 (wrap64 (2 ^ (mn (mx a1_0 1) 6).toNat))).bind fun bt39 => ((spec_l20Rd_pick.f k s0_0 bt39.2 3).bind fun bt36 => (if bt36.1 = 0 then ((spec_l20Rd_pick.f k s0_0 bt36.2 (wrap64 (2 ^ (mn (mx a1_0 1) 6).toNat))).bind fun bt44 => ((spec_l20Rd_pick.f k s0_0 bt44.2 60).bind fun bt45 => (some (wrap64 ((Go.bits .or .i64 bt39.1 bt44.1) + (wrap64 ((wrap64 (Int.tdiv bt45.1 59)) * 64))), bt45.2)))) else ((spec_l20Rd_pick.f k s0_0 bt36.2 60).bind fun bt46 => (some (wrap64 (bt39.1 + (wrap64 ((wrap64 (Int.tdiv bt46.1 59)) * 64))), bt46.2)))))
set_option maxHeartbeats 8000000 in
set_option maxRecDepth 100000 in
theorem spec_l20Crowd.calls (k : Nat) (g : Nat) (s0_0 : List Int) (s0_1 : Int) (a1_0 : Int) (A1_1 : Option Addr) (c1_1 : Nat) (l1_1 : List Int) (r1 : Int) (r2 : Int) (w0 w : World) (hI : IsS92 w0 w g s0_0 s0_1) (hB : Below w0.heap.size w0 w) (hr1_1 : Kd.C (Kd.int .i64) w A1_1 l1_1.length l1_1) (hc1_1 : l1_1.length ≤ c1_1) (hf1_1 : ∀ ad, A1_1 = some ad → 0 < l1_1.length → ad.block ≠ g) (h : spec_l20Crowd.f k s0_0 s0_1 a1_0 l1_1 = some (r1, r2)) :
  Calls Try.prog 58 #[.pointer (some ⟨g, 0, none⟩), .agg #[.int .i64 a1_0, .slice A1_1 l1_1.length c1_1]] w fun e w' => e = .returned (.int .i64 r1) ∧ IsS92 w0 w' g s0_0 r2 ∧ Below w0.heap.size w0 w' ∧ KeepBut w w' g none := by
 have hu25 := Try.underlying25
 have HR1_1 := Z.k hr1_1
 have HC1_1 := Z.k hc1_1
 clear hr1_1 hc1_1
 have HI0 := Z.k hI
 have HK := Z.k (KeepBut.refl w g none)
 have HL := Z.k hB.size
 clear hI
 have HW0 := Z.k hB.size
 have HB := Z.k hB
 clear hB
 have H := h
 clear h
 unfold spec_l20Crowd.f at H
 obtain ⟨ji3, hji3⟩ : ∃ j_ : Int, (mx a1_0 1) = j_ := ⟨_, rfl⟩
 replace H : ((spec_l20Rd_pick.f k s0_0 s0_1 (wrap64 (2 ^ (mn (ji3) 6).toNat))).bind fun bt39 => ((spec_l20Rd_pick.f k s0_0 bt39.2 3).bind fun bt36 => (if bt36.1 = 0 then ((spec_l20Rd_pick.f k s0_0 bt36.2 (wrap64 (2 ^ (mn (ji3) 6).toNat))).bind fun bt44 => ((spec_l20Rd_pick.f k s0_0 bt44.2 60).bind fun bt45 => (some (wrap64 ((Go.bits .or .i64 bt39.1 bt44.1) + (wrap64 ((wrap64 (Int.tdiv bt45.1 59)) * 64))), bt45.2)))) else ((spec_l20Rd_pick.f k s0_0 bt36.2 60).bind fun bt46 => (some (wrap64 (bt39.1 + (wrap64 ((wrap64 (Int.tdiv bt46.1 59)) * 64))), bt46.2)))))) = some (r1, r2) := by (rw [hji3] at H; exact H)
 (try (have hji3l : 1 ≤ ji3 := by (rw [← hji3]; unfold mx; (repeat' split) <;> omega)))
 (try (have hji3m : 0 ≤ ji3 := by omega))
 have hji3_ : (if a1_0 < 1 then 1 else a1_0) = ji3 := hji3
 obtain ⟨ji4, hji4⟩ : ∃ j_ : Int, (mn (ji3) 6) = j_ := ⟨_, rfl⟩
 replace H : ((spec_l20Rd_pick.f k s0_0 s0_1 (wrap64 (2 ^ (ji4).toNat))).bind fun bt39 => ((spec_l20Rd_pick.f k s0_0 bt39.2 3).bind fun bt36 => (if bt36.1 = 0 then ((spec_l20Rd_pick.f k s0_0 bt36.2 (wrap64 (2 ^ (ji4).toNat))).bind fun bt44 => ((spec_l20Rd_pick.f k s0_0 bt44.2 60).bind fun bt45 => (some (wrap64 ((Go.bits .or .i64 bt39.1 bt44.1) + (wrap64 ((wrap64 (Int.tdiv bt45.1 59)) * 64))), bt45.2)))) else ((spec_l20Rd_pick.f k s0_0 bt36.2 60).bind fun bt46 => (some (wrap64 (bt39.1 + (wrap64 ((wrap64 (Int.tdiv bt46.1 59)) * 64))), bt46.2)))))) = some (r1, r2) := by (rw [hji4] at H; exact H)
 have hji4_ : (if 6 < (ji3) then 6 else (ji3)) = ji4 := hji4
 revert H; refine Z.bd ?_; rintro ⟨t39, t48⟩ A5 H
 try dsimp only at H
 revert H; refine Z.bd ?_; rintro ⟨t36, t49⟩ A6 H
 try dsimp only at H
 by_cases c7 : t36 = 0
 ·rw [if_pos c7] at H
  have c7b0 : (t36 == 0) = true := beq_iff_eq.mpr c7
  have c7b1 : (t36 != 0) = false := bne_eq_false_iff_eq.mpr c7
  clear c7
  revert H; refine Z.bd ?_; rintro ⟨t44, t51⟩ A8 H
  try dsimp only at H
  revert H; refine Z.bd ?_; rintro ⟨t45, t55⟩ A9 H
  try dsimp only at H
  simp only [Option.some.injEq, Prod.mk.injEq] at H
  obtain ⟨rfl, rfl⟩ := H
  go_enter Try.func58, Try.ntmps58
  go_wp2_with (first | ((with_reducible refine gate_dst (N := 3) rfl ?_); refine box_event ?hg (N := 3) ?hd (cs := #[.int .i64 a1_0, .slice A1_1 l1_1.length c1_1]) (t := 25) ?hr ?_; (case hd | hg => rfl); (case hr => (go_simp; done)); intro gb30 hg w10 hbox hb; replace HB := Z.k (below_step HB.out hb); have BK30 := Z.k hbox; have GW30 := Z.k ((by rw [hg]; exact (keep_size (w := w) (g := g) (row := none) HK.out) : w.heap.size ≤ gb30)); have GE30 := Z.k ((Nat.le_trans HW0.out (by rw [hg]; exact (keep_size (w := w) (g := g) (row := none) HK.out) : w.heap.size ≤ gb30) : w0.heap.size ≤ gb30)); replace HK := Z.k (KeepBut.trans HK.out (KeepBut.of_below hb g none) (.inl rfl)); have NB0_30 := Z.k ((by rw [hg]; exact Nat.ne_of_lt (IsS92.lt HI0.out) : g ≠ gb30)); have NB30_0 := Z.k ((by rw [hg]; exact Nat.ne_of_gt (IsS92.lt HI0.out) : gb30 ≠ g)); replace HI0 := Z.k (IsS92.below HI0.out hb); clear hb hbox hg; have hnb11 := NB30_0.out; have hnc11 := NB0_30.out; have hcz12 := Z.c2 BK30.out) | ((with_reducible refine gate_callee (f := 73) rfl ?_); refine goesL_ (some 14) rfl rfl Try.func73 (by kernel_rfl) rfl #[.pointer (some ⟨g, 0, none⟩), .int .i64 (wrap64 (2 ^ (ji4).toNat))] rfl (by (try simp only [List.map_toArray, List.map_cons, List.map_nil]); rfl) ?_; (with_reducible refine (spec_l20Rd_pick.calls k g s0_0 s0_1 (wrap64 (2 ^ (ji4).toNat)) t39 t48 w0 _ ?q1 ?q2 A5.out).mono ?_); (case q1 => exact HI0.out); (case q2 => exact HB.out); rintro e w13 ⟨rfl, hi, hb, hk⟩; refine ⟨_, rfl, ?_⟩; replace BK30 := Z.kb hk BK30 NB30_0; replace HK := Z.k (KeepBut.trans HK.out hk (.inl rfl)); replace HB := Z.k hb; replace HI0 := Z.k hi; (try clear hb hk hi)) | ((with_reducible refine gate_callee (f := 73) rfl ?_); refine goesL_ (some 16) rfl rfl Try.func73 (by kernel_rfl) rfl #[.pointer (some ⟨g, 0, none⟩), .int .i64 3] rfl Z.ar ?_; (with_reducible refine (spec_l20Rd_pick.calls k g s0_0 t48 3 t36 t49 w0 _ ?q1 ?q2 A6.out).mono ?_); (case q1 => exact HI0.out); (case q2 => exact HB.out); rintro e w14 ⟨rfl, hi, hb, hk⟩; refine ⟨_, rfl, ?_⟩; replace BK30 := Z.kb hk BK30 NB30_0; replace HK := Z.k (KeepBut.trans HK.out hk (.inl rfl)); replace HB := Z.k hb; replace HI0 := Z.k hi; (try clear hb hk hi)) | ((with_reducible refine gate_callee (f := 73) rfl ?_); refine goesL_ (some 22) rfl rfl Try.func73 (by kernel_rfl) rfl #[.pointer (some ⟨g, 0, none⟩), .int .i64 (wrap64 (2 ^ (ji4).toNat))] rfl (by (try simp only [List.map_toArray, List.map_cons, List.map_nil]); rfl) ?_; (with_reducible refine (spec_l20Rd_pick.calls k g s0_0 t49 (wrap64 (2 ^ (ji4).toNat)) t44 t51 w0 _ ?q1 ?q2 A8.out).mono ?_); (case q1 => exact HI0.out); (case q2 => exact HB.out); rintro e w15 ⟨rfl, hi, hb, hk⟩; refine ⟨_, rfl, ?_⟩; replace BK30 := Z.kb hk BK30 NB30_0; replace HK := Z.k (KeepBut.trans HK.out hk (.inl rfl)); replace HB := Z.k hb; replace HI0 := Z.k hi; (try clear hb hk hi)) | ((with_reducible refine gate_callee (f := 73) rfl ?_); refine goesL_ (some 26) rfl rfl Try.func73 (by kernel_rfl) rfl #[.pointer (some ⟨g, 0, none⟩), .int .i64 60] rfl Z.ar ?_; (with_reducible refine (spec_l20Rd_pick.calls k g s0_0 t51 60 t45 t55 w0 _ ?q1 ?q2 A9.out).mono ?_); (case q1 => exact HI0.out); (case q2 => exact HB.out); rintro e w16 ⟨rfl, hi, hb, hk⟩; refine ⟨_, rfl, ?_⟩; replace BK30 := Z.kb hk BK30 NB30_0; replace HK := Z.k (KeepBut.trans HK.out hk (.inl rfl)); replace HB := Z.k hb; replace HI0 := Z.k hi; (try clear hb hk hi)))
  go_ret
  exact ⟨by rfl, HI0.out, HB.out, HK.out⟩
 rw [if_neg c7] at H
 have c7b0 : (t36 == 0) = false := beq_eq_false_iff_ne.mpr c7
 have c7b1 : (t36 != 0) = true := bne_iff_ne.mpr c7
 revert H; refine Z.bd ?_; rintro ⟨t46, t62⟩ A17 H
 try dsimp only at H
 simp only [Option.some.injEq, Prod.mk.injEq] at H
 obtain ⟨rfl, rfl⟩ := H
 go_enter Try.func58, Try.ntmps58
 go_wp2_with (first | ((with_reducible refine gate_dst (N := 3) rfl ?_); refine box_event ?hg (N := 3) ?hd (cs := #[.int .i64 a1_0, .slice A1_1 l1_1.length c1_1]) (t := 25) ?hr ?_; (case hd | hg => rfl); (case hr => (go_simp; done)); intro gb30 hg w18 hbox hb; replace HB := Z.k (below_step HB.out hb); have BK30 := Z.k hbox; have GW30 := Z.k ((by rw [hg]; exact (keep_size (w := w) (g := g) (row := none) HK.out) : w.heap.size ≤ gb30)); have GE30 := Z.k ((Nat.le_trans HW0.out (by rw [hg]; exact (keep_size (w := w) (g := g) (row := none) HK.out) : w.heap.size ≤ gb30) : w0.heap.size ≤ gb30)); replace HK := Z.k (KeepBut.trans HK.out (KeepBut.of_below hb g none) (.inl rfl)); have NB0_30 := Z.k ((by rw [hg]; exact Nat.ne_of_lt (IsS92.lt HI0.out) : g ≠ gb30)); have NB30_0 := Z.k ((by rw [hg]; exact Nat.ne_of_gt (IsS92.lt HI0.out) : gb30 ≠ g)); replace HI0 := Z.k (IsS92.below HI0.out hb); clear hb hbox hg; have hnb19 := NB30_0.out; have hnc19 := NB0_30.out; have hcz20 := Z.c2 BK30.out) | ((with_reducible refine gate_callee (f := 73) rfl ?_); refine goesL_ (some 14) rfl rfl Try.func73 (by kernel_rfl) rfl #[.pointer (some ⟨g, 0, none⟩), .int .i64 (wrap64 (2 ^ (ji4).toNat))] rfl (by (try simp only [List.map_toArray, List.map_cons, List.map_nil]); rfl) ?_; (with_reducible refine (spec_l20Rd_pick.calls k g s0_0 s0_1 (wrap64 (2 ^ (ji4).toNat)) t39 t48 w0 _ ?q1 ?q2 A5.out).mono ?_); (case q1 => exact HI0.out); (case q2 => exact HB.out); rintro e w21 ⟨rfl, hi, hb, hk⟩; refine ⟨_, rfl, ?_⟩; replace BK30 := Z.kb hk BK30 NB30_0; replace HK := Z.k (KeepBut.trans HK.out hk (.inl rfl)); replace HB := Z.k hb; replace HI0 := Z.k hi; (try clear hb hk hi)) | ((with_reducible refine gate_callee (f := 73) rfl ?_); refine goesL_ (some 16) rfl rfl Try.func73 (by kernel_rfl) rfl #[.pointer (some ⟨g, 0, none⟩), .int .i64 3] rfl Z.ar ?_; (with_reducible refine (spec_l20Rd_pick.calls k g s0_0 t48 3 t36 t49 w0 _ ?q1 ?q2 A6.out).mono ?_); (case q1 => exact HI0.out); (case q2 => exact HB.out); rintro e w22 ⟨rfl, hi, hb, hk⟩; refine ⟨_, rfl, ?_⟩; replace BK30 := Z.kb hk BK30 NB30_0; replace HK := Z.k (KeepBut.trans HK.out hk (.inl rfl)); replace HB := Z.k hb; replace HI0 := Z.k hi; (try clear hb hk hi)) | ((with_reducible refine gate_callee (f := 73) rfl ?_); refine goesL_ (some 26) rfl rfl Try.func73 (by kernel_rfl) rfl #[.pointer (some ⟨g, 0, none⟩), .int .i64 60] rfl Z.ar ?_; (with_reducible refine (spec_l20Rd_pick.calls k g s0_0 t49 60 t46 t62 w0 _ ?q1 ?q2 A17.out).mono ?_); (case q1 => exact HI0.out); (case q2 => exact HB.out); rintro e w23 ⟨rfl, hi, hb, hk⟩; refine ⟨_, rfl, ?_⟩; replace BK30 := Z.kb hk BK30 NB30_0; replace HK := Z.k (KeepBut.trans HK.out hk (.inl rfl)); replace HB := Z.k hb; replace HI0 := Z.k hi; (try clear hb hk hi)))
 go_ret
 exact ⟨by rfl, HI0.out, HB.out, HK.out⟩

/-! ### spec_DrawReachOf: function 15 -/
def spec_DrawReachOf.f (k : Nat) (l0 : List Int) : Option (Int × List Int × (List (List (S37))) × List Int × Int) := (spec_l20Open.f l0).bind fun bt41 => ((spec_l20State.f k bt41.1 bt41.2 14).bind fun bt32 => ((spec_l20Crowd.f k bt41.1 bt32.2.2.2.2 bt32.1 bt32.2.1).bind fun bt50 => (some (bt32.1, bt32.2.1, bt32.2.2.1, bt32.2.2.2.1, bt50.1))))
def spec_DrawReachOf.T3 : Bool × List (List Nat × List Nat) := (true, [([], []), ([], []), ([], []), ([], []), ([3], [3]), ([2, 4], [2, 4]), ([0, 5, 0], [0]), ([1, 6, 0, 1, 6], [1]), ([5, 7, 0, 1, 2, 3, 4, 5, 6, 7], [5])])
def spec_DrawReachOf.B3 : List Nat := [0, 0, 0, 0, 8, 28, 61, 127, 255]
theorem spec_DrawReachOf.tab3 : rtab .any (opsOf Try.f15 3) = spec_DrawReachOf.T3 := by kernel_rfl
theorem spec_DrawReachOf.bits3 : waitsOk spec_DrawReachOf.T3.2 spec_DrawReachOf.B3 = true := by kernel_rfl
set_option maxHeartbeats 8000000 in
set_option maxRecDepth 100000 in
theorem spec_DrawReachOf.calls (k : Nat) (A0 : Option Addr) (c0 : Nat) (l0 : List Int) (r1 : Int) (r2 : List Int) (r3 : List (List (S37))) (r4 : List Int) (r5 : Int) (w : World) (hr0 : Kd.C (Kd.int .u8) w A0 l0.length l0) (hc0 : l0.length ≤ c0) (h : spec_DrawReachOf.f k l0 = some (r1, r2, r3, r4, r5)) :
  Calls Try.prog 15 #[.slice A0 l0.length c0] w fun e w' => ∃ v1_ v2_ v3_ : Value, e = .returned (.tuple #[.agg #[.int .i64 r1, v1_, v2_], v3_, .int .i64 r5]) ∧ Kd.R (Kd.int .i64) 3 w' w.heap.size (fun k_ => some k_ ≠ (v3_ : Value).ownBlock) v1_ r2 ∧ Kd.R (Kd.slice 37 k37) 34 w' w.heap.size (fun _ => True) v2_ r3 ∧ Kd.R (Kd.int .i64) 3 w' w.heap.size (fun k_ => some k_ ≠ (v1_ : Value).ownBlock) v3_ r4 ∧ Below w.heap.size w w' := by
 have hu28 := Try.underlying28
 have hu25 := Try.underlying25
 have HR0 := Z.k hr0
 have HC0 := Z.k hc0
 clear hr0 hc0
 have HB := Z.k (Below.refl w.heap.size w)
 have H := h
 clear h
 unfold spec_DrawReachOf.f at H
 revert H; refine Z.bd ?_; rintro ⟨t41, t52⟩ A2 H
 try dsimp only at H
 revert H; refine Z.bd ?_; rintro ⟨t32, t33, t35, t53, t47⟩ A3 H
 try dsimp only at H
 revert H; refine Z.bd ?_; rintro ⟨t50, t65⟩ A4 H
 try dsimp only at H
 simp only [Option.some.injEq, Prod.mk.injEq] at H
 obtain ⟨rfl, rfl, rfl, rfl, rfl⟩ := H
 go_enter Try.func15, Try.ntmps15
 try go_wp2_with (first | ((with_reducible refine gate_dst (N := 2) rfl ?_); refine Z.bx #[.int .i64 0, .slice none 0 0, .slice none 0 0] 28 HB ?_; clear HB; intro gb27 w5 BK27 GE27 HB hg hb; have GW27 := GE27; clear hb hg) | ((with_reducible refine gate_callee (f := 56) rfl ?_); refine goesL_ (some 9) rfl rfl Try.func56 (by kernel_rfl) rfl #[.slice A0 l0.length c0] rfl Z.ar ?_; (with_reducible refine (spec_l20Open.calls _ _ l0 t41 t52 w _ ?q1 ?q2 ?q3 A2.out).mono ?_); (case q1 => repeat (first | (with_reducible first | exact HB.out | apply below_alloc | apply pw_below_drewN | apply below_drew1 | refine below_set ?_ GE27.out) | exact HB.out)); (case q2 => exact HR0.out); (case q3 => exact HC0.out); rintro e w6 ⟨g29, rfl, hi, hb, hb2⟩; refine ⟨_, rfl, ?_⟩; replace HB := Z.k (hb); have HI29 := Z.k (hi); have NB29_27 := Z.k (IsS92.ne_blk hi (blk_below (g := gb27) (o := .cells #[.int .i64 0, .slice none 0 0, .slice none 0 0] 28 (0, 0)) (Z.bk BK27.out) hb2) (by decide)); have NB27_29 := Z.k (Ne.symm (IsS92.ne_blk hi (blk_below (g := gb27) (o := .cells #[.int .i64 0, .slice none 0 0, .slice none 0 0] 28 (0, 0)) (Z.bk BK27.out) hb2) (by decide))); replace BK27 := Z.k (blk_below (g := gb27) (o := .cells #[.int .i64 0, .slice none 0 0, .slice none 0 0] 28 (0, 0)) (Z.bk BK27.out) hb2); (try clear hb hb2 hk); (try clear hi)) | ((with_reducible refine gate_callee (f := 57) rfl ?_); refine goesL_ (some 12) rfl rfl Try.func57 (by kernel_rfl) rfl #[.pointer (some ⟨g29, 0, none⟩), .int .i64 14] rfl Z.ar ?_; (with_reducible refine (spec_l20State.calls k g29 t41 t52 14 t32 t33 t35 t53 t47 w _ ?q1 ?q2 A3.out).mono ?_); (case q1 => repeat (first | (with_reducible first | exact HI29.out | apply IsS92.alloc | apply IsS92.drewN | apply IsS92.drew | apply IsS92.set_1 | refine IsS92.far ?_ NB29_27.out _) | exact HI29.out)); (case q2 => repeat (first | (with_reducible first | exact HB.out | apply below_alloc | apply pw_below_drewN | apply below_drew1 | refine below_set ?_ (IsS92.ge HI29.out) | refine below_set ?_ GE27.out) | exact HB.out)); rintro e w7 ⟨v66, v67, v54, rfl, ho0, ho1, ho2, hi, hb, hk⟩; refine ⟨_, rfl, ?_⟩; replace BK27 := Z.kb hk BK27 NB27_29; have HO38 := Z.k (Kd.R_lower ho0 (below_size (by repeat (first | (with_reducible first | exact HB.out | apply below_alloc | apply pw_below_drewN | apply below_drew1 | refine below_set ?_ (IsS92.ge HI29.out) | refine below_set ?_ GE27.out) | exact HB.out)))); have HO42 := Z.k (Kd.R_lower ho1 (below_size (by repeat (first | (with_reducible first | exact HB.out | apply below_alloc | apply pw_below_drewN | apply below_drew1 | refine below_set ?_ (IsS92.ge HI29.out) | refine below_set ?_ GE27.out) | exact HB.out)))); have HO43 := Z.k (Kd.R_lower ho2 (below_size (by repeat (first | (with_reducible first | exact HB.out | apply below_alloc | apply pw_below_drewN | apply below_drew1 | refine below_set ?_ (IsS92.ge HI29.out) | refine below_set ?_ GE27.out) | exact HB.out)))); replace HB := Z.k (hb); replace HI29 := Z.k (hi); (try clear hb hb2 hk); (try clear hi ho0 ho1); (try clear ho2)) | ((with_reducible refine gate_dst (N := 6) rfl ?_); refine box_event ?hg (N := 6) ?hd (cs := #[.int .i64 0, .slice none 0 0, .slice none 0 0]) (t := 28) ?hr ?_; (case hd | hg => rfl); (case hr => first | (go_simp; done) | (go_simp; rfl)); intro gb24 hg w8 hbox hb; replace HO38 := Z.rb HO38 hb; replace HO42 := Z.rb HO42 hb; replace HO43 := Z.rb HO43 hb; have BK24 := Z.k (hbox); have GW24 := Z.k ((by rw [hg]; exact (below_size (by repeat (first | (with_reducible first | exact HB.out | apply below_alloc | apply pw_below_drewN | apply below_drew1 | refine below_set ?_ (IsS92.ge HI29.out) | refine below_set ?_ GE27.out) | exact HB.out))) : w.heap.size ≤ gb24)); have GE24 := Z.k ((by rw [hg]; exact (below_size (by repeat (first | (with_reducible first | exact HB.out | apply below_alloc | apply pw_below_drewN | apply below_drew1 | refine below_set ?_ (IsS92.ge HI29.out) | refine below_set ?_ GE27.out) | exact HB.out))) : w.heap.size ≤ gb24)); replace HB := Z.k (below_step (by repeat (first | (with_reducible first | exact HB.out | apply below_alloc | apply pw_below_drewN | apply below_drew1 | refine below_set ?_ (IsS92.ge HI29.out) | refine below_set ?_ GE27.out) | exact HB.out)) hb); have NB27_24 := Z.nl hg BK27; have NB24_27 := Z.ng hg BK27; replace BK27 := Z.bb BK27 hb; have NB29_24 := Z.k ((by rw [hg]; exact Nat.ne_of_lt (IsS92.lt (show IsS92 w _ g29 t41 t47 from by repeat (first | (with_reducible first | exact HI29.out | apply IsS92.alloc | apply IsS92.drewN | apply IsS92.drew | apply IsS92.set_1 | refine IsS92.far ?_ NB29_27.out _) | exact HI29.out))) : g29 ≠ gb24)); have NB24_29 := Z.k ((by rw [hg]; exact Nat.ne_of_gt (IsS92.lt (show IsS92 w _ g29 t41 t47 from by repeat (first | (with_reducible first | exact HI29.out | apply IsS92.alloc | apply IsS92.drewN | apply IsS92.drew | apply IsS92.set_1 | refine IsS92.far ?_ NB29_27.out _) | exact HI29.out))) : gb24 ≠ g29)); replace HI29 := Z.k (IsS92.below (by repeat (first | (with_reducible first | exact HI29.out | apply IsS92.alloc | apply IsS92.drewN | apply IsS92.drew | apply IsS92.set_1 | refine IsS92.far ?_ NB29_27.out _) | exact HI29.out)) hb); clear hb hbox hg; have hnb9 := NB24_27.out; have hnc9 := NB27_24.out; have hnb10 := NB24_29.out; have hnc10 := NB29_24.out; have hcz11 := Z.c3 BK24.out; obtain ⟨Ao12, co12, eo12⟩ := Kd.R_slice HO38.out; subst eo12; obtain ⟨Ao13, co13, eo13⟩ := Kd.R_slice HO42.out; subst eo13))
 have n0_ : Aside0 (Kd.R (Kd.int .i64) 3 (((w8.setCell ⟨gb24, 0, none⟩ (.int .i64 t32)).setCell ⟨gb24, 1, none⟩ (.slice Ao12 t33.length co12)).setCell ⟨gb24, 2, none⟩ (.slice Ao13 t35.length co13)) w.heap.size (fun k_ => some k_ ≠ (v54 : Value).ownBlock) (.slice Ao12 t33.length co12) t33) := ⟨by (with_reducible repeat (first | apply Kd.R_alloc | apply Kd.R_drewN | apply Kd.R_drew)); exact Kd.R_mono (Kd.R_far (p := ⟨gb24, 2, none⟩) (Kd.R_far (p := ⟨gb24, 1, none⟩) (Kd.R_far (p := ⟨gb24, 0, none⟩) (Kd.R_types HO38.out BK24.out (by decide)) (fun _ hk => hk.2) (.int .i64 t32)) (fun _ hk => hk.2) (.slice Ao12 t33.length co12)) (fun _ hk => hk.2) (.slice Ao13 t35.length co13)) (fun _ hk => hk.1)⟩
 have n1_ : Aside0 (Kd.R (Kd.slice 37 k37) 34 (((w8.setCell ⟨gb24, 0, none⟩ (.int .i64 t32)).setCell ⟨gb24, 1, none⟩ (.slice Ao12 t33.length co12)).setCell ⟨gb24, 2, none⟩ (.slice Ao13 t35.length co13)) w.heap.size (fun _ => True) (.slice Ao13 t35.length co13) t35) := ⟨by (with_reducible repeat (first | apply Kd.R_alloc | apply Kd.R_drewN | apply Kd.R_drew)); exact Kd.R_mono (Kd.R_far (p := ⟨gb24, 2, none⟩) (Kd.R_far (p := ⟨gb24, 1, none⟩) (Kd.R_far (p := ⟨gb24, 0, none⟩) (Kd.R_types HO42.out BK24.out (by decide)) (fun _ hk => hk.2) (.int .i64 t32)) (fun _ hk => hk.2) (.slice Ao12 t33.length co12)) (fun _ hk => hk.2) (.slice Ao13 t35.length co13)) (fun _ hk => trivial)⟩
 have n2_ : Aside0 (Kd.R (Kd.int .i64) 3 (((w8.setCell ⟨gb24, 0, none⟩ (.int .i64 t32)).setCell ⟨gb24, 1, none⟩ (.slice Ao12 t33.length co12)).setCell ⟨gb24, 2, none⟩ (.slice Ao13 t35.length co13)) w.heap.size (fun k_ => some k_ ≠ (.slice Ao12 t33.length co12 : Value).ownBlock) v54 t53) := ⟨by (with_reducible repeat (first | apply Kd.R_alloc | apply Kd.R_drewN | apply Kd.R_drew)); exact Kd.R_mono (Kd.R_far (p := ⟨gb24, 2, none⟩) (Kd.R_far (p := ⟨gb24, 1, none⟩) (Kd.R_far (p := ⟨gb24, 0, none⟩) (Kd.R_types HO43.out BK24.out (by decide)) (fun _ hk => hk.2) (.int .i64 t32)) (fun _ hk => hk.2) (.slice Ao12 t33.length co12)) (fun _ hk => hk.2) (.slice Ao13 t35.length co13)) (fun _ hk => hk.1)⟩
 have n3_ : Aside0 ((((w8.setCell ⟨gb24, 0, none⟩ (.int .i64 t32)).setCell ⟨gb24, 1, none⟩ (.slice Ao12 t33.length co12)).setCell ⟨gb24, 2, none⟩ (.slice Ao13 t35.length co13)).heap[gb27]? = some (.cells #[.int .i64 0, .slice none 0 0, .slice none 0 0] 28 (0, 0))) := ⟨by (with_reducible repeat (first | refine blk_drewN ?_ _ | refine blk_drew ?_ | refine blk_alloc ?_ _)); refine blk_far ?_ NB27_24.out _; (with_reducible repeat (first | refine blk_drewN ?_ _ | refine blk_drew ?_ | refine blk_alloc ?_ _)); refine blk_far ?_ NB27_24.out _; (with_reducible repeat (first | refine blk_drewN ?_ _ | refine blk_drew ?_ | refine blk_alloc ?_ _)); refine blk_far ?_ NB27_24.out _; (with_reducible repeat (first | refine blk_drewN ?_ _ | refine blk_drew ?_ | refine blk_alloc ?_ _)); exact BK27.out⟩
 have n4_ : Aside0 ((((w8.setCell ⟨gb24, 0, none⟩ (.int .i64 t32)).setCell ⟨gb24, 1, none⟩ (.slice Ao12 t33.length co12)).setCell ⟨gb24, 2, none⟩ (.slice Ao13 t35.length co13)).heap[gb24]? = some (.cells #[.int .i64 t32, .slice Ao12 t33.length co12, .slice Ao13 t35.length co13] 28 (0, 0))) := ⟨by (with_reducible repeat (first | refine blk_drewN ?_ _ | refine blk_drew ?_ | refine blk_alloc ?_ _)); refine blk_put (cs := #[.int .i64 t32, .slice Ao12 t33.length co12, .slice none 0 0]) ?_ 2 _ rfl; (with_reducible repeat (first | refine blk_drewN ?_ _ | refine blk_drew ?_ | refine blk_alloc ?_ _)); refine blk_put (cs := #[.int .i64 t32, .slice none 0 0, .slice none 0 0]) ?_ 1 _ rfl; (with_reducible repeat (first | refine blk_drewN ?_ _ | refine blk_drew ?_ | refine blk_alloc ?_ _)); refine blk_put (cs := #[.int .i64 0, .slice none 0 0, .slice none 0 0]) ?_ 0 _ rfl; (with_reducible repeat (first | refine blk_drewN ?_ _ | refine blk_drew ?_ | refine blk_alloc ?_ _)); exact BK24.out⟩
 have n5_ : Aside0 (IsS92 w (((w8.setCell ⟨gb24, 0, none⟩ (.int .i64 t32)).setCell ⟨gb24, 1, none⟩ (.slice Ao12 t33.length co12)).setCell ⟨gb24, 2, none⟩ (.slice Ao13 t35.length co13)) g29 t41 t47) := ⟨by repeat (first | (with_reducible first | exact HI29.out | apply IsS92.alloc | apply IsS92.drewN | apply IsS92.drew | apply IsS92.set_1 | refine IsS92.far ?_ NB29_27.out _ | refine IsS92.far ?_ NB29_24.out _) | exact HI29.out)⟩
 have n6_ : Aside0 (Below w.heap.size w (((w8.setCell ⟨gb24, 0, none⟩ (.int .i64 t32)).setCell ⟨gb24, 1, none⟩ (.slice Ao12 t33.length co12)).setCell ⟨gb24, 2, none⟩ (.slice Ao13 t35.length co13))) := ⟨by repeat (first | (with_reducible first | exact HB.out | apply below_alloc | apply pw_below_drewN | apply below_drew1 | refine below_set ?_ (IsS92.ge HI29.out) | refine below_set ?_ GE27.out | refine below_set ?_ GE24.out) | exact HB.out)⟩
 (try clear HO38)
 (try clear HO42)
 (try clear HO43)
 (try clear BK27)
 (try clear BK24)
 (try clear HI29)
 (try clear HB)
 generalize (((w8.setCell ⟨gb24, 0, none⟩ (.int .i64 t32)).setCell ⟨gb24, 1, none⟩ (.slice Ao12 t33.length co12)).setCell ⟨gb24, 2, none⟩ (.slice Ao13 t35.length co13)) = w14 at n0_ n1_ n2_ n3_ n4_ n5_ n6_ ⊢
 have HO38 := n0_
 have HO42 := n1_
 have HO43 := n2_
 have BK27 := n3_
 have BK24 := n4_
 have HI29 := n5_
 have HB := n6_
 clear n0_ n1_ n2_ n3_ n4_ n5_ n6_
 replace HO38 := Z.k (Kd.R_drew HO38.out)
 replace HO42 := Z.k (Kd.R_drew HO42.out)
 replace HO43 := Z.k (Kd.R_drew HO43.out)
 replace BK27 := Z.k (blk_drew BK27.out)
 replace BK24 := Z.k (blk_drew BK24.out)
 replace HI29 := Z.k (IsS92.drew HI29.out)
 replace HB := Z.k (below_drew1 HB.out)
 refine start_ (n := 9) (S := fun w' => w'.cell? ⟨gb24, 0, none⟩ = some (.int .i64 t32) ∧ w'.cell? ⟨gb24, 1, none⟩ = some (.slice Ao12 t33.length co12) ∧ w'.cell? ⟨gb24, 2, none⟩ = some (.slice Ao13 t35.length co13)) (ds := []) (Z.mb 9 0) (by kernel_rfl) rfl rfl ⟨Z.b BK24 0, Z.b BK24 1, Z.b BK24 2⟩ (fun hHeld => ?_); refine with_tabW spec_DrawReachOf.tab3 spec_DrawReachOf.bits3 (fun HT_ HW_ => ?_)
 generalize w14.drew = w15 at HO38 HO42 HO43 BK27 BK24 HI29 HB hHeld ⊢
 refine Z.pv 1 16 9 2 HT_.out ?_
 refine Z.pv 2 17 9 6 HT_.out ?_
 refine Z.pv 3 18 9 14 HT_.out ?_
 refine Z.t3 0 15 9 15 HT_.out HW_.out hHeld ?_
 refine Z.t3 4 19 9 31 HT_.out HW_.out hHeld ?_
 refine one_ (i := 5) (N := some 20) (Z.mb 9 63) rfl rfl (one_of HT_.out (by kernel_rfl)) (by decide) (fun K hK => ?_)
 refine goes_ Try.func58 (by kernel_rfl) rfl #[.pointer (some ⟨g29, 0, none⟩), .agg #[.int .i64 t32, .slice Ao12 t33.length co12]] (by rfl) rfl rfl Z.ar ?_
 with_reducible refine (spec_l20Crowd.calls k g29 t41 t47 t32 _ _ t33 t50 t65 w _ ?q1 ?q2 ?q3 ?q4 ?q5 A4.out).mono ?_
 (case q1 => repeat (first | (with_reducible first | exact HI29.out | apply IsS92.alloc | apply IsS92.drewN | apply IsS92.drew | apply IsS92.set_1 | refine IsS92.far ?_ NB29_27.out _ | refine IsS92.far ?_ NB29_24.out _) | exact HI29.out))
 (case q2 => repeat (first | (with_reducible first | exact HB.out | apply below_alloc | apply pw_below_drewN | apply below_drew1 | refine below_set ?_ (IsS92.ge HI29.out) | refine below_set ?_ GE27.out | refine below_set ?_ GE24.out) | exact HB.out))
 (case q3 => exact Z.rr HO38)
 (case q4 => exact (Kd.R_reads' HO38.out).2.1)
 (case q5 => exact far_slice (IsS92.own_ne HI29.out HO38.out (by decide)))
 rintro e w16 ⟨rfl, hi, hb, hk⟩
 refine ⟨_, rfl, ?_⟩
 replace BK27 := Z.kb hk BK27 NB27_29
 replace HO38 := Z.k (Kd.R_mono (Kd.R_keep (IsS92.apart (show IsS92 w _ g29 t41 t47 from by repeat (first | (with_reducible first | exact HI29.out | apply IsS92.alloc | apply IsS92.drewN | apply IsS92.drew | apply IsS92.set_1 | refine IsS92.far ?_ NB29_27.out _ | refine IsS92.far ?_ NB29_24.out _) | exact HI29.out)) (by (with_reducible repeat (first | apply Kd.R_alloc | apply Kd.R_drewN | apply Kd.R_drew)); exact HO38.out) (by decide)) hk (fun _ h => h.2)) (fun _ h => h.1))
 replace HO42 := Z.k (Kd.R_mono (Kd.R_keep (IsS92.apart (show IsS92 w _ g29 t41 t47 from by repeat (first | (with_reducible first | exact HI29.out | apply IsS92.alloc | apply IsS92.drewN | apply IsS92.drew | apply IsS92.set_1 | refine IsS92.far ?_ NB29_27.out _ | refine IsS92.far ?_ NB29_24.out _) | exact HI29.out)) (by (with_reducible repeat (first | apply Kd.R_alloc | apply Kd.R_drewN | apply Kd.R_drew)); exact HO42.out) (by decide)) hk (fun _ h => h.2)) (fun _ h => h.1))
 replace HO43 := Z.k (Kd.R_mono (Kd.R_keep (IsS92.apart (show IsS92 w _ g29 t41 t47 from by repeat (first | (with_reducible first | exact HI29.out | apply IsS92.alloc | apply IsS92.drewN | apply IsS92.drew | apply IsS92.set_1 | refine IsS92.far ?_ NB29_27.out _ | refine IsS92.far ?_ NB29_24.out _) | exact HI29.out)) (by (with_reducible repeat (first | apply Kd.R_alloc | apply Kd.R_drewN | apply Kd.R_drew)); exact HO43.out) (by decide)) hk (fun _ h => h.2)) (fun _ h => h.1))
 replace BK24 := Z.kb hk BK24 NB24_29
 replace HB := Z.k (hb)
 replace HI29 := Z.k (hi)
 (try clear hb)
 (try clear hb2)
 (try clear hk)
 (try clear hi)
 refine hK.out _ _ ⟨Z.b BK24 0, Z.b BK24 1, Z.b BK24 2⟩ (fun hHeld => ?_)
 clear hK K
 refine Z.nm ?_
 refine one_ (i := 6) (N := none) #[true, true, true, true, true, true, true, false, false] rfl rfl (one_of HT_.out (by kernel_rfl)) (by decide) (fun K hK => ?_)
 have hs17 : w16.cell? ⟨gb27, 0, none⟩ = some (.int .i64 0) := Z.b BK27 0
 have hfs17 := blk_frozen BK27.out 0
 have hns17_1 := NB24_27.out
 have hms17_1 := NB27_24.out
 have hs18 : w16.cell? ⟨gb27, 1, none⟩ = some (.slice none 0 0) := Z.b BK27 1
 have hfs18 := blk_frozen BK27.out 1
 have hns18_1 := NB24_27.out
 have hms18_1 := NB27_24.out
 have hs19 : w16.cell? ⟨gb27, 2, none⟩ = some (.slice none 0 0) := Z.b BK27 2
 have hfs19 := blk_frozen BK27.out 2
 have hns19_1 := NB24_27.out
 have hms19_1 := NB27_24.out
 refine skip_ (w1 := ?_) (by rfl) rfl ?_ ?_
 rotate_left
 ·go_simp
  rfl
 refine hK.out _ _ ⟨(Z.f3 NB24_27.out (hHeld.1)), (Z.f3 NB24_27.out (hHeld.2.1)), (Z.f3 NB24_27.out (hHeld.2.2))⟩ (fun hHeld => ?_)
 clear hK K
 refine Z.pv 7 3 9 255 HT_.out ?_
 refine Z.pv 8 4 9 511 HT_.out ?_
 refine done_ (done_of HT_.out (by kernel_rfl)) ?_
 try go_wp2
 refine bodyPost_ret (results_ctt rfl _ _ gb27 28 #[.int .i64 t32, .slice Ao12 t33.length co12, .slice Ao13 t35.length co13] (0, 0) _ rfl (by (with_reducible repeat (first | refine blk_drewN ?_ _ | refine blk_drew ?_ | refine blk_alloc ?_ _)); refine blk_put (cs := #[.int .i64 t32, .slice Ao12 t33.length co12, .slice none 0 0]) ?_ 2 _ rfl; (with_reducible repeat (first | refine blk_drewN ?_ _ | refine blk_drew ?_ | refine blk_alloc ?_ _)); refine blk_put (cs := #[.int .i64 t32, .slice none 0 0, .slice none 0 0]) ?_ 1 _ rfl; (with_reducible repeat (first | refine blk_drewN ?_ _ | refine blk_drew ?_ | refine blk_alloc ?_ _)); refine blk_put (cs := #[.int .i64 0, .slice none 0 0, .slice none 0 0]) ?_ 0 _ rfl; (with_reducible repeat (first | refine blk_drewN ?_ _ | refine blk_drew ?_ | refine blk_alloc ?_ _)); exact BK27.out) Try.underlying28 rfl (by kernel_rfl)) rfl ?_
 exact ⟨_, _, _, by first | rfl | (simp [errW_none, errW_some] <;> rfl) | (simp [*, errW_none, errW_some] <;> rfl), by (with_reducible repeat (first | apply Kd.R_alloc | apply Kd.R_drewN | apply Kd.R_drew)); exact Kd.R_mono (Kd.R_far (p := ⟨gb27, 2, none⟩) (Kd.R_far (p := ⟨gb27, 1, none⟩) (Kd.R_far (p := ⟨gb27, 0, none⟩) (Kd.R_types HO38.out BK27.out (by decide)) (fun _ hk => hk.2) (.int .i64 t32)) (fun _ hk => hk.2) (.slice Ao12 t33.length co12)) (fun _ hk => hk.2) (.slice Ao13 t35.length co13)) (fun _ hk => hk.1), by (with_reducible repeat (first | apply Kd.R_alloc | apply Kd.R_drewN | apply Kd.R_drew)); exact Kd.R_mono (Kd.R_far (p := ⟨gb27, 2, none⟩) (Kd.R_far (p := ⟨gb27, 1, none⟩) (Kd.R_far (p := ⟨gb27, 0, none⟩) (Kd.R_types HO42.out BK27.out (by decide)) (fun _ hk => hk.2) (.int .i64 t32)) (fun _ hk => hk.2) (.slice Ao12 t33.length co12)) (fun _ hk => hk.2) (.slice Ao13 t35.length co13)) (fun _ hk => trivial), by (with_reducible repeat (first | apply Kd.R_alloc | apply Kd.R_drewN | apply Kd.R_drew)); exact Kd.R_mono (Kd.R_far (p := ⟨gb27, 2, none⟩) (Kd.R_far (p := ⟨gb27, 1, none⟩) (Kd.R_far (p := ⟨gb27, 0, none⟩) (Kd.R_types HO43.out BK27.out (by decide)) (fun _ hk => hk.2) (.int .i64 t32)) (fun _ hk => hk.2) (.slice Ao12 t33.length co12)) (fun _ hk => hk.2) (.slice Ao13 t35.length co13)) (fun _ hk => hk.1), by repeat (first | (with_reducible first | exact HB.out | apply below_alloc | apply pw_below_drewN | apply below_drew1 | refine below_set ?_ (IsS92.ge HI29.out) | refine below_set ?_ GE27.out | refine below_set ?_ GE24.out) | exact HB.out)⟩

end Go.Proofs.Ytkogboechfieeaa.PAll

/- Walks of functions that laws of this seat reach, in the form of the print. -/
import Derived.Test.YtkogboechfieeaaCAll40
-- PRINTED
namespace Go.Proofs.Ytkogboechfieeaa.PAll
open Go.RowKit Go.Proofs.YtkogboechfieeaaW.PrintWords Go.Proofs.YtkogboechfieeaaW.PrintLast Go.Proofs.YtkogboechfieeaaW.PrintMore
attribute [local go_sem] max2_int min2_int max_two min_two max_three min_three max_four min_four
set_option linter.unusedVariables false
set_option linter.unusedSimpArgs false

/-! ### spec_l20Crowd: function 58 -/
def spec_l20Crowd.f (k : Nat) (s0_0 : List Int) (s0_1 : Int) (a1_0 : Int) (l1_1 : List Int) : Option (Int × Int) := (spec_l20Rd_pick.f k s0_0 s0_1 (wrap64 (2 ^ (mn (mx a1_0 1) 6).toNat))).bind fun bt444 => ((spec_l20Rd_pick.f k s0_0 bt444.2 3).bind fun bt446 => (if bt446.1 = 0 then ((spec_l20Rd_pick.f k s0_0 bt446.2 (wrap64 (2 ^ (mn (mx a1_0 1) 6).toNat))).bind fun bt448 => ((spec_l20Rd_pick.f k s0_0 bt448.2 60).bind fun bt450 => (some (wrap64 ((Go.bits .or .i64 bt444.1 bt448.1) + (wrap64 ((wrap64 (Int.tdiv bt450.1 59)) * 64))), bt450.2)))) else ((spec_l20Rd_pick.f k s0_0 bt446.2 60).bind fun bt452 => (some (wrap64 (bt444.1 + (wrap64 ((wrap64 (Int.tdiv bt452.1 59)) * 64))), bt452.2)))))
set_option maxHeartbeats 8000000 in
set_option maxRecDepth 100000 in
theorem spec_l20Crowd.calls (k : Nat) (g : Nat) (s0_0 : List Int) (s0_1 : Int) (a1_0 : Int) (A1_1 : Option Addr) (c1_1 : Nat) (l1_1 : List Int) (r1 : Int) (r2 : Int) (w0 w : World) (hI : IsS92 w0 w g s0_0 s0_1) (hB : Below w0.heap.size w0 w) (hr1_1 : Kd.C (Kd.int .i64) w A1_1 l1_1.length l1_1) (hc1_1 : l1_1.length ≤ c1_1) (hf1_1 : ∀ ad, A1_1 = some ad → 0 < l1_1.length → ad.block ≠ g) (h : spec_l20Crowd.f k s0_0 s0_1 a1_0 l1_1 = some (r1, r2)) :
  Calls Try.prog 58 #[.pointer (some ⟨g, 0, none⟩), .agg #[.int .i64 a1_0, .slice A1_1 l1_1.length c1_1]] w fun e w' => e = .returned (.int .i64 r1) ∧ IsS92 w0 w' g s0_0 r2 ∧ Below w0.heap.size w0 w' ∧ KeepBut w w' g none := by
 have hu25 := Try.underlying25
 have HR1_1 := Z.k hr1_1
 have HC1_1 := Z.k hc1_1
 clear hr1_1 hc1_1
 have HI0 := Z.k hI
 have HK := Z.k (KeepBut.refl w g none)
 have HL := Z.k hB.size
 clear hI
 have HW0 := Z.k hB.size
 have HB := Z.k hB
 clear hB
 have H := h
 clear h
 unfold spec_l20Crowd.f at H
 obtain ⟨ji3, hji3⟩ : ∃ j_ : Int, (mx a1_0 1) = j_ := ⟨_, rfl⟩
 replace H : ((spec_l20Rd_pick.f k s0_0 s0_1 (wrap64 (2 ^ (mn (ji3) 6).toNat))).bind fun bt444 => ((spec_l20Rd_pick.f k s0_0 bt444.2 3).bind fun bt446 => (if bt446.1 = 0 then ((spec_l20Rd_pick.f k s0_0 bt446.2 (wrap64 (2 ^ (mn (ji3) 6).toNat))).bind fun bt448 => ((spec_l20Rd_pick.f k s0_0 bt448.2 60).bind fun bt450 => (some (wrap64 ((Go.bits .or .i64 bt444.1 bt448.1) + (wrap64 ((wrap64 (Int.tdiv bt450.1 59)) * 64))), bt450.2)))) else ((spec_l20Rd_pick.f k s0_0 bt446.2 60).bind fun bt452 => (some (wrap64 (bt444.1 + (wrap64 ((wrap64 (Int.tdiv bt452.1 59)) * 64))), bt452.2)))))) = some (r1, r2) := by (rw [hji3] at H; exact H)
 (try (have hji3l : 1 ≤ ji3 := by (rw [← hji3]; unfold mx; (repeat' split) <;> omega)))
 (try (have hji3m : 0 ≤ ji3 := by omega))
 have hji3_ : (if a1_0 < 1 then 1 else a1_0) = ji3 := hji3
 obtain ⟨ji4, hji4⟩ : ∃ j_ : Int, (mn (ji3) 6) = j_ := ⟨_, rfl⟩
 replace H : ((spec_l20Rd_pick.f k s0_0 s0_1 (wrap64 (2 ^ (ji4).toNat))).bind fun bt444 => ((spec_l20Rd_pick.f k s0_0 bt444.2 3).bind fun bt446 => (if bt446.1 = 0 then ((spec_l20Rd_pick.f k s0_0 bt446.2 (wrap64 (2 ^ (ji4).toNat))).bind fun bt448 => ((spec_l20Rd_pick.f k s0_0 bt448.2 60).bind fun bt450 => (some (wrap64 ((Go.bits .or .i64 bt444.1 bt448.1) + (wrap64 ((wrap64 (Int.tdiv bt450.1 59)) * 64))), bt450.2)))) else ((spec_l20Rd_pick.f k s0_0 bt446.2 60).bind fun bt452 => (some (wrap64 (bt444.1 + (wrap64 ((wrap64 (Int.tdiv bt452.1 59)) * 64))), bt452.2)))))) = some (r1, r2) := by (rw [hji4] at H; exact H)
 have hji4_ : (if 6 < (ji3) then 6 else (ji3)) = ji4 := hji4
 revert H; refine Z.bd ?_; rintro ⟨t444, t445⟩ A5 H
 try dsimp only at H
 revert H; refine Z.bd ?_; rintro ⟨t446, t447⟩ A6 H
 try dsimp only at H
 by_cases c7 : t446 = 0
 ·rw [if_pos c7] at H
  have c7b0 : (t446 == 0) = true := beq_iff_eq.mpr c7
  have c7b1 : (t446 != 0) = false := bne_eq_false_iff_eq.mpr c7
  clear c7
  revert H; refine Z.bd ?_; rintro ⟨t448, t449⟩ A8 H
  try dsimp only at H
  revert H; refine Z.bd ?_; rintro ⟨t450, t451⟩ A9 H
  try dsimp only at H
  simp only [Option.some.injEq, Prod.mk.injEq] at H
  obtain ⟨rfl, rfl⟩ := H
  go_enter Try.func58, Try.ntmps58
  go_wp2_with (first | ((with_reducible refine gate_dst (N := 3) rfl ?_); refine box_event ?hg (N := 3) ?hd (cs := #[.int .i64 a1_0, .slice A1_1 l1_1.length c1_1]) (t := 25) ?hr ?_; (case hd | hg => rfl); (case hr => (go_simp; done)); intro gb443 hg w10 hbox hb; replace HB := Z.k (below_step HB.out hb); have BK443 := Z.k hbox; have GW443 := Z.k ((by rw [hg]; exact (keep_size (w := w) (g := g) (row := none) HK.out) : w.heap.size ≤ gb443)); have GE443 := Z.k ((Nat.le_trans HW0.out (by rw [hg]; exact (keep_size (w := w) (g := g) (row := none) HK.out) : w.heap.size ≤ gb443) : w0.heap.size ≤ gb443)); replace HK := Z.k (KeepBut.trans HK.out (KeepBut.of_below hb g none) (.inl rfl)); have NB0_443 := Z.k ((by rw [hg]; exact Nat.ne_of_lt (IsS92.lt HI0.out) : g ≠ gb443)); have NB443_0 := Z.k ((by rw [hg]; exact Nat.ne_of_gt (IsS92.lt HI0.out) : gb443 ≠ g)); replace HI0 := Z.k (IsS92.below HI0.out hb); clear hb hbox hg; have hnb11 := NB443_0.out; have hnc11 := NB0_443.out; have hcz12 := Z.c2 BK443.out) | ((with_reducible refine gate_callee (f := 73) rfl ?_); refine goesL_ (some 14) rfl rfl Try.func73 (by kernel_rfl) rfl #[.pointer (some ⟨g, 0, none⟩), .int .i64 (wrap64 (2 ^ (ji4).toNat))] rfl (by (try simp only [List.map_toArray, List.map_cons, List.map_nil]); rfl) ?_; (with_reducible refine (spec_l20Rd_pick.calls k g s0_0 s0_1 (wrap64 (2 ^ (ji4).toNat)) t444 t445 w0 _ ?q1 ?q2 A5.out).mono ?_); (case q1 => exact HI0.out); (case q2 => exact HB.out); rintro e w13 ⟨rfl, hi, hb, hk⟩; refine ⟨_, rfl, ?_⟩; replace BK443 := Z.kb hk BK443 NB443_0; replace HK := Z.k (KeepBut.trans HK.out hk (.inl rfl)); replace HB := Z.k hb; replace HI0 := Z.k hi; (try clear hb hk hi)) | ((with_reducible refine gate_callee (f := 73) rfl ?_); refine goesL_ (some 16) rfl rfl Try.func73 (by kernel_rfl) rfl #[.pointer (some ⟨g, 0, none⟩), .int .i64 3] rfl Z.ar ?_; (with_reducible refine (spec_l20Rd_pick.calls k g s0_0 t445 3 t446 t447 w0 _ ?q1 ?q2 A6.out).mono ?_); (case q1 => exact HI0.out); (case q2 => exact HB.out); rintro e w14 ⟨rfl, hi, hb, hk⟩; refine ⟨_, rfl, ?_⟩; replace BK443 := Z.kb hk BK443 NB443_0; replace HK := Z.k (KeepBut.trans HK.out hk (.inl rfl)); replace HB := Z.k hb; replace HI0 := Z.k hi; (try clear hb hk hi)) | ((with_reducible refine gate_callee (f := 73) rfl ?_); refine goesL_ (some 22) rfl rfl Try.func73 (by kernel_rfl) rfl #[.pointer (some ⟨g, 0, none⟩), .int .i64 (wrap64 (2 ^ (ji4).toNat))] rfl (by (try simp only [List.map_toArray, List.map_cons, List.map_nil]); rfl) ?_; (with_reducible refine (spec_l20Rd_pick.calls k g s0_0 t447 (wrap64 (2 ^ (ji4).toNat)) t448 t449 w0 _ ?q1 ?q2 A8.out).mono ?_); (case q1 => exact HI0.out); (case q2 => exact HB.out); rintro e w15 ⟨rfl, hi, hb, hk⟩; refine ⟨_, rfl, ?_⟩; replace BK443 := Z.kb hk BK443 NB443_0; replace HK := Z.k (KeepBut.trans HK.out hk (.inl rfl)); replace HB := Z.k hb; replace HI0 := Z.k hi; (try clear hb hk hi)) | ((with_reducible refine gate_callee (f := 73) rfl ?_); refine goesL_ (some 26) rfl rfl Try.func73 (by kernel_rfl) rfl #[.pointer (some ⟨g, 0, none⟩), .int .i64 60] rfl Z.ar ?_; (with_reducible refine (spec_l20Rd_pick.calls k g s0_0 t449 60 t450 t451 w0 _ ?q1 ?q2 A9.out).mono ?_); (case q1 => exact HI0.out); (case q2 => exact HB.out); rintro e w16 ⟨rfl, hi, hb, hk⟩; refine ⟨_, rfl, ?_⟩; replace BK443 := Z.kb hk BK443 NB443_0; replace HK := Z.k (KeepBut.trans HK.out hk (.inl rfl)); replace HB := Z.k hb; replace HI0 := Z.k hi; (try clear hb hk hi)))
  go_ret
  exact ⟨by rfl, HI0.out, HB.out, HK.out⟩
 rw [if_neg c7] at H
 have c7b0 : (t446 == 0) = false := beq_eq_false_iff_ne.mpr c7
 have c7b1 : (t446 != 0) = true := bne_iff_ne.mpr c7
 revert H; refine Z.bd ?_; rintro ⟨t452, t453⟩ A17 H
 try dsimp only at H
 simp only [Option.some.injEq, Prod.mk.injEq] at H
 obtain ⟨rfl, rfl⟩ := H
 go_enter Try.func58, Try.ntmps58
 go_wp2_with (first | ((with_reducible refine gate_dst (N := 3) rfl ?_); refine box_event ?hg (N := 3) ?hd (cs := #[.int .i64 a1_0, .slice A1_1 l1_1.length c1_1]) (t := 25) ?hr ?_; (case hd | hg => rfl); (case hr => (go_simp; done)); intro gb443 hg w18 hbox hb; replace HB := Z.k (below_step HB.out hb); have BK443 := Z.k hbox; have GW443 := Z.k ((by rw [hg]; exact (keep_size (w := w) (g := g) (row := none) HK.out) : w.heap.size ≤ gb443)); have GE443 := Z.k ((Nat.le_trans HW0.out (by rw [hg]; exact (keep_size (w := w) (g := g) (row := none) HK.out) : w.heap.size ≤ gb443) : w0.heap.size ≤ gb443)); replace HK := Z.k (KeepBut.trans HK.out (KeepBut.of_below hb g none) (.inl rfl)); have NB0_443 := Z.k ((by rw [hg]; exact Nat.ne_of_lt (IsS92.lt HI0.out) : g ≠ gb443)); have NB443_0 := Z.k ((by rw [hg]; exact Nat.ne_of_gt (IsS92.lt HI0.out) : gb443 ≠ g)); replace HI0 := Z.k (IsS92.below HI0.out hb); clear hb hbox hg; have hnb19 := NB443_0.out; have hnc19 := NB0_443.out; have hcz20 := Z.c2 BK443.out) | ((with_reducible refine gate_callee (f := 73) rfl ?_); refine goesL_ (some 14) rfl rfl Try.func73 (by kernel_rfl) rfl #[.pointer (some ⟨g, 0, none⟩), .int .i64 (wrap64 (2 ^ (ji4).toNat))] rfl (by (try simp only [List.map_toArray, List.map_cons, List.map_nil]); rfl) ?_; (with_reducible refine (spec_l20Rd_pick.calls k g s0_0 s0_1 (wrap64 (2 ^ (ji4).toNat)) t444 t445 w0 _ ?q1 ?q2 A5.out).mono ?_); (case q1 => exact HI0.out); (case q2 => exact HB.out); rintro e w21 ⟨rfl, hi, hb, hk⟩; refine ⟨_, rfl, ?_⟩; replace BK443 := Z.kb hk BK443 NB443_0; replace HK := Z.k (KeepBut.trans HK.out hk (.inl rfl)); replace HB := Z.k hb; replace HI0 := Z.k hi; (try clear hb hk hi)) | ((with_reducible refine gate_callee (f := 73) rfl ?_); refine goesL_ (some 16) rfl rfl Try.func73 (by kernel_rfl) rfl #[.pointer (some ⟨g, 0, none⟩), .int .i64 3] rfl Z.ar ?_; (with_reducible refine (spec_l20Rd_pick.calls k g s0_0 t445 3 t446 t447 w0 _ ?q1 ?q2 A6.out).mono ?_); (case q1 => exact HI0.out); (case q2 => exact HB.out); rintro e w22 ⟨rfl, hi, hb, hk⟩; refine ⟨_, rfl, ?_⟩; replace BK443 := Z.kb hk BK443 NB443_0; replace HK := Z.k (KeepBut.trans HK.out hk (.inl rfl)); replace HB := Z.k hb; replace HI0 := Z.k hi; (try clear hb hk hi)) | ((with_reducible refine gate_callee (f := 73) rfl ?_); refine goesL_ (some 26) rfl rfl Try.func73 (by kernel_rfl) rfl #[.pointer (some ⟨g, 0, none⟩), .int .i64 60] rfl Z.ar ?_; (with_reducible refine (spec_l20Rd_pick.calls k g s0_0 t447 60 t452 t453 w0 _ ?q1 ?q2 A17.out).mono ?_); (case q1 => exact HI0.out); (case q2 => exact HB.out); rintro e w23 ⟨rfl, hi, hb, hk⟩; refine ⟨_, rfl, ?_⟩; replace BK443 := Z.kb hk BK443 NB443_0; replace HK := Z.k (KeepBut.trans HK.out hk (.inl rfl)); replace HB := Z.k hb; replace HI0 := Z.k hi; (try clear hb hk hi)))
 go_ret
 exact ⟨by rfl, HI0.out, HB.out, HK.out⟩

/-! ### spec_DrawReachOf: function 15 -/
def spec_DrawReachOf.f (k : Nat) (l0 : List Int) : Option (Int × List Int × (List (List (S37))) × List Int × Int) := (spec_l20Open.f l0).bind fun bt202 => ((spec_l20State.f k bt202.1 bt202.2 14).bind fun bt205 => ((spec_l20Crowd.f k bt202.1 bt205.2.2.2.2 bt205.1 bt205.2.1).bind fun bt217 => (some (bt205.1, bt205.2.1, bt205.2.2.1, bt205.2.2.2.1, bt217.1))))
end Go.Proofs.Ytkogboechfieeaa.PAll

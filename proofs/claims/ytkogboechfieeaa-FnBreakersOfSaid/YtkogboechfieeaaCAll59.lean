/- Walks of functions that laws of this seat reach, in the form of the print. -/
import Derived.Test.YtkogboechfieeaaCAll26
import Derived.Test.YtkogboechfieeaaCAll29
import Derived.Test.YtkogboechfieeaaCAll35
import Derived.Test.YtkogboechfieeaaCAll43
import Derived.Test.YtkogboechfieeaaCAll76
-- PRINTED
namespace Go.Proofs.Ytkogboechfieeaa.PAll
open Go.RowKit Go.Proofs.YtkogboechfieeaaW.PrintWords Go.Proofs.YtkogboechfieeaaW.PrintLast Go.Proofs.YtkogboechfieeaaW.PrintMore
attribute [local go_sem] max2_int min2_int max_two min_two max_three min_three max_four min_four
set_option linter.unusedVariables false
set_option linter.unusedSimpArgs false

/-! ### laws_FnBreakersOf: function 12 -/
mutual
def laws_FnBreakersOf.l0 : Nat → List Int → List Int → List Int → List Int → Int → Int → List Int → List (List (S37)) → Option (Bool)
 | 0, _, _, _, _, _, _, _, _ => none
 | k + 1, x4, x5, x6, x7, x8, x129, x113, x114 => if x8 < (x6.length : Int) then (if 0 ≤ x8 then ((impl_SafeFor.f k x129 x113 x114 x4 x5 (rd x6 x8)).bind fun t146 => (if t146 = true then (some false) else (laws_FnBreakersOf.l1 k x4 x5 x6 x7 x8 0 x129 x113 x114))) else (none)) else ((spec_StateOk.f k x129 x113 x114 x4).bind fun t147 => (if t147 = true then (if 0 ≤ x129 then ((impl_SafeFor.f k x129 x113 x114 x4 x5 (wrap64 ((shl .i64 1 x129) - 1))).bind fun t139 => ((laws_ascend.f k x6).bind fun t140 => (if t140 = true then (if t139 = true then (if (x6.length : Int) = 0 then ((laws_alive.f).bind fun t141 => (some t141)) else (some false)) else ((laws_alive.f).bind fun t142 => (some t142))) else (some false)))) else (none)) else ((laws_ascend.f k x6).bind fun t148 => (if t148 = true then ((laws_alive.f).bind fun t149 => (some t149)) else (some false)))))
def laws_FnBreakersOf.l1 : Nat → List Int → List Int → List Int → List Int → Int → Int → Int → List Int → List (List (S37)) → Option (Bool)
 | 0, _, _, _, _, _, _, _, _, _ => none
 | k + 1, x4, x5, x6, x7, x8, x9, x129, x113, x114 => if x9 < (x7.length : Int) then (if 0 ≤ x8 then (if x8 < (x6.length : Int) then (if 0 ≤ x9 then (if (Go.bits .and .i64 (rd x6 x8) (rd x7 x9)) = 0 then (some false) else (laws_FnBreakersOf.l1 k x4 x5 x6 x7 x8 (wrap64 (x9 + 1)) x129 x113 x114)) else (none)) else (none)) else (none)) else (laws_FnBreakersOf.l2 k x4 x5 x6 x7 x8 0 x129 x113 x114)
def laws_FnBreakersOf.l2 : Nat → List Int → List Int → List Int → List Int → Int → Int → Int → List Int → List (List (S37)) → Option (Bool)
 | 0, _, _, _, _, _, _, _, _, _ => none
 | k + 1, x4, x5, x6, x7, x8, x10, x129, x113, x114 => if x10 < x129 then (if 0 ≤ x8 then (if x8 < (x6.length : Int) then (if 0 ≤ x10 then (if (Int.tmod (shr .i64 (rd x6 x8) x10) 2) = 1 then ((impl_SafeFor.f k x129 x113 x114 x4 x5 (wrap64 ((rd x6 x8) - (shl .i64 1 x10)))).bind fun t138 => (if t138 = true then (laws_FnBreakersOf.l2 k x4 x5 x6 x7 x8 (wrap64 (x10 + 1)) x129 x113 x114) else (some false))) else (laws_FnBreakersOf.l2 k x4 x5 x6 x7 x8 (wrap64 (x10 + 1)) x129 x113 x114)) else (none)) else (none)) else (none)) else (laws_FnBreakersOf.l0 k x4 x5 x6 x7 (wrap64 (x8 + 1)) x129 x113 x114)
end
def laws_FnBreakersOf.f (k : Nat) (l0 : List Int) : Option (Bool) := if (l0.length : Int) > 1048576 then (some true) else ((spec_DrawBreakersOf.f k l0).bind fun bt115 => ((impl_BreakersOf.f k bt115.1 bt115.2.1 bt115.2.2.1 bt115.2.2.2.1 bt115.2.2.2.2).bind fun t118 => ((spec_BreakersOf.f k bt115.1 bt115.2.1 bt115.2.2.1 bt115.2.2.2.1 bt115.2.2.2.2).bind fun t137 => ((laws_sameInts.f k t118 t137).bind fun t150 => (if t150 = true then ((impl_GuardsOf.f k bt115.1 bt115.2.1 bt115.2.2.1 bt115.2.2.2.1 bt115.2.2.2.2).bind fun t130 => (laws_FnBreakersOf.l0 k bt115.2.2.2.1 bt115.2.2.2.2 t118 t130 0 bt115.1 bt115.2.1 bt115.2.2.1)) else (some false))))))
def laws_FnBreakersOf.T11 : Bool × List (List Nat × List Nat) := (true, [([], []), ([], []), ([], []), ([], []), ([], []), ([3, 4], [3, 4]), ([5], [5]), ([0, 1, 2, 6], [0, 1, 2, 6])])
def laws_FnBreakersOf.B11 : List Nat := [0, 0, 0, 0, 0, 24, 56, 127]
theorem laws_FnBreakersOf.tab11 : rtab .any (opsOf Try.f12 11) = laws_FnBreakersOf.T11 := by kernel_rfl
theorem laws_FnBreakersOf.bits11 : waitsOk laws_FnBreakersOf.T11.2 laws_FnBreakersOf.B11 = true := by kernel_rfl
def laws_FnBreakersOf.T16 : Bool × List (List Nat × List Nat) := (true, [([], []), ([], []), ([0, 1], [0, 1]), ([2], [2]), ([], []), ([], []), ([4, 5], [4, 5]), ([6], [6]), ([3, 7], [3, 7]), ([8], [8])])
def laws_FnBreakersOf.B16 : List Nat := [0, 0, 3, 7, 0, 0, 48, 112, 255, 511]
theorem laws_FnBreakersOf.tab16 : rtab .any (opsOf Try.f12 16) = laws_FnBreakersOf.T16 := by kernel_rfl
theorem laws_FnBreakersOf.bits16 : waitsOk laws_FnBreakersOf.T16.2 laws_FnBreakersOf.B16 = true := by kernel_rfl
def laws_FnBreakersOf.T21 : Bool × List (List Nat × List Nat) := (true, [([], []), ([], []), ([0, 1], [0, 1]), ([2], [2]), ([], []), ([3, 4], [3, 4]), ([5], [5]), ([6], [6]), ([7], [7]), ([8], [8]), ([8], [8]), ([8], [8]), ([8], [8]), ([8], [8]), ([12, 13, 8], [8, 12, 13]), ([14, 8], [8, 14]), ([8], [8]), ([16, 8], [8, 16]), ([15, 17, 8], [8, 15, 17]), ([9, 10, 11, 18, 8, 8], [8, 9, 10, 11, 18]), ([19, 8], [8, 19]), ([8, 20], [8, 20])])
def laws_FnBreakersOf.B21 : List Nat := [0, 0, 3, 7, 0, 31, 63, 127, 255, 511, 511, 511, 511, 511, 12799, 29183, 511, 66047, 258559, 524287, 1048575, 2097151]
theorem laws_FnBreakersOf.tab21 : rtab .any (opsOf Try.f12 21) = laws_FnBreakersOf.T21 := by kernel_rfl
theorem laws_FnBreakersOf.bits21 : waitsOk laws_FnBreakersOf.T21.2 laws_FnBreakersOf.B21 = true := by kernel_rfl
def laws_FnBreakersOf.T23 : Bool × List (List Nat × List Nat) := (true, [([], []), ([], []), ([0, 1], [0, 1]), ([2, 2], [2]), ([3], [3]), ([3], [3]), ([3], [3]), ([3], [3]), ([7, 3], [3, 7]), ([8, 3], [3, 8]), ([9, 3], [3, 9]), ([10, 3], [3, 10]), ([4, 5, 6, 11, 3, 3], [3, 4, 5, 6, 11]), ([3, 12], [3, 12]), ([13, 12, 0, 1, 2, 3, 4, 5, 6, 7, 8, 9, 10, 11, 12, 13], [13])])
def laws_FnBreakersOf.B23 : List Nat := [0, 0, 3, 7, 15, 15, 15, 15, 143, 399, 911, 1935, 4095, 8191, 16383]
theorem laws_FnBreakersOf.tab23 : rtab .any (opsOf Try.f12 23) = laws_FnBreakersOf.T23 := by kernel_rfl
theorem laws_FnBreakersOf.bits23 : waitsOk laws_FnBreakersOf.T23.2 laws_FnBreakersOf.B23 = true := by kernel_rfl
set_option maxHeartbeats 8000000 in
set_option maxRecDepth 100000 in
theorem laws_FnBreakersOf.calls (k : Nat) (A0 : Option Addr) (c0 : Nat) (l0 : List Int) (r : Bool) (w : World) (hr0 : Kd.C (Kd.int .u8) w A0 l0.length l0) (hc0 : l0.length ≤ c0) (h : laws_FnBreakersOf.f k l0 = some r) :
  Calls Try.prog 12 #[.slice A0 l0.length c0] w fun e w' => e = .returned (.bool r) ∧ Below w.heap.size w w' := by
 have hu28 := Try.underlying28
 have HR0 := Z.k hr0
 have HC0 := Z.k hc0
 clear hr0 hc0
 have HB := Z.k (Below.refl w.heap.size w)
 have H := h
 clear h
 unfold laws_FnBreakersOf.f at H
 by_cases c2 : (l0.length : Int) > 1048576
 ·rw [if_pos c2] at H
  have c2b0 : decide (1048576 < (l0.length : Int)) = true := decide_eq_true c2
  have c2b1 : decide (1048576 < l0.length) = true := decide_eq_true (by omega)
  clear c2
  obtain rfl := Option.some.inj H
  go_enter Try.func12, Try.ntmps12
  go_wp2
  go_ret
  exact ⟨by rfl, Z.bl HB.out⟩
 rw [if_neg c2] at H
 have c2b0 : decide (1048576 < (l0.length : Int)) = false := decide_eq_false c2
 have c2b1 : decide (1048576 < l0.length) = false := decide_eq_false (by omega)
 clear c2
 revert H; refine Z.bd ?_; rintro ⟨t115, t116, t117, t120, t121⟩ A3 H
 try dsimp only at H
 revert H; refine Z.bd ?_; rintro t118 A4 H
 revert H; refine Z.bd ?_; rintro t137 A5 H
 revert H; refine Z.bd ?_; rintro t150 A6 H
 by_cases c7 : t150 = true
 rotate_left
 ·replace c7 := Bool.eq_false_iff.mpr c7
  subst c7
  rw [if_neg (show ¬ (false = true) by decide)] at H
  obtain rfl := Option.some.inj H
  go_enter Try.func12, Try.ntmps12
  go_wp2_with (first | ((with_reducible refine gate_callee (f := 20) rfl ?_); refine goesL_ (some 17) rfl rfl Try.func20 (by kernel_rfl) rfl #[.slice A0 l0.length c0] rfl Z.ar ?_; (with_reducible refine (spec_DrawBreakersOf.calls k _ _ l0 t115 t116 t117 t120 t121 _ ?q1 ?q2 A3.out).mono ?_); (case q1 => exact HR0.out); (case q2 => exact HC0.out); rintro e w90 ⟨v151, v152, v153, v154, rfl, ho0, ho1, ho2, ho3, hb⟩; refine ⟨_, rfl, ?_⟩; have HO124 := Z.k (Kd.R_lower ho0 (below_size (Z.bl HB.out))); have HO128 := Z.k (Kd.R_lower ho1 (below_size (Z.bl HB.out))); have HO125 := Z.k (Kd.R_lower ho2 (below_size (Z.bl HB.out))); have HO126 := Z.k (Kd.R_lower ho3 (below_size (Z.bl HB.out))); replace HB := Z.st (Z.bl HB.out) hb; (try clear hb ho0 ho1); (try clear ho2); (try clear ho3)) | ((with_reducible refine gate_dst (N := 3) rfl ?_); (try (refine gate_guard (by rfl) ?_; dsimp only)); refine Z.bx #[.int .i64 0, .slice none 0 0, .slice none 0 0] 28 HB ?_; clear HB; intro gb109 w91 BK109 GE109 HB hg hb; have GW109 := GE109; replace HO124 := Z.rb HO124 hb; replace HO128 := Z.rb HO128 hb; replace HO125 := Z.rb HO125 hb; replace HO126 := Z.rb HO126 hb; clear hb hg; have hcz92 := Z.c3 BK109.out; obtain ⟨Ao93, co93, eo93⟩ := Kd.R_slice HO124.out; subst eo93; obtain ⟨Ao94, co94, eo94⟩ := Kd.R_slice HO128.out; subst eo94; obtain ⟨Ao95, co95, eo95⟩ := Kd.R_slice HO125.out; subst eo95; obtain ⟨Ao96, co96, eo96⟩ := Kd.R_slice HO126.out; subst eo96) | ((with_reducible refine gate_callee (f := 21) rfl ?_); refine goesL_ (some 24) rfl rfl Try.func21 (by kernel_rfl) rfl #[.agg #[.int .i64 t115, .slice Ao93 t116.length co93, .slice Ao94 t117.length co94], .slice Ao95 t120.length co95, .slice Ao96 t121.length co96] rfl Z.ar ?_; (with_reducible refine (impl_BreakersOf.calls k t115 _ _ t116 _ _ t117 _ _ t120 _ _ t121 t118 _ ?q1 ?q2 ?q3 ?q4 ?q5 ?q6 ?q7 ?q8 A4.out).mono ?_); (case q1 => refine (Kd.R_reads' (e := 3) (base := w.heap.size) (ok := fun k_ => (some k_ ≠ (.slice Ao95 t120.length co95 : Value).ownBlock ∧ some k_ ≠ (.slice Ao96 t121.length co96 : Value).ownBlock)) (n := t116.length) (c := co93) ?_).2.2; exact (Kd.R_mono (Kd.R_far (p := ⟨gb109, 2, none⟩) (Kd.R_far (p := ⟨gb109, 1, none⟩) (Kd.R_far (p := ⟨gb109, 0, none⟩) (Kd.R_types HO124.out BK109.out (by decide)) (fun _ hk => hk.2) (.int .i64 t115)) (fun _ hk => hk.2) (.slice Ao93 t116.length co93)) (fun _ hk => hk.2) (.slice Ao94 t117.length co94)) (fun _ h_ => h_.1))); (case q2 => exact (Kd.R_reads' HO124.out).2.1); (case q3 => refine (Kd.R_reads' (e := 34) (base := w.heap.size) (ok := fun k_ => True) (n := t117.length) (c := co94) ?_).2.2; exact (Kd.R_mono (Kd.R_far (p := ⟨gb109, 2, none⟩) (Kd.R_far (p := ⟨gb109, 1, none⟩) (Kd.R_far (p := ⟨gb109, 0, none⟩) (Kd.R_types HO128.out BK109.out (by decide)) (fun _ hk => hk.2) (.int .i64 t115)) (fun _ hk => hk.2) (.slice Ao93 t116.length co93)) (fun _ hk => hk.2) (.slice Ao94 t117.length co94)) (fun _ h_ => h_.1))); (case q4 => exact (Kd.R_reads' HO128.out).2.1); (case q5 => refine (Kd.R_reads' (e := 3) (base := w.heap.size) (ok := fun k_ => (some k_ ≠ (.slice Ao93 t116.length co93 : Value).ownBlock ∧ some k_ ≠ (.slice Ao96 t121.length co96 : Value).ownBlock)) (n := t120.length) (c := co95) ?_).2.2; exact (Kd.R_mono (Kd.R_far (p := ⟨gb109, 2, none⟩) (Kd.R_far (p := ⟨gb109, 1, none⟩) (Kd.R_far (p := ⟨gb109, 0, none⟩) (Kd.R_types HO125.out BK109.out (by decide)) (fun _ hk => hk.2) (.int .i64 t115)) (fun _ hk => hk.2) (.slice Ao93 t116.length co93)) (fun _ hk => hk.2) (.slice Ao94 t117.length co94)) (fun _ h_ => h_.1))); (case q6 => exact (Kd.R_reads' HO125.out).2.1); (case q7 => refine (Kd.R_reads' (e := 3) (base := w.heap.size) (ok := fun k_ => (some k_ ≠ (.slice Ao93 t116.length co93 : Value).ownBlock ∧ some k_ ≠ (.slice Ao95 t120.length co95 : Value).ownBlock)) (n := t121.length) (c := co96) ?_).2.2; exact (Kd.R_mono (Kd.R_far (p := ⟨gb109, 2, none⟩) (Kd.R_far (p := ⟨gb109, 1, none⟩) (Kd.R_far (p := ⟨gb109, 0, none⟩) (Kd.R_types HO126.out BK109.out (by decide)) (fun _ hk => hk.2) (.int .i64 t115)) (fun _ hk => hk.2) (.slice Ao93 t116.length co93)) (fun _ hk => hk.2) (.slice Ao94 t117.length co94)) (fun _ h_ => h_.1))); (case q8 => exact (Kd.R_reads' HO126.out).2.1); rintro e w97 ⟨v155, rfl, ho0, hb⟩; refine ⟨_, rfl, ?_⟩; replace HO128 := Z.k (Kd.R_below (Kd.R_mono (Kd.R_far (p := ⟨gb109, 2, none⟩) (Kd.R_far (p := ⟨gb109, 1, none⟩) (Kd.R_far (p := ⟨gb109, 0, none⟩) (Kd.R_types HO128.out BK109.out (by decide)) (fun _ hk => hk.2) (.int .i64 t115)) (fun _ hk => hk.2) (.slice Ao93 t116.length co93)) (fun _ hk => hk.2) (.slice Ao94 t117.length co94)) (fun _ h_ => h_.1)) hb); have HO134 := Z.k (Kd.R_lower (Kd.R_new' (Kd.R_new' (Kd.R_new' ho0 (Kd.R_lt (Kd.R_mono (Kd.R_far (p := ⟨gb109, 2, none⟩) (Kd.R_far (p := ⟨gb109, 1, none⟩) (Kd.R_far (p := ⟨gb109, 0, none⟩) (Kd.R_types HO124.out BK109.out (by decide)) (fun _ hk => hk.2) (.int .i64 t115)) (fun _ hk => hk.2) (.slice Ao93 t116.length co93)) (fun _ hk => hk.2) (.slice Ao94 t117.length co94)) (fun _ h_ => h_.1)))) (Kd.R_lt (Kd.R_mono (Kd.R_far (p := ⟨gb109, 2, none⟩) (Kd.R_far (p := ⟨gb109, 1, none⟩) (Kd.R_far (p := ⟨gb109, 0, none⟩) (Kd.R_types HO125.out BK109.out (by decide)) (fun _ hk => hk.2) (.int .i64 t115)) (fun _ hk => hk.2) (.slice Ao93 t116.length co93)) (fun _ hk => hk.2) (.slice Ao94 t117.length co94)) (fun _ h_ => h_.1)))) (Kd.R_lt (Kd.R_mono (Kd.R_far (p := ⟨gb109, 2, none⟩) (Kd.R_far (p := ⟨gb109, 1, none⟩) (Kd.R_far (p := ⟨gb109, 0, none⟩) (Kd.R_types HO126.out BK109.out (by decide)) (fun _ hk => hk.2) (.int .i64 t115)) (fun _ hk => hk.2) (.slice Ao93 t116.length co93)) (fun _ hk => hk.2) (.slice Ao94 t117.length co94)) (fun _ h_ => h_.1)))) (below_size (Z.bs HB.out GE109.out))); replace HO124 := Z.k (Kd.R_elder' (Kd.R_mono (Kd.R_far (p := ⟨gb109, 2, none⟩) (Kd.R_far (p := ⟨gb109, 1, none⟩) (Kd.R_far (p := ⟨gb109, 0, none⟩) (Kd.R_types HO124.out BK109.out (by decide)) (fun _ hk => hk.2) (.int .i64 t115)) (fun _ hk => hk.2) (.slice Ao93 t116.length co93)) (fun _ hk => hk.2) (.slice Ao94 t117.length co94)) (fun _ h_ => h_.1)) (Kd.R_base ho0) hb); replace HO125 := Z.k (Kd.R_elder' (Kd.R_mono (Kd.R_far (p := ⟨gb109, 2, none⟩) (Kd.R_far (p := ⟨gb109, 1, none⟩) (Kd.R_far (p := ⟨gb109, 0, none⟩) (Kd.R_types HO125.out BK109.out (by decide)) (fun _ hk => hk.2) (.int .i64 t115)) (fun _ hk => hk.2) (.slice Ao93 t116.length co93)) (fun _ hk => hk.2) (.slice Ao94 t117.length co94)) (fun _ h_ => h_.1)) (Kd.R_base ho0) hb); replace HO126 := Z.k (Kd.R_elder' (Kd.R_mono (Kd.R_far (p := ⟨gb109, 2, none⟩) (Kd.R_far (p := ⟨gb109, 1, none⟩) (Kd.R_far (p := ⟨gb109, 0, none⟩) (Kd.R_types HO126.out BK109.out (by decide)) (fun _ hk => hk.2) (.int .i64 t115)) (fun _ hk => hk.2) (.slice Ao93 t116.length co93)) (fun _ hk => hk.2) (.slice Ao94 t117.length co94)) (fun _ h_ => h_.1)) (Kd.R_base ho0) hb); replace BK109 := Z.k (blk_below (g := gb109) (o := .cells #[.int .i64 t115, .slice Ao93 t116.length co93, .slice Ao94 t117.length co94] 28 (0, 0)) (by refine blk_put (cs := #[.int .i64 t115, .slice Ao93 t116.length co93, .slice none 0 0]) ?_ 2 _ rfl; refine blk_put (cs := #[.int .i64 t115, .slice none 0 0, .slice none 0 0]) ?_ 1 _ rfl; refine blk_put (cs := #[.int .i64 0, .slice none 0 0, .slice none 0 0]) ?_ 0 _ rfl; exact BK109.out) hb); replace HB := Z.st (Z.bs HB.out GE109.out) hb; (try clear hb); (try clear ho0); have hcz98 := Z.c3 BK109.out) | ((with_reducible refine gate_callee (f := 50) rfl ?_); refine goesL_ (some 29) rfl rfl Try.func50 (by kernel_rfl) rfl #[.agg #[.int .i64 t115, .slice Ao93 t116.length co93, .slice Ao94 t117.length co94], .slice Ao95 t120.length co95, .slice Ao96 t121.length co96] rfl Z.ar ?_; (with_reducible refine (spec_BreakersOf.calls k t115 _ _ t116 _ _ t117 _ _ t120 _ _ t121 t137 _ ?q1 ?q2 ?q3 ?q4 ?q5 ?q6 ?q7 ?q8 A5.out).mono ?_); (case q1 => exact (Kd.R_reads' HO124.out).2.2); (case q2 => exact (Kd.R_reads' HO124.out).2.1); (case q3 => exact (Kd.R_reads' HO128.out).2.2); (case q4 => exact (Kd.R_reads' HO128.out).2.1); (case q5 => exact (Kd.R_reads' HO125.out).2.2); (case q6 => exact (Kd.R_reads' HO125.out).2.1); (case q7 => exact (Kd.R_reads' HO126.out).2.2); (case q8 => exact (Kd.R_reads' HO126.out).2.1); rintro e w99 ⟨v156, rfl, ho0, hb⟩; refine ⟨_, rfl, ?_⟩; replace HO128 := Z.rb HO128 hb; have HO135 := Z.k (Kd.R_lower (Kd.R_new' (Kd.R_new' (Kd.R_new' (Kd.R_new' ho0 (Kd.R_lt HO124.out)) (Kd.R_lt HO125.out)) (Kd.R_lt HO126.out)) (Kd.R_lt HO134.out)) (below_size (Z.bs HB.out GE109.out))); replace HO124 := Z.k (Kd.R_elder' HO124.out (Kd.R_base ho0) hb); replace HO125 := Z.k (Kd.R_elder' HO125.out (Kd.R_base ho0) hb); replace HO126 := Z.k (Kd.R_elder' HO126.out (Kd.R_base ho0) hb); replace HO134 := Z.k (Kd.R_elder' HO134.out (Kd.R_base ho0) hb); replace BK109 := Z.bb BK109 hb; replace HB := Z.st (Z.bs HB.out GE109.out) hb; (try clear hb); (try clear ho0); obtain ⟨Ao100, co100, eo100⟩ := Kd.R_slice HO134.out; subst eo100; obtain ⟨Ao101, co101, eo101⟩ := Kd.R_slice HO135.out; subst eo101) | ((with_reducible refine gate_callee (f := 34) rfl ?_); refine goesL_ (some 30) rfl rfl Try.func34 (by kernel_rfl) rfl #[.slice Ao100 t118.length co100, .slice Ao101 t137.length co101] rfl Z.ar ?_; (with_reducible refine (laws_sameInts.calls k _ _ t118 _ _ t137 false _ ?q1 ?q2 ?q3 ?q4 A6.out).mono ?_); (case q1 => exact (Kd.R_reads' HO134.out).2.2); (case q2 => exact (Kd.R_reads' HO134.out).2.1); (case q3 => exact (Kd.R_reads' HO135.out).2.2); (case q4 => exact (Kd.R_reads' HO135.out).2.1); rintro e w' ⟨rfl, ⟨nd, rfl⟩⟩; refine ⟨_, rfl, ?_⟩))
  go_ret
  exact ⟨by rfl, Z.bs HB.out GE109.out⟩

 subst c7
 rw [if_pos rfl] at H
 revert H; refine Z.bd ?_; rintro t130 A8 H
 have H' := Z.k H
 clear H
 go_enter Try.func12, Try.ntmps12
 go_wp2_with (first | ((with_reducible refine gate_callee (f := 20) rfl ?_); refine goesL_ (some 17) rfl rfl Try.func20 (by kernel_rfl) rfl #[.slice A0 l0.length c0] rfl Z.ar ?_; (with_reducible refine (spec_DrawBreakersOf.calls k _ _ l0 t115 t116 t117 t120 t121 _ ?q1 ?q2 A3.out).mono ?_); (case q1 => exact HR0.out); (case q2 => exact HC0.out); rintro e w9 ⟨v151, v152, v153, v154, rfl, ho0, ho1, ho2, ho3, hb⟩; refine ⟨_, rfl, ?_⟩; have HO124 := Z.k (Kd.R_lower ho0 (below_size (Z.bl HB.out))); have HO128 := Z.k (Kd.R_lower ho1 (below_size (Z.bl HB.out))); have HO125 := Z.k (Kd.R_lower ho2 (below_size (Z.bl HB.out))); have HO126 := Z.k (Kd.R_lower ho3 (below_size (Z.bl HB.out))); replace HB := Z.st (Z.bl HB.out) hb; (try clear hb ho0 ho1); (try clear ho2); (try clear ho3)) | ((with_reducible refine gate_dst (N := 3) rfl ?_); (try (refine gate_guard (by rfl) ?_; dsimp only)); refine Z.bx #[.int .i64 0, .slice none 0 0, .slice none 0 0] 28 HB ?_; clear HB; intro gb109 w10 BK109 GE109 HB hg hb; have GW109 := GE109; replace HO124 := Z.rb HO124 hb; replace HO128 := Z.rb HO128 hb; replace HO125 := Z.rb HO125 hb; replace HO126 := Z.rb HO126 hb; clear hb hg; have hcz11 := Z.c3 BK109.out; obtain ⟨Ao12, co12, eo12⟩ := Kd.R_slice HO124.out; subst eo12; obtain ⟨Ao13, co13, eo13⟩ := Kd.R_slice HO128.out; subst eo13; obtain ⟨Ao14, co14, eo14⟩ := Kd.R_slice HO125.out; subst eo14; obtain ⟨Ao15, co15, eo15⟩ := Kd.R_slice HO126.out; subst eo15) | ((with_reducible refine gate_callee (f := 21) rfl ?_); refine goesL_ (some 24) rfl rfl Try.func21 (by kernel_rfl) rfl #[.agg #[.int .i64 t115, .slice Ao12 t116.length co12, .slice Ao13 t117.length co13], .slice Ao14 t120.length co14, .slice Ao15 t121.length co15] rfl Z.ar ?_; (with_reducible refine (impl_BreakersOf.calls k t115 _ _ t116 _ _ t117 _ _ t120 _ _ t121 t118 _ ?q1 ?q2 ?q3 ?q4 ?q5 ?q6 ?q7 ?q8 A4.out).mono ?_); (case q1 => refine (Kd.R_reads' (e := 3) (base := w.heap.size) (ok := fun k_ => (some k_ ≠ (.slice Ao14 t120.length co14 : Value).ownBlock ∧ some k_ ≠ (.slice Ao15 t121.length co15 : Value).ownBlock)) (n := t116.length) (c := co12) ?_).2.2; exact (Kd.R_mono (Kd.R_far (p := ⟨gb109, 2, none⟩) (Kd.R_far (p := ⟨gb109, 1, none⟩) (Kd.R_far (p := ⟨gb109, 0, none⟩) (Kd.R_types HO124.out BK109.out (by decide)) (fun _ hk => hk.2) (.int .i64 t115)) (fun _ hk => hk.2) (.slice Ao12 t116.length co12)) (fun _ hk => hk.2) (.slice Ao13 t117.length co13)) (fun _ h_ => h_.1))); (case q2 => exact (Kd.R_reads' HO124.out).2.1); (case q3 => refine (Kd.R_reads' (e := 34) (base := w.heap.size) (ok := fun k_ => True) (n := t117.length) (c := co13) ?_).2.2; exact (Kd.R_mono (Kd.R_far (p := ⟨gb109, 2, none⟩) (Kd.R_far (p := ⟨gb109, 1, none⟩) (Kd.R_far (p := ⟨gb109, 0, none⟩) (Kd.R_types HO128.out BK109.out (by decide)) (fun _ hk => hk.2) (.int .i64 t115)) (fun _ hk => hk.2) (.slice Ao12 t116.length co12)) (fun _ hk => hk.2) (.slice Ao13 t117.length co13)) (fun _ h_ => h_.1))); (case q4 => exact (Kd.R_reads' HO128.out).2.1); (case q5 => refine (Kd.R_reads' (e := 3) (base := w.heap.size) (ok := fun k_ => (some k_ ≠ (.slice Ao12 t116.length co12 : Value).ownBlock ∧ some k_ ≠ (.slice Ao15 t121.length co15 : Value).ownBlock)) (n := t120.length) (c := co14) ?_).2.2; exact (Kd.R_mono (Kd.R_far (p := ⟨gb109, 2, none⟩) (Kd.R_far (p := ⟨gb109, 1, none⟩) (Kd.R_far (p := ⟨gb109, 0, none⟩) (Kd.R_types HO125.out BK109.out (by decide)) (fun _ hk => hk.2) (.int .i64 t115)) (fun _ hk => hk.2) (.slice Ao12 t116.length co12)) (fun _ hk => hk.2) (.slice Ao13 t117.length co13)) (fun _ h_ => h_.1))); (case q6 => exact (Kd.R_reads' HO125.out).2.1); (case q7 => refine (Kd.R_reads' (e := 3) (base := w.heap.size) (ok := fun k_ => (some k_ ≠ (.slice Ao12 t116.length co12 : Value).ownBlock ∧ some k_ ≠ (.slice Ao14 t120.length co14 : Value).ownBlock)) (n := t121.length) (c := co15) ?_).2.2; exact (Kd.R_mono (Kd.R_far (p := ⟨gb109, 2, none⟩) (Kd.R_far (p := ⟨gb109, 1, none⟩) (Kd.R_far (p := ⟨gb109, 0, none⟩) (Kd.R_types HO126.out BK109.out (by decide)) (fun _ hk => hk.2) (.int .i64 t115)) (fun _ hk => hk.2) (.slice Ao12 t116.length co12)) (fun _ hk => hk.2) (.slice Ao13 t117.length co13)) (fun _ h_ => h_.1))); (case q8 => exact (Kd.R_reads' HO126.out).2.1); rintro e w16 ⟨v155, rfl, ho0, hb⟩; refine ⟨_, rfl, ?_⟩; replace HO128 := Z.k (Kd.R_below (Kd.R_mono (Kd.R_far (p := ⟨gb109, 2, none⟩) (Kd.R_far (p := ⟨gb109, 1, none⟩) (Kd.R_far (p := ⟨gb109, 0, none⟩) (Kd.R_types HO128.out BK109.out (by decide)) (fun _ hk => hk.2) (.int .i64 t115)) (fun _ hk => hk.2) (.slice Ao12 t116.length co12)) (fun _ hk => hk.2) (.slice Ao13 t117.length co13)) (fun _ h_ => h_.1)) hb); have HO134 := Z.k (Kd.R_lower (Kd.R_new' (Kd.R_new' (Kd.R_new' ho0 (Kd.R_lt (Kd.R_mono (Kd.R_far (p := ⟨gb109, 2, none⟩) (Kd.R_far (p := ⟨gb109, 1, none⟩) (Kd.R_far (p := ⟨gb109, 0, none⟩) (Kd.R_types HO124.out BK109.out (by decide)) (fun _ hk => hk.2) (.int .i64 t115)) (fun _ hk => hk.2) (.slice Ao12 t116.length co12)) (fun _ hk => hk.2) (.slice Ao13 t117.length co13)) (fun _ h_ => h_.1)))) (Kd.R_lt (Kd.R_mono (Kd.R_far (p := ⟨gb109, 2, none⟩) (Kd.R_far (p := ⟨gb109, 1, none⟩) (Kd.R_far (p := ⟨gb109, 0, none⟩) (Kd.R_types HO125.out BK109.out (by decide)) (fun _ hk => hk.2) (.int .i64 t115)) (fun _ hk => hk.2) (.slice Ao12 t116.length co12)) (fun _ hk => hk.2) (.slice Ao13 t117.length co13)) (fun _ h_ => h_.1)))) (Kd.R_lt (Kd.R_mono (Kd.R_far (p := ⟨gb109, 2, none⟩) (Kd.R_far (p := ⟨gb109, 1, none⟩) (Kd.R_far (p := ⟨gb109, 0, none⟩) (Kd.R_types HO126.out BK109.out (by decide)) (fun _ hk => hk.2) (.int .i64 t115)) (fun _ hk => hk.2) (.slice Ao12 t116.length co12)) (fun _ hk => hk.2) (.slice Ao13 t117.length co13)) (fun _ h_ => h_.1)))) (below_size (Z.bs HB.out GE109.out))); replace HO124 := Z.k (Kd.R_elder' (Kd.R_mono (Kd.R_far (p := ⟨gb109, 2, none⟩) (Kd.R_far (p := ⟨gb109, 1, none⟩) (Kd.R_far (p := ⟨gb109, 0, none⟩) (Kd.R_types HO124.out BK109.out (by decide)) (fun _ hk => hk.2) (.int .i64 t115)) (fun _ hk => hk.2) (.slice Ao12 t116.length co12)) (fun _ hk => hk.2) (.slice Ao13 t117.length co13)) (fun _ h_ => h_.1)) (Kd.R_base ho0) hb); replace HO125 := Z.k (Kd.R_elder' (Kd.R_mono (Kd.R_far (p := ⟨gb109, 2, none⟩) (Kd.R_far (p := ⟨gb109, 1, none⟩) (Kd.R_far (p := ⟨gb109, 0, none⟩) (Kd.R_types HO125.out BK109.out (by decide)) (fun _ hk => hk.2) (.int .i64 t115)) (fun _ hk => hk.2) (.slice Ao12 t116.length co12)) (fun _ hk => hk.2) (.slice Ao13 t117.length co13)) (fun _ h_ => h_.1)) (Kd.R_base ho0) hb); replace HO126 := Z.k (Kd.R_elder' (Kd.R_mono (Kd.R_far (p := ⟨gb109, 2, none⟩) (Kd.R_far (p := ⟨gb109, 1, none⟩) (Kd.R_far (p := ⟨gb109, 0, none⟩) (Kd.R_types HO126.out BK109.out (by decide)) (fun _ hk => hk.2) (.int .i64 t115)) (fun _ hk => hk.2) (.slice Ao12 t116.length co12)) (fun _ hk => hk.2) (.slice Ao13 t117.length co13)) (fun _ h_ => h_.1)) (Kd.R_base ho0) hb); replace BK109 := Z.k (blk_below (g := gb109) (o := .cells #[.int .i64 t115, .slice Ao12 t116.length co12, .slice Ao13 t117.length co13] 28 (0, 0)) (by refine blk_put (cs := #[.int .i64 t115, .slice Ao12 t116.length co12, .slice none 0 0]) ?_ 2 _ rfl; refine blk_put (cs := #[.int .i64 t115, .slice none 0 0, .slice none 0 0]) ?_ 1 _ rfl; refine blk_put (cs := #[.int .i64 0, .slice none 0 0, .slice none 0 0]) ?_ 0 _ rfl; exact BK109.out) hb); replace HB := Z.st (Z.bs HB.out GE109.out) hb; (try clear hb); (try clear ho0); have hcz17 := Z.c3 BK109.out) | ((with_reducible refine gate_callee (f := 50) rfl ?_); refine goesL_ (some 29) rfl rfl Try.func50 (by kernel_rfl) rfl #[.agg #[.int .i64 t115, .slice Ao12 t116.length co12, .slice Ao13 t117.length co13], .slice Ao14 t120.length co14, .slice Ao15 t121.length co15] rfl Z.ar ?_; (with_reducible refine (spec_BreakersOf.calls k t115 _ _ t116 _ _ t117 _ _ t120 _ _ t121 t137 _ ?q1 ?q2 ?q3 ?q4 ?q5 ?q6 ?q7 ?q8 A5.out).mono ?_); (case q1 => exact (Kd.R_reads' HO124.out).2.2); (case q2 => exact (Kd.R_reads' HO124.out).2.1); (case q3 => exact (Kd.R_reads' HO128.out).2.2); (case q4 => exact (Kd.R_reads' HO128.out).2.1); (case q5 => exact (Kd.R_reads' HO125.out).2.2); (case q6 => exact (Kd.R_reads' HO125.out).2.1); (case q7 => exact (Kd.R_reads' HO126.out).2.2); (case q8 => exact (Kd.R_reads' HO126.out).2.1); rintro e w18 ⟨v156, rfl, ho0, hb⟩; refine ⟨_, rfl, ?_⟩; replace HO128 := Z.rb HO128 hb; have HO135 := Z.k (Kd.R_lower (Kd.R_new' (Kd.R_new' (Kd.R_new' (Kd.R_new' ho0 (Kd.R_lt HO124.out)) (Kd.R_lt HO125.out)) (Kd.R_lt HO126.out)) (Kd.R_lt HO134.out)) (below_size (Z.bs HB.out GE109.out))); replace HO124 := Z.k (Kd.R_elder' HO124.out (Kd.R_base ho0) hb); replace HO125 := Z.k (Kd.R_elder' HO125.out (Kd.R_base ho0) hb); replace HO126 := Z.k (Kd.R_elder' HO126.out (Kd.R_base ho0) hb); replace HO134 := Z.k (Kd.R_elder' HO134.out (Kd.R_base ho0) hb); replace BK109 := Z.bb BK109 hb; replace HB := Z.st (Z.bs HB.out GE109.out) hb; (try clear hb); (try clear ho0); obtain ⟨Ao19, co19, eo19⟩ := Kd.R_slice HO134.out; subst eo19; obtain ⟨Ao20, co20, eo20⟩ := Kd.R_slice HO135.out; subst eo20) | ((with_reducible refine gate_callee (f := 34) rfl ?_); refine goesL_ (some 30) rfl rfl Try.func34 (by kernel_rfl) rfl #[.slice Ao19 t118.length co19, .slice Ao20 t137.length co20] rfl Z.ar ?_; (with_reducible refine (laws_sameInts.calls k _ _ t118 _ _ t137 true _ ?q1 ?q2 ?q3 ?q4 A6.out).mono ?_); (case q1 => exact (Kd.R_reads' HO134.out).2.2); (case q2 => exact (Kd.R_reads' HO134.out).2.1); (case q3 => exact (Kd.R_reads' HO135.out).2.2); (case q4 => exact (Kd.R_reads' HO135.out).2.1); rintro e w' ⟨rfl, ⟨nd, rfl⟩⟩; refine ⟨_, rfl, ?_⟩; have hcz21 := Z.c3 BK109.out) | ((with_reducible refine gate_callee (f := 23) rfl ?_); refine goesL_ (some 35) rfl rfl Try.func23 (by kernel_rfl) rfl #[.agg #[.int .i64 t115, .slice Ao12 t116.length co12, .slice Ao13 t117.length co13], .slice Ao14 t120.length co14, .slice Ao15 t121.length co15] rfl Z.ar ?_; (with_reducible refine (impl_GuardsOf.calls k t115 _ _ t116 _ _ t117 _ _ t120 _ _ t121 t130 _ ?q1 ?q2 ?q3 ?q4 ?q5 ?q6 ?q7 ?q8 A8.out).mono ?_); (case q1 => exact (Kd.R_reads' HO124.out).2.2); (case q2 => exact (Kd.R_reads' HO124.out).2.1); (case q3 => exact (Kd.R_reads' HO128.out).2.2); (case q4 => exact (Kd.R_reads' HO128.out).2.1); (case q5 => exact (Kd.R_reads' HO125.out).2.2); (case q6 => exact (Kd.R_reads' HO125.out).2.1); (case q7 => exact (Kd.R_reads' HO126.out).2.2); (case q8 => exact (Kd.R_reads' HO126.out).2.1); rintro e w22 ⟨v136, rfl, ho0, hb⟩; refine ⟨_, rfl, ?_⟩; replace HO128 := Z.rb HO128 hb; have HO157 := Z.k (Kd.R_lower (Kd.R_new' (Kd.R_new' (Kd.R_new' (Kd.R_new' (Kd.R_new' ho0 (Kd.R_lt (by (with_reducible repeat (apply Kd.R_drewN)); exact HO124.out))) (Kd.R_lt (by (with_reducible repeat (apply Kd.R_drewN)); exact HO125.out))) (Kd.R_lt (by (with_reducible repeat (apply Kd.R_drewN)); exact HO126.out))) (Kd.R_lt (by (with_reducible repeat (apply Kd.R_drewN)); exact HO134.out))) (Kd.R_lt (by (with_reducible repeat (apply Kd.R_drewN)); exact HO135.out))) (below_size (Z.bs HB.out GE109.out))); replace HO124 := Z.k (Kd.R_elder' (by (with_reducible repeat (apply Kd.R_drewN)); exact HO124.out) (Kd.R_base ho0) hb); replace HO125 := Z.k (Kd.R_elder' (by (with_reducible repeat (apply Kd.R_drewN)); exact HO125.out) (Kd.R_base ho0) hb); replace HO126 := Z.k (Kd.R_elder' (by (with_reducible repeat (apply Kd.R_drewN)); exact HO126.out) (Kd.R_base ho0) hb); replace HO134 := Z.k (Kd.R_elder' (by (with_reducible repeat (apply Kd.R_drewN)); exact HO134.out) (Kd.R_base ho0) hb); replace HO135 := Z.k (Kd.R_elder' (by (with_reducible repeat (apply Kd.R_drewN)); exact HO135.out) (Kd.R_base ho0) hb); replace BK109 := Z.bb BK109 hb; replace HB := Z.st (Z.bs HB.out GE109.out) hb; (try clear hb); (try clear ho0)))
 go_loopg [8] k (fun kq v8 w' => ∃ (x8_1 : Int), v8 = .int .i64 x8_1 ∧ Aside0 (laws_FnBreakersOf.l0 kq t120 t121 t118 t130 x8_1 t115 t116 t117 = some r) ∧ Aside0 (kq ≤ k) ∧ Aside0 (Kd.R (Kd.int .i64) 3 w' w.heap.size (fun k_ => some k_ ≠ ((.slice Ao15 t121.length co15) : Value).ownBlock ∧ some k_ ≠ ((.slice Ao19 t118.length co19) : Value).ownBlock ∧ some k_ ≠ (v136 : Value).ownBlock ∧ some k_ ≠ ((.slice Ao12 t116.length co12) : Value).ownBlock) (.slice Ao14 t120.length co14) t120) ∧ Aside0 (Kd.R (Kd.int .i64) 3 w' w.heap.size (fun k_ => some k_ ≠ ((.slice Ao14 t120.length co14) : Value).ownBlock ∧ some k_ ≠ ((.slice Ao19 t118.length co19) : Value).ownBlock ∧ some k_ ≠ (v136 : Value).ownBlock ∧ some k_ ≠ ((.slice Ao12 t116.length co12) : Value).ownBlock) (.slice Ao15 t121.length co15) t121) ∧ Aside0 (Kd.R (Kd.int .i64) 3 w' w.heap.size (fun k_ => some k_ ≠ ((.slice Ao14 t120.length co14) : Value).ownBlock ∧ some k_ ≠ ((.slice Ao15 t121.length co15) : Value).ownBlock ∧ some k_ ≠ (v136 : Value).ownBlock ∧ some k_ ≠ ((.slice Ao12 t116.length co12) : Value).ownBlock) (.slice Ao19 t118.length co19) t118) ∧ Aside0 (Kd.R (Kd.int .i64) 3 w' w.heap.size (fun k_ => some k_ ≠ ((.slice Ao14 t120.length co14) : Value).ownBlock ∧ some k_ ≠ ((.slice Ao15 t121.length co15) : Value).ownBlock ∧ some k_ ≠ ((.slice Ao19 t118.length co19) : Value).ownBlock ∧ some k_ ≠ ((.slice Ao12 t116.length co12) : Value).ownBlock) v136 t130) ∧ Aside0 (Kd.R (Kd.int .i64) 3 w' w.heap.size (fun k_ => some k_ ≠ ((.slice Ao14 t120.length co14) : Value).ownBlock ∧ some k_ ≠ ((.slice Ao15 t121.length co15) : Value).ownBlock ∧ some k_ ≠ ((.slice Ao19 t118.length co19) : Value).ownBlock ∧ some k_ ≠ (v136 : Value).ownBlock) (.slice Ao12 t116.length co12) t116) ∧ Aside0 (Kd.R (Kd.slice 37 k37) 34 w' w.heap.size (fun _ => True) (.slice Ao13 t117.length co13) t117) ∧ Aside0 (w'.heap[gb109]? = some (.cells #[.int .i64 t115, (.slice Ao12 t116.length co12), (.slice Ao13 t117.length co13)] 28 (0, 0))) ∧ Aside0 (Below w.heap.size w w'))
 case atStart => exact ⟨(0), (by rfl), H', ⟨Nat.le_refl _⟩, ⟨by exact Kd.R_mono HO125.out (fun _ hk => ⟨hk.1.1.1.2, ⟨hk.1.1.2, ⟨hk.2, hk.1.1.1.1⟩⟩⟩)⟩, ⟨by exact Kd.R_mono HO126.out (fun _ hk => ⟨hk.1.1.1.2, ⟨hk.1.1.2, ⟨hk.2, hk.1.1.1.1⟩⟩⟩)⟩, ⟨by exact Kd.R_mono HO134.out (fun _ hk => ⟨hk.1.1.1.2, ⟨hk.1.1.2, ⟨hk.2, hk.1.1.1.1.2⟩⟩⟩)⟩, ⟨by exact Kd.R_mono HO157.out (fun _ hk => ⟨hk.1.1.1.2, ⟨hk.1.1.2, ⟨hk.1.2, hk.1.1.1.1.2⟩⟩⟩)⟩, ⟨by exact Kd.R_mono HO124.out (fun _ hk => ⟨hk.1.1.1.1, ⟨hk.1.1.1.2, ⟨hk.1.1.2, hk.2⟩⟩⟩)⟩, ⟨by exact HO128.out⟩, ⟨by exact BK109.out⟩, ⟨Z.bs HB.out GE109.out⟩⟩
 clear H'
 try clear c2b0
 try clear c2b1
 obtain ⟨x8_1, rfl, HA, HK1, HO_4, HO_5, HO_6, HO_7, HO_113, HO_114, BK109, HB⟩ := hrel
 cases gk with
 | zero => exact absurd HA.out (by simp [laws_FnBreakersOf.l0])
 | succ k1 =>
  have H := HA.out
  clear HA
  simp only [laws_FnBreakersOf.l0] at H
  revert H; refine Z.fm ?_ ?_ <;> intro c23b0 H
  ·revert H; refine Z.bd ?_; rintro t147 A60 H
   by_cases c61 : t147 = true
   rotate_left
   ·replace c61 := Bool.eq_false_iff.mpr c61
    subst c61
    rw [if_neg (show ¬ (false = true) by decide)] at H
    revert H; refine Z.bd ?_; rintro t148 A83 H
    by_cases c84 : t148 = true
    ·subst c84
     rw [if_pos rfl] at H
     revert H; refine Z.bd ?_; rintro t149 A85 H
     obtain rfl := Option.some.inj H
     try go_wp2
     replace HO_4 := Z.k (Kd.R_drew HO_4.out)
     replace HO_5 := Z.k (Kd.R_drew HO_5.out)
     replace HO_6 := Z.k (Kd.R_drew HO_6.out)
     replace HO_7 := Z.k (Kd.R_drew HO_7.out)
     replace HO_113 := Z.k (Kd.R_drew HO_113.out)
     replace HO_114 := Z.k (Kd.R_drew HO_114.out)
     replace BK109 := Z.k (blk_drew BK109.out)
     replace HB := Z.k (below_drew1 HB.out)
     refine start_ (n := 15) (S := fun w' => w'.cell? ⟨gb109, 0, none⟩ = some (.int .i64 t115) ∧ w'.cell? ⟨gb109, 1, none⟩ = some (.slice Ao12 t116.length co12) ∧ w'.cell? ⟨gb109, 2, none⟩ = some (.slice Ao13 t117.length co13)) (ds := []) (Z.mb 15 0) (by kernel_rfl) rfl rfl ⟨Z.b BK109 0, Z.b BK109 1, Z.b BK109 2⟩ (fun hHeld => ?_); refine with_tabW laws_FnBreakersOf.tab23 laws_FnBreakersOf.bits23 (fun HT_ HW_ => ?_)
     generalize wr.drew = w86 at HO_4 HO_5 HO_6 HO_7 HO_113 HO_114 BK109 HB hHeld ⊢
     refine Z.pv 1 96 15 2 HT_.out ?_
     refine Z.t3 0 95 15 3 HT_.out HW_.out hHeld ?_
     refine one_ (i := 2) (N := some 97) (Z.mb 15 7) rfl rfl (one_of HT_.out (by kernel_rfl)) (by decide) (fun K hK => ?_)
     refine goes_ Try.func16 (by kernel_rfl) rfl #[.agg #[.int .i64 t115, .slice Ao12 t116.length co12, .slice Ao13 t117.length co13], .slice Ao14 t120.length co14] (by rfl) rfl rfl Z.ar ?_
     with_reducible refine (spec_StateOk.calls k1 t115 _ _ t116 _ _ t117 _ _ t120 false _ ?q1 ?q2 ?q3 ?q4 ?q5 ?q6 A60.out).mono ?_
     (case q1 => exact (Kd.R_reads' HO_113.out).2.2)
     (case q2 => exact (Kd.R_reads' HO_113.out).2.1)
     (case q3 => exact (Kd.R_reads' HO_114.out).2.2)
     (case q4 => exact (Kd.R_reads' HO_114.out).2.1)
     (case q5 => exact (Kd.R_reads' HO_4.out).2.2)
     (case q6 => exact (Kd.R_reads' HO_4.out).2.1)
     rintro e w87 ⟨rfl, hb⟩
     refine ⟨_, rfl, ?_⟩
     replace HO_4 := Z.rb HO_4 hb
     replace HO_5 := Z.rb HO_5 hb
     replace HO_6 := Z.rb HO_6 hb
     replace HO_7 := Z.rb HO_7 hb
     replace HO_113 := Z.rb HO_113 hb
     replace HO_114 := Z.rb HO_114 hb
     replace BK109 := Z.bb BK109 hb
     replace HB := Z.st (Z.bs HB.out GE109.out) hb
     (try clear hb)
     refine hK.out _ _ ⟨Z.b BK109 0, Z.b BK109 1, Z.b BK109 2⟩ (fun hHeld => ?_)
     clear hK K
     refine Z.nm ?_
     refine Z.pv 3 98 15 15 HT_.out ?_
     refine Z.pu 4 99 15 31 HT_.out ?_
     refine Z.pu 5 100 15 63 HT_.out ?_
     refine Z.pu 6 101 15 127 HT_.out ?_
     refine Z.pu 7 102 15 255 HT_.out ?_
     refine Z.pu 8 103 15 511 HT_.out ?_
     refine Z.pu 9 104 15 1023 HT_.out ?_
     refine Z.pu 10 105 15 2047 HT_.out ?_
     refine Z.pu 11 106 15 4095 HT_.out ?_
     refine Z.pu 12 107 15 8191 HT_.out ?_
     refine Z.pv 13 108 15 16383 HT_.out ?_
     refine Z.pv 14 11 15 32767 HT_.out ?_
     refine done_ (done_of HT_.out (by kernel_rfl)) ?_
     try go_wp2_with (first | ((with_reducible refine gate_callee (f := 39) rfl ?_); refine goesL_ (some 110) rfl rfl Try.func39 (by kernel_rfl) rfl #[.slice Ao19 t118.length co19] rfl Z.ar ?_; (with_reducible refine (laws_ascend.calls k1 _ _ t118 true _ ?q1 ?q2 A83.out).mono ?_); (case q1 => exact (Kd.R_reads' HO_6.out).2.2); (case q2 => exact (Kd.R_reads' HO_6.out).2.1); rintro e w' ⟨rfl, ⟨nd, rfl⟩⟩; refine ⟨_, rfl, ?_⟩) | (go_at_call 18; (with_reducible refine (laws_alive.calls  t149 _ A85.out).mono ?_); rintro e w' ⟨rfl, ⟨nd, rfl⟩⟩))
     go_ret
     exact ⟨by rfl, Z.bs HB.out GE109.out⟩
    replace c84 := Bool.eq_false_iff.mpr c84
    subst c84
    rw [if_neg (show ¬ (false = true) by decide)] at H
    obtain rfl := Option.some.inj H
    try go_wp2
    replace HO_4 := Z.k (Kd.R_drew HO_4.out)
    replace HO_5 := Z.k (Kd.R_drew HO_5.out)
    replace HO_6 := Z.k (Kd.R_drew HO_6.out)
    replace HO_7 := Z.k (Kd.R_drew HO_7.out)
    replace HO_113 := Z.k (Kd.R_drew HO_113.out)
    replace HO_114 := Z.k (Kd.R_drew HO_114.out)
    replace BK109 := Z.k (blk_drew BK109.out)
    replace HB := Z.k (below_drew1 HB.out)
    refine start_ (n := 15) (S := fun w' => w'.cell? ⟨gb109, 0, none⟩ = some (.int .i64 t115) ∧ w'.cell? ⟨gb109, 1, none⟩ = some (.slice Ao12 t116.length co12) ∧ w'.cell? ⟨gb109, 2, none⟩ = some (.slice Ao13 t117.length co13)) (ds := []) (Z.mb 15 0) (by kernel_rfl) rfl rfl ⟨Z.b BK109 0, Z.b BK109 1, Z.b BK109 2⟩ (fun hHeld => ?_); refine with_tabW laws_FnBreakersOf.tab23 laws_FnBreakersOf.bits23 (fun HT_ HW_ => ?_)
    generalize wr.drew = w88 at HO_4 HO_5 HO_6 HO_7 HO_113 HO_114 BK109 HB hHeld ⊢
    refine Z.pv 1 96 15 2 HT_.out ?_
    refine Z.t3 0 95 15 3 HT_.out HW_.out hHeld ?_
    refine one_ (i := 2) (N := some 97) (Z.mb 15 7) rfl rfl (one_of HT_.out (by kernel_rfl)) (by decide) (fun K hK => ?_)
    refine goes_ Try.func16 (by kernel_rfl) rfl #[.agg #[.int .i64 t115, .slice Ao12 t116.length co12, .slice Ao13 t117.length co13], .slice Ao14 t120.length co14] (by rfl) rfl rfl Z.ar ?_
    with_reducible refine (spec_StateOk.calls k1 t115 _ _ t116 _ _ t117 _ _ t120 false _ ?q1 ?q2 ?q3 ?q4 ?q5 ?q6 A60.out).mono ?_
    (case q1 => exact (Kd.R_reads' HO_113.out).2.2)
    (case q2 => exact (Kd.R_reads' HO_113.out).2.1)
    (case q3 => exact (Kd.R_reads' HO_114.out).2.2)
    (case q4 => exact (Kd.R_reads' HO_114.out).2.1)
    (case q5 => exact (Kd.R_reads' HO_4.out).2.2)
    (case q6 => exact (Kd.R_reads' HO_4.out).2.1)
    rintro e w89 ⟨rfl, hb⟩
    refine ⟨_, rfl, ?_⟩
    replace HO_4 := Z.rb HO_4 hb
    replace HO_5 := Z.rb HO_5 hb
    replace HO_6 := Z.rb HO_6 hb
    replace HO_7 := Z.rb HO_7 hb
    replace HO_113 := Z.rb HO_113 hb
    replace HO_114 := Z.rb HO_114 hb
    replace BK109 := Z.bb BK109 hb
    replace HB := Z.st (Z.bs HB.out GE109.out) hb
    (try clear hb)
    refine hK.out _ _ ⟨Z.b BK109 0, Z.b BK109 1, Z.b BK109 2⟩ (fun hHeld => ?_)
    clear hK K
    refine Z.nm ?_
    refine Z.pv 3 98 15 15 HT_.out ?_
    refine Z.pu 4 99 15 31 HT_.out ?_
    refine Z.pu 5 100 15 63 HT_.out ?_
    refine Z.pu 6 101 15 127 HT_.out ?_
    refine Z.pu 7 102 15 255 HT_.out ?_
    refine Z.pu 8 103 15 511 HT_.out ?_
    refine Z.pu 9 104 15 1023 HT_.out ?_
    refine Z.pu 10 105 15 2047 HT_.out ?_
    refine Z.pu 11 106 15 4095 HT_.out ?_
    refine Z.pu 12 107 15 8191 HT_.out ?_
    refine Z.pv 13 108 15 16383 HT_.out ?_
    refine Z.pv 14 11 15 32767 HT_.out ?_
    refine done_ (done_of HT_.out (by kernel_rfl)) ?_
    try go_wp2_with (((with_reducible refine gate_callee (f := 39) rfl ?_); refine goesL_ (some 110) rfl rfl Try.func39 (by kernel_rfl) rfl #[.slice Ao19 t118.length co19] rfl Z.ar ?_; (with_reducible refine (laws_ascend.calls k1 _ _ t118 false _ ?q1 ?q2 A83.out).mono ?_); (case q1 => exact (Kd.R_reads' HO_6.out).2.2); (case q2 => exact (Kd.R_reads' HO_6.out).2.1); rintro e w' ⟨rfl, ⟨nd, rfl⟩⟩; refine ⟨_, rfl, ?_⟩))
    go_ret
    exact ⟨by rfl, Z.bs HB.out GE109.out⟩
   subst c61
   rw [if_pos rfl] at H
   obtain ⟨c62, H⟩ := Z.ifp H
   have c62b0 := eq_true c62
   have c62b1 : decide (0 ≤ t115) = true := decide_eq_true c62
   clear c62
   obtain ⟨ji63, hji63⟩ : ∃ j_ : Int, (shl .i64 1 t115) = j_ := ⟨_, rfl⟩
   replace H : ((impl_SafeFor.f k1 t115 t116 t117 t120 t121 (wrap64 ((ji63) - 1))).bind fun t139 => ((laws_ascend.f k1 t118).bind fun t140 => (if t140 = true then (if t139 = true then (if (t118.length : Int) = 0 then ((laws_alive.f).bind fun t141 => (some t141)) else (some false)) else ((laws_alive.f).bind fun t142 => (some t142))) else (some false)))) = some r := by (rw [hji63] at H; exact H)
   have hji63_ : (IntKind.i64.wrap (1 * 2 ^ min t115.toNat 64)) = ji63 := hji63
   have hji63z : t115 ≤ 64 → (IntKind.i64.wrap (1 * 2 ^ t115.toNat)) = ji63 := shl_small hji63
   have hji63u : (IntKind.i64.wrap (2 ^ min t115.toNat 64)) = ji63 := by have h_ := hji63_; rw [Int.one_mul] at h_; exact h_
   have hji63v : t115 ≤ 64 → (IntKind.i64.wrap (2 ^ t115.toNat)) = ji63 := fun hle_ => by have h_ := hji63z hle_; rw [Int.one_mul] at h_; exact h_
   have hji63y : (wrap64 (1 * 2 ^ min t115.toNat 64)) = ji63 := (i64_w _).symm.trans hji63_
   have hji63x : t115 ≤ 64 → (wrap64 (1 * 2 ^ t115.toNat)) = ji63 := fun h_ => (i64_w _).symm.trans (hji63z h_)
   revert H; refine Z.bd ?_; rintro t139 A64 H
   revert H; refine Z.bd ?_; rintro t140 A65 H
   by_cases c66 : t140 = true
   rotate_left
   ·replace c66 := Bool.eq_false_iff.mpr c66
    subst c66
    rw [if_neg (show ¬ (false = true) by decide)] at H
    obtain rfl := Option.some.inj H
    try go_wp2
    replace HO_4 := Z.k (Kd.R_drew HO_4.out)
    replace HO_5 := Z.k (Kd.R_drew HO_5.out)
    replace HO_6 := Z.k (Kd.R_drew HO_6.out)
    replace HO_7 := Z.k (Kd.R_drew HO_7.out)
    replace HO_113 := Z.k (Kd.R_drew HO_113.out)
    replace HO_114 := Z.k (Kd.R_drew HO_114.out)
    replace BK109 := Z.k (blk_drew BK109.out)
    replace HB := Z.k (below_drew1 HB.out)
    refine start_ (n := 15) (S := fun w' => w'.cell? ⟨gb109, 0, none⟩ = some (.int .i64 t115) ∧ w'.cell? ⟨gb109, 1, none⟩ = some (.slice Ao12 t116.length co12) ∧ w'.cell? ⟨gb109, 2, none⟩ = some (.slice Ao13 t117.length co13)) (ds := []) (Z.mb 15 0) (by kernel_rfl) rfl rfl ⟨Z.b BK109 0, Z.b BK109 1, Z.b BK109 2⟩ (fun hHeld => ?_); refine with_tabW laws_FnBreakersOf.tab23 laws_FnBreakersOf.bits23 (fun HT_ HW_ => ?_)
    generalize wr.drew = w80 at HO_4 HO_5 HO_6 HO_7 HO_113 HO_114 BK109 HB hHeld ⊢
    refine Z.pv 1 96 15 2 HT_.out ?_
    refine Z.t3 0 95 15 3 HT_.out HW_.out hHeld ?_
    refine one_ (i := 2) (N := some 97) (Z.mb 15 7) rfl rfl (one_of HT_.out (by kernel_rfl)) (by decide) (fun K hK => ?_)
    refine goes_ Try.func16 (by kernel_rfl) rfl #[.agg #[.int .i64 t115, .slice Ao12 t116.length co12, .slice Ao13 t117.length co13], .slice Ao14 t120.length co14] (by rfl) rfl rfl Z.ar ?_
    with_reducible refine (spec_StateOk.calls k1 t115 _ _ t116 _ _ t117 _ _ t120 true _ ?q1 ?q2 ?q3 ?q4 ?q5 ?q6 A60.out).mono ?_
    (case q1 => exact (Kd.R_reads' HO_113.out).2.2)
    (case q2 => exact (Kd.R_reads' HO_113.out).2.1)
    (case q3 => exact (Kd.R_reads' HO_114.out).2.2)
    (case q4 => exact (Kd.R_reads' HO_114.out).2.1)
    (case q5 => exact (Kd.R_reads' HO_4.out).2.2)
    (case q6 => exact (Kd.R_reads' HO_4.out).2.1)
    rintro e w81 ⟨rfl, hb⟩
    refine ⟨_, rfl, ?_⟩
    replace HO_4 := Z.rb HO_4 hb
    replace HO_5 := Z.rb HO_5 hb
    replace HO_6 := Z.rb HO_6 hb
    replace HO_7 := Z.rb HO_7 hb
    replace HO_113 := Z.rb HO_113 hb
    replace HO_114 := Z.rb HO_114 hb
    replace BK109 := Z.bb BK109 hb
    replace HB := Z.st (Z.bs HB.out GE109.out) hb
    (try clear hb)
    refine hK.out _ _ ⟨Z.b BK109 0, Z.b BK109 1, Z.b BK109 2⟩ (fun hHeld => ?_)
    clear hK K
    refine Z.nm ?_
    refine Z.pv 3 98 15 15 HT_.out ?_
    refine Z.pv 5 100 15 47 HT_.out ?_
    refine Z.pv 6 101 15 111 HT_.out ?_
    refine Z.pv 7 102 15 239 HT_.out ?_
    refine Z.pv 8 103 15 495 HT_.out ?_
    refine Z.t3 4 99 15 511 HT_.out HW_.out hHeld ?_
    refine Z.t3 9 104 15 1023 HT_.out HW_.out hHeld ?_
    refine Z.pv 10 105 15 2047 HT_.out ?_
    refine Z.pv 11 106 15 4095 HT_.out ?_
    refine one_ (i := 12) (N := some 107) (Z.mb 15 8191) rfl rfl (one_of HT_.out (by kernel_rfl)) (by decide) (fun K hK => ?_)
    refine goes_ Try.func22 (by kernel_rfl) rfl #[.agg #[.int .i64 t115, .slice Ao12 t116.length co12, .slice Ao13 t117.length co13], .slice Ao14 t120.length co14, .slice Ao15 t121.length co15, .int .i64 (wrap64 ((ji63) - 1))] (by rfl) rfl rfl (by (try simp only [List.map_toArray, List.map_cons, List.map_nil]); rfl) ?_
    with_reducible refine (impl_SafeFor.calls k1 t115 _ _ t116 _ _ t117 _ _ t120 _ _ t121 (wrap64 ((ji63) - 1)) t139 _ ?q1 ?q2 ?q3 ?q4 ?q5 ?q6 ?q7 ?q8 A64.out).mono ?_
    (case q1 => exact (Kd.R_reads' HO_113.out).2.2)
    (case q2 => exact (Kd.R_reads' HO_113.out).2.1)
    (case q3 => exact (Kd.R_reads' HO_114.out).2.2)
    (case q4 => exact (Kd.R_reads' HO_114.out).2.1)
    (case q5 => exact (Kd.R_reads' HO_4.out).2.2)
    (case q6 => exact (Kd.R_reads' HO_4.out).2.1)
    (case q7 => exact (Kd.R_reads' HO_5.out).2.2)
    (case q8 => exact (Kd.R_reads' HO_5.out).2.1)
    rintro e w82 ⟨rfl, hb⟩
    refine ⟨_, rfl, ?_⟩
    replace HO_4 := Z.rb HO_4 hb
    replace HO_5 := Z.rb HO_5 hb
    replace HO_6 := Z.rb HO_6 hb
    replace HO_7 := Z.rb HO_7 hb
    replace HO_113 := Z.rb HO_113 hb
    replace HO_114 := Z.rb HO_114 hb
    replace BK109 := Z.bb BK109 hb
    replace HB := Z.st (Z.bs HB.out GE109.out) hb
    (try clear hb)
    refine hK.out _ _ ⟨Z.b BK109 0, Z.b BK109 1, Z.b BK109 2⟩ (fun hHeld => ?_)
    clear hK K
    refine Z.nm ?_
    refine Z.pv 13 108 15 16383 HT_.out ?_
    refine Z.pv 14 11 15 32767 HT_.out ?_
    refine done_ (done_of HT_.out (by kernel_rfl)) ?_
    try go_wp2_with (((with_reducible refine gate_callee (f := 39) rfl ?_); refine goesL_ (some 110) rfl rfl Try.func39 (by kernel_rfl) rfl #[.slice Ao19 t118.length co19] rfl Z.ar ?_; (with_reducible refine (laws_ascend.calls k1 _ _ t118 false _ ?q1 ?q2 A65.out).mono ?_); (case q1 => exact (Kd.R_reads' HO_6.out).2.2); (case q2 => exact (Kd.R_reads' HO_6.out).2.1); rintro e w' ⟨rfl, ⟨nd, rfl⟩⟩; refine ⟨_, rfl, ?_⟩))
    go_ret
    exact ⟨by rfl, Z.bs HB.out GE109.out⟩
   subst c66
   rw [if_pos rfl] at H
   by_cases c67 : t139 = true
   rotate_left
   ·replace c67 := Bool.eq_false_iff.mpr c67
    subst c67
    rw [if_neg (show ¬ (false = true) by decide)] at H
    revert H; refine Z.bd ?_; rintro t142 A76 H
    obtain rfl := Option.some.inj H
    try go_wp2
    replace HO_4 := Z.k (Kd.R_drew HO_4.out)
    replace HO_5 := Z.k (Kd.R_drew HO_5.out)
    replace HO_6 := Z.k (Kd.R_drew HO_6.out)
    replace HO_7 := Z.k (Kd.R_drew HO_7.out)
    replace HO_113 := Z.k (Kd.R_drew HO_113.out)
    replace HO_114 := Z.k (Kd.R_drew HO_114.out)
    replace BK109 := Z.k (blk_drew BK109.out)
    replace HB := Z.k (below_drew1 HB.out)
    refine start_ (n := 15) (S := fun w' => w'.cell? ⟨gb109, 0, none⟩ = some (.int .i64 t115) ∧ w'.cell? ⟨gb109, 1, none⟩ = some (.slice Ao12 t116.length co12) ∧ w'.cell? ⟨gb109, 2, none⟩ = some (.slice Ao13 t117.length co13)) (ds := []) (Z.mb 15 0) (by kernel_rfl) rfl rfl ⟨Z.b BK109 0, Z.b BK109 1, Z.b BK109 2⟩ (fun hHeld => ?_); refine with_tabW laws_FnBreakersOf.tab23 laws_FnBreakersOf.bits23 (fun HT_ HW_ => ?_)
    generalize wr.drew = w77 at HO_4 HO_5 HO_6 HO_7 HO_113 HO_114 BK109 HB hHeld ⊢
    refine Z.pv 1 96 15 2 HT_.out ?_
    refine Z.t3 0 95 15 3 HT_.out HW_.out hHeld ?_
    refine one_ (i := 2) (N := some 97) (Z.mb 15 7) rfl rfl (one_of HT_.out (by kernel_rfl)) (by decide) (fun K hK => ?_)
    refine goes_ Try.func16 (by kernel_rfl) rfl #[.agg #[.int .i64 t115, .slice Ao12 t116.length co12, .slice Ao13 t117.length co13], .slice Ao14 t120.length co14] (by rfl) rfl rfl Z.ar ?_
    with_reducible refine (spec_StateOk.calls k1 t115 _ _ t116 _ _ t117 _ _ t120 true _ ?q1 ?q2 ?q3 ?q4 ?q5 ?q6 A60.out).mono ?_
    (case q1 => exact (Kd.R_reads' HO_113.out).2.2)
    (case q2 => exact (Kd.R_reads' HO_113.out).2.1)
    (case q3 => exact (Kd.R_reads' HO_114.out).2.2)
    (case q4 => exact (Kd.R_reads' HO_114.out).2.1)
    (case q5 => exact (Kd.R_reads' HO_4.out).2.2)
    (case q6 => exact (Kd.R_reads' HO_4.out).2.1)
    rintro e w78 ⟨rfl, hb⟩
    refine ⟨_, rfl, ?_⟩
    replace HO_4 := Z.rb HO_4 hb
    replace HO_5 := Z.rb HO_5 hb
    replace HO_6 := Z.rb HO_6 hb
    replace HO_7 := Z.rb HO_7 hb
    replace HO_113 := Z.rb HO_113 hb
    replace HO_114 := Z.rb HO_114 hb
    replace BK109 := Z.bb BK109 hb
    replace HB := Z.st (Z.bs HB.out GE109.out) hb
    (try clear hb)
    refine hK.out _ _ ⟨Z.b BK109 0, Z.b BK109 1, Z.b BK109 2⟩ (fun hHeld => ?_)
    clear hK K
    refine Z.nm ?_
    refine Z.pv 3 98 15 15 HT_.out ?_
    refine Z.pv 5 100 15 47 HT_.out ?_
    refine Z.pv 6 101 15 111 HT_.out ?_
    refine Z.pv 7 102 15 239 HT_.out ?_
    refine Z.pv 8 103 15 495 HT_.out ?_
    refine Z.t3 4 99 15 511 HT_.out HW_.out hHeld ?_
    refine Z.t3 9 104 15 1023 HT_.out HW_.out hHeld ?_
    refine Z.pv 10 105 15 2047 HT_.out ?_
    refine Z.pv 11 106 15 4095 HT_.out ?_
    refine one_ (i := 12) (N := some 107) (Z.mb 15 8191) rfl rfl (one_of HT_.out (by kernel_rfl)) (by decide) (fun K hK => ?_)
    refine goes_ Try.func22 (by kernel_rfl) rfl #[.agg #[.int .i64 t115, .slice Ao12 t116.length co12, .slice Ao13 t117.length co13], .slice Ao14 t120.length co14, .slice Ao15 t121.length co15, .int .i64 (wrap64 ((ji63) - 1))] (by rfl) rfl rfl (by (try simp only [List.map_toArray, List.map_cons, List.map_nil]); rfl) ?_
    with_reducible refine (impl_SafeFor.calls k1 t115 _ _ t116 _ _ t117 _ _ t120 _ _ t121 (wrap64 ((ji63) - 1)) false _ ?q1 ?q2 ?q3 ?q4 ?q5 ?q6 ?q7 ?q8 A64.out).mono ?_
    (case q1 => exact (Kd.R_reads' HO_113.out).2.2)
    (case q2 => exact (Kd.R_reads' HO_113.out).2.1)
    (case q3 => exact (Kd.R_reads' HO_114.out).2.2)
    (case q4 => exact (Kd.R_reads' HO_114.out).2.1)
    (case q5 => exact (Kd.R_reads' HO_4.out).2.2)
    (case q6 => exact (Kd.R_reads' HO_4.out).2.1)
    (case q7 => exact (Kd.R_reads' HO_5.out).2.2)
    (case q8 => exact (Kd.R_reads' HO_5.out).2.1)
    rintro e w79 ⟨rfl, hb⟩
    refine ⟨_, rfl, ?_⟩
    replace HO_4 := Z.rb HO_4 hb
    replace HO_5 := Z.rb HO_5 hb
    replace HO_6 := Z.rb HO_6 hb
    replace HO_7 := Z.rb HO_7 hb
    replace HO_113 := Z.rb HO_113 hb
    replace HO_114 := Z.rb HO_114 hb
    replace BK109 := Z.bb BK109 hb
    replace HB := Z.st (Z.bs HB.out GE109.out) hb
    (try clear hb)
    refine hK.out _ _ ⟨Z.b BK109 0, Z.b BK109 1, Z.b BK109 2⟩ (fun hHeld => ?_)
    clear hK K
    refine Z.nm ?_
    refine Z.pv 13 108 15 16383 HT_.out ?_
    refine Z.pv 14 11 15 32767 HT_.out ?_
    refine done_ (done_of HT_.out (by kernel_rfl)) ?_
    try go_wp2_with (first | ((with_reducible refine gate_callee (f := 39) rfl ?_); refine goesL_ (some 110) rfl rfl Try.func39 (by kernel_rfl) rfl #[.slice Ao19 t118.length co19] rfl Z.ar ?_; (with_reducible refine (laws_ascend.calls k1 _ _ t118 true _ ?q1 ?q2 A65.out).mono ?_); (case q1 => exact (Kd.R_reads' HO_6.out).2.2); (case q2 => exact (Kd.R_reads' HO_6.out).2.1); rintro e w' ⟨rfl, ⟨nd, rfl⟩⟩; refine ⟨_, rfl, ?_⟩) | (go_at_call 18; (with_reducible refine (laws_alive.calls  t142 _ A76.out).mono ?_); rintro e w' ⟨rfl, ⟨nd, rfl⟩⟩))
    go_ret
    exact ⟨by rfl, Z.bs HB.out GE109.out⟩
   subst c67
   rw [if_pos rfl] at H
   by_cases c68 : (t118.length : Int) = 0
   ·rw [if_pos c68] at H
    have c68b0 : ((t118.length : Int) == 0) = true := beq_iff_eq.mpr c68
    have c68b1 : ((t118.length : Int) != 0) = false := bne_eq_false_iff_eq.mpr c68
    clear c68
    revert H; refine Z.bd ?_; rintro t141 A69 H
    obtain rfl := Option.some.inj H
    try go_wp2
    replace HO_4 := Z.k (Kd.R_drew HO_4.out)
    replace HO_5 := Z.k (Kd.R_drew HO_5.out)
    replace HO_6 := Z.k (Kd.R_drew HO_6.out)
    replace HO_7 := Z.k (Kd.R_drew HO_7.out)
    replace HO_113 := Z.k (Kd.R_drew HO_113.out)
    replace HO_114 := Z.k (Kd.R_drew HO_114.out)
    replace BK109 := Z.k (blk_drew BK109.out)
    replace HB := Z.k (below_drew1 HB.out)
    refine start_ (n := 15) (S := fun w' => w'.cell? ⟨gb109, 0, none⟩ = some (.int .i64 t115) ∧ w'.cell? ⟨gb109, 1, none⟩ = some (.slice Ao12 t116.length co12) ∧ w'.cell? ⟨gb109, 2, none⟩ = some (.slice Ao13 t117.length co13)) (ds := []) (Z.mb 15 0) (by kernel_rfl) rfl rfl ⟨Z.b BK109 0, Z.b BK109 1, Z.b BK109 2⟩ (fun hHeld => ?_); refine with_tabW laws_FnBreakersOf.tab23 laws_FnBreakersOf.bits23 (fun HT_ HW_ => ?_)
    generalize wr.drew = w70 at HO_4 HO_5 HO_6 HO_7 HO_113 HO_114 BK109 HB hHeld ⊢
    refine Z.pv 1 96 15 2 HT_.out ?_
    refine Z.t3 0 95 15 3 HT_.out HW_.out hHeld ?_
    refine one_ (i := 2) (N := some 97) (Z.mb 15 7) rfl rfl (one_of HT_.out (by kernel_rfl)) (by decide) (fun K hK => ?_)
    refine goes_ Try.func16 (by kernel_rfl) rfl #[.agg #[.int .i64 t115, .slice Ao12 t116.length co12, .slice Ao13 t117.length co13], .slice Ao14 t120.length co14] (by rfl) rfl rfl Z.ar ?_
    with_reducible refine (spec_StateOk.calls k1 t115 _ _ t116 _ _ t117 _ _ t120 true _ ?q1 ?q2 ?q3 ?q4 ?q5 ?q6 A60.out).mono ?_
    (case q1 => exact (Kd.R_reads' HO_113.out).2.2)
    (case q2 => exact (Kd.R_reads' HO_113.out).2.1)
    (case q3 => exact (Kd.R_reads' HO_114.out).2.2)
    (case q4 => exact (Kd.R_reads' HO_114.out).2.1)
    (case q5 => exact (Kd.R_reads' HO_4.out).2.2)
    (case q6 => exact (Kd.R_reads' HO_4.out).2.1)
    rintro e w71 ⟨rfl, hb⟩
    refine ⟨_, rfl, ?_⟩
    replace HO_4 := Z.rb HO_4 hb
    replace HO_5 := Z.rb HO_5 hb
    replace HO_6 := Z.rb HO_6 hb
    replace HO_7 := Z.rb HO_7 hb
    replace HO_113 := Z.rb HO_113 hb
    replace HO_114 := Z.rb HO_114 hb
    replace BK109 := Z.bb BK109 hb
    replace HB := Z.st (Z.bs HB.out GE109.out) hb
    (try clear hb)
    refine hK.out _ _ ⟨Z.b BK109 0, Z.b BK109 1, Z.b BK109 2⟩ (fun hHeld => ?_)
    clear hK K
    refine Z.nm ?_
    refine Z.pv 3 98 15 15 HT_.out ?_
    refine Z.pv 5 100 15 47 HT_.out ?_
    refine Z.pv 6 101 15 111 HT_.out ?_
    refine Z.pv 7 102 15 239 HT_.out ?_
    refine Z.pv 8 103 15 495 HT_.out ?_
    refine Z.t3 4 99 15 511 HT_.out HW_.out hHeld ?_
    refine Z.t3 9 104 15 1023 HT_.out HW_.out hHeld ?_
    refine Z.pv 10 105 15 2047 HT_.out ?_
    refine Z.pv 11 106 15 4095 HT_.out ?_
    refine one_ (i := 12) (N := some 107) (Z.mb 15 8191) rfl rfl (one_of HT_.out (by kernel_rfl)) (by decide) (fun K hK => ?_)
    refine goes_ Try.func22 (by kernel_rfl) rfl #[.agg #[.int .i64 t115, .slice Ao12 t116.length co12, .slice Ao13 t117.length co13], .slice Ao14 t120.length co14, .slice Ao15 t121.length co15, .int .i64 (wrap64 ((ji63) - 1))] (by rfl) rfl rfl (by (try simp only [List.map_toArray, List.map_cons, List.map_nil]); rfl) ?_
    with_reducible refine (impl_SafeFor.calls k1 t115 _ _ t116 _ _ t117 _ _ t120 _ _ t121 (wrap64 ((ji63) - 1)) true _ ?q1 ?q2 ?q3 ?q4 ?q5 ?q6 ?q7 ?q8 A64.out).mono ?_
    (case q1 => exact (Kd.R_reads' HO_113.out).2.2)
    (case q2 => exact (Kd.R_reads' HO_113.out).2.1)
    (case q3 => exact (Kd.R_reads' HO_114.out).2.2)
    (case q4 => exact (Kd.R_reads' HO_114.out).2.1)
    (case q5 => exact (Kd.R_reads' HO_4.out).2.2)
    (case q6 => exact (Kd.R_reads' HO_4.out).2.1)
    (case q7 => exact (Kd.R_reads' HO_5.out).2.2)
    (case q8 => exact (Kd.R_reads' HO_5.out).2.1)
    rintro e w72 ⟨rfl, hb⟩
    refine ⟨_, rfl, ?_⟩
    replace HO_4 := Z.rb HO_4 hb
    replace HO_5 := Z.rb HO_5 hb
    replace HO_6 := Z.rb HO_6 hb
    replace HO_7 := Z.rb HO_7 hb
    replace HO_113 := Z.rb HO_113 hb
    replace HO_114 := Z.rb HO_114 hb
    replace BK109 := Z.bb BK109 hb
    replace HB := Z.st (Z.bs HB.out GE109.out) hb
    (try clear hb)
    refine hK.out _ _ ⟨Z.b BK109 0, Z.b BK109 1, Z.b BK109 2⟩ (fun hHeld => ?_)
    clear hK K
    refine Z.nm ?_
    refine Z.pv 13 108 15 16383 HT_.out ?_
    refine Z.pv 14 11 15 32767 HT_.out ?_
    refine done_ (done_of HT_.out (by kernel_rfl)) ?_
    try go_wp2_with (first | ((with_reducible refine gate_callee (f := 39) rfl ?_); refine goesL_ (some 110) rfl rfl Try.func39 (by kernel_rfl) rfl #[.slice Ao19 t118.length co19] rfl Z.ar ?_; (with_reducible refine (laws_ascend.calls k1 _ _ t118 true _ ?q1 ?q2 A65.out).mono ?_); (case q1 => exact (Kd.R_reads' HO_6.out).2.2); (case q2 => exact (Kd.R_reads' HO_6.out).2.1); rintro e w' ⟨rfl, ⟨nd, rfl⟩⟩; refine ⟨_, rfl, ?_⟩) | (go_at_call 18; (with_reducible refine (laws_alive.calls  t141 _ A69.out).mono ?_); rintro e w' ⟨rfl, ⟨nd, rfl⟩⟩))
    go_ret
    exact ⟨by rfl, Z.bs HB.out GE109.out⟩
   rw [if_neg c68] at H
   have c68b0 : ((t118.length : Int) == 0) = false := beq_eq_false_iff_ne.mpr c68
   have c68b1 : ((t118.length : Int) != 0) = true := bne_iff_ne.mpr c68
   have c68b2 : ¬ (t118 = []) := fun h_ => c68 (by rw [h_]; rfl)
   obtain rfl := Option.some.inj H
   try go_wp2
   replace HO_4 := Z.k (Kd.R_drew HO_4.out)
   replace HO_5 := Z.k (Kd.R_drew HO_5.out)
   replace HO_6 := Z.k (Kd.R_drew HO_6.out)
   replace HO_7 := Z.k (Kd.R_drew HO_7.out)
   replace HO_113 := Z.k (Kd.R_drew HO_113.out)
   replace HO_114 := Z.k (Kd.R_drew HO_114.out)
   replace BK109 := Z.k (blk_drew BK109.out)
   replace HB := Z.k (below_drew1 HB.out)
   refine start_ (n := 15) (S := fun w' => w'.cell? ⟨gb109, 0, none⟩ = some (.int .i64 t115) ∧ w'.cell? ⟨gb109, 1, none⟩ = some (.slice Ao12 t116.length co12) ∧ w'.cell? ⟨gb109, 2, none⟩ = some (.slice Ao13 t117.length co13)) (ds := []) (Z.mb 15 0) (by kernel_rfl) rfl rfl ⟨Z.b BK109 0, Z.b BK109 1, Z.b BK109 2⟩ (fun hHeld => ?_); refine with_tabW laws_FnBreakersOf.tab23 laws_FnBreakersOf.bits23 (fun HT_ HW_ => ?_)
   generalize wr.drew = w73 at HO_4 HO_5 HO_6 HO_7 HO_113 HO_114 BK109 HB hHeld ⊢
   refine Z.pv 1 96 15 2 HT_.out ?_
   refine Z.t3 0 95 15 3 HT_.out HW_.out hHeld ?_
   refine one_ (i := 2) (N := some 97) (Z.mb 15 7) rfl rfl (one_of HT_.out (by kernel_rfl)) (by decide) (fun K hK => ?_)
   refine goes_ Try.func16 (by kernel_rfl) rfl #[.agg #[.int .i64 t115, .slice Ao12 t116.length co12, .slice Ao13 t117.length co13], .slice Ao14 t120.length co14] (by rfl) rfl rfl Z.ar ?_
   with_reducible refine (spec_StateOk.calls k1 t115 _ _ t116 _ _ t117 _ _ t120 true _ ?q1 ?q2 ?q3 ?q4 ?q5 ?q6 A60.out).mono ?_
   (case q1 => exact (Kd.R_reads' HO_113.out).2.2)
   (case q2 => exact (Kd.R_reads' HO_113.out).2.1)
   (case q3 => exact (Kd.R_reads' HO_114.out).2.2)
   (case q4 => exact (Kd.R_reads' HO_114.out).2.1)
   (case q5 => exact (Kd.R_reads' HO_4.out).2.2)
   (case q6 => exact (Kd.R_reads' HO_4.out).2.1)
   rintro e w74 ⟨rfl, hb⟩
   refine ⟨_, rfl, ?_⟩
   replace HO_4 := Z.rb HO_4 hb
   replace HO_5 := Z.rb HO_5 hb
   replace HO_6 := Z.rb HO_6 hb
   replace HO_7 := Z.rb HO_7 hb
   replace HO_113 := Z.rb HO_113 hb
   replace HO_114 := Z.rb HO_114 hb
   replace BK109 := Z.bb BK109 hb
   replace HB := Z.st (Z.bs HB.out GE109.out) hb
   (try clear hb)
   refine hK.out _ _ ⟨Z.b BK109 0, Z.b BK109 1, Z.b BK109 2⟩ (fun hHeld => ?_)
   clear hK K
   refine Z.nm ?_
   refine Z.pv 3 98 15 15 HT_.out ?_
   refine Z.pv 5 100 15 47 HT_.out ?_
   refine Z.pv 6 101 15 111 HT_.out ?_
   refine Z.pv 7 102 15 239 HT_.out ?_
   refine Z.pv 8 103 15 495 HT_.out ?_
   refine Z.t3 4 99 15 511 HT_.out HW_.out hHeld ?_
   refine Z.t3 9 104 15 1023 HT_.out HW_.out hHeld ?_
   refine Z.pv 10 105 15 2047 HT_.out ?_
   refine Z.pv 11 106 15 4095 HT_.out ?_
   refine one_ (i := 12) (N := some 107) (Z.mb 15 8191) rfl rfl (one_of HT_.out (by kernel_rfl)) (by decide) (fun K hK => ?_)
   refine goes_ Try.func22 (by kernel_rfl) rfl #[.agg #[.int .i64 t115, .slice Ao12 t116.length co12, .slice Ao13 t117.length co13], .slice Ao14 t120.length co14, .slice Ao15 t121.length co15, .int .i64 (wrap64 ((ji63) - 1))] (by rfl) rfl rfl (by (try simp only [List.map_toArray, List.map_cons, List.map_nil]); rfl) ?_
   with_reducible refine (impl_SafeFor.calls k1 t115 _ _ t116 _ _ t117 _ _ t120 _ _ t121 (wrap64 ((ji63) - 1)) true _ ?q1 ?q2 ?q3 ?q4 ?q5 ?q6 ?q7 ?q8 A64.out).mono ?_
   (case q1 => exact (Kd.R_reads' HO_113.out).2.2)
   (case q2 => exact (Kd.R_reads' HO_113.out).2.1)
   (case q3 => exact (Kd.R_reads' HO_114.out).2.2)
   (case q4 => exact (Kd.R_reads' HO_114.out).2.1)
   (case q5 => exact (Kd.R_reads' HO_4.out).2.2)
   (case q6 => exact (Kd.R_reads' HO_4.out).2.1)
   (case q7 => exact (Kd.R_reads' HO_5.out).2.2)
   (case q8 => exact (Kd.R_reads' HO_5.out).2.1)
   rintro e w75 ⟨rfl, hb⟩
   refine ⟨_, rfl, ?_⟩
   replace HO_4 := Z.rb HO_4 hb
   replace HO_5 := Z.rb HO_5 hb
   replace HO_6 := Z.rb HO_6 hb
   replace HO_7 := Z.rb HO_7 hb
   replace HO_113 := Z.rb HO_113 hb
   replace HO_114 := Z.rb HO_114 hb
   replace BK109 := Z.bb BK109 hb
   replace HB := Z.st (Z.bs HB.out GE109.out) hb
   (try clear hb)
   refine hK.out _ _ ⟨Z.b BK109 0, Z.b BK109 1, Z.b BK109 2⟩ (fun hHeld => ?_)
   clear hK K
   refine Z.nm ?_
   refine Z.pv 13 108 15 16383 HT_.out ?_
   refine Z.pv 14 11 15 32767 HT_.out ?_
   refine done_ (done_of HT_.out (by kernel_rfl)) ?_
   try go_wp2_with (((with_reducible refine gate_callee (f := 39) rfl ?_); refine goesL_ (some 110) rfl rfl Try.func39 (by kernel_rfl) rfl #[.slice Ao19 t118.length co19] rfl Z.ar ?_; (with_reducible refine (laws_ascend.calls k1 _ _ t118 true _ ?q1 ?q2 A65.out).mono ?_); (case q1 => exact (Kd.R_reads' HO_6.out).2.2); (case q2 => exact (Kd.R_reads' HO_6.out).2.1); rintro e w' ⟨rfl, ⟨nd, rfl⟩⟩; refine ⟨_, rfl, ?_⟩))
   go_ret
   exact ⟨by rfl, Z.bs HB.out GE109.out⟩
  obtain ⟨c24b0, H⟩ := Z.fd H
  revert H; refine Z.bd ?_; rintro t146 A25 H
  by_cases c26 : t146 = true
  ·subst c26
   rw [if_pos rfl] at H
   obtain rfl := Option.some.inj H
   try go_wp2
   replace HO_4 := Z.k (Kd.R_drew HO_4.out)
   replace HO_5 := Z.k (Kd.R_drew HO_5.out)
   replace HO_6 := Z.k (Kd.R_drew HO_6.out)
   replace HO_7 := Z.k (Kd.R_drew HO_7.out)
   replace HO_113 := Z.k (Kd.R_drew HO_113.out)
   replace HO_114 := Z.k (Kd.R_drew HO_114.out)
   replace BK109 := Z.k (blk_drew BK109.out)
   replace HB := Z.k (below_drew1 HB.out)
   have p122 : (0 ≤ (x8_1 : Int)) = True := Z.oe
   have q122 : (x8_1 < (t118.length : Int)) = True := Z.oe
   obtain ⟨ad122, e122, hx122_0⟩ := Kd.at_int (Kd.R_reads' HO_6.out).2.2 x8_1 Z.od Z.od
   cases e122
   refine start_ (n := 8) (S := fun w' => w'.cell? ⟨gb109, 0, none⟩ = some (.int .i64 t115) ∧ w'.cell? ⟨gb109, 1, none⟩ = some (.slice Ao12 t116.length co12) ∧ w'.cell? ⟨gb109, 2, none⟩ = some (.slice Ao13 t117.length co13) ∧ w'.cell? (ad122.add (x8_1).toNat) = some (.int .i64 (rd t118 x8_1))) (ds := []) (Z.mb 8 0) (by kernel_rfl) rfl rfl ⟨Z.b BK109 0, Z.b BK109 1, Z.b BK109 2, hx122_0⟩ (fun hHeld => ?_); refine with_tabW laws_FnBreakersOf.tab11 laws_FnBreakersOf.bits11 (fun HT_ HW_ => ?_)
   generalize wr.drew = w27 at HO_4 HO_5 HO_6 HO_7 HO_113 HO_114 BK109 HB hx122_0 hHeld ⊢
   refine Z.pv 1 43 8 2 HT_.out ?_
   refine Z.pv 2 44 8 6 HT_.out ?_
   refine Z.pv 3 45 8 14 HT_.out ?_
   refine Z.pv 4 46 8 30 HT_.out ?_
   refine Z.pv 5 47 8 62 HT_.out ?_
   refine Z.t4 0 42 8 63 HT_.out HW_.out hHeld ?_
   refine Z.t4 6 48 8 127 HT_.out HW_.out hHeld ?_
   refine one_ (i := 7) (N := some 49) (Z.mb 8 255) rfl rfl (one_of HT_.out (by kernel_rfl)) (by decide) (fun K hK => ?_)
   refine goes_ Try.func22 (by kernel_rfl) rfl #[.agg #[.int .i64 t115, .slice Ao12 t116.length co12, .slice Ao13 t117.length co13], .slice Ao14 t120.length co14, .slice Ao15 t121.length co15, .int .i64 (rd t118 x8_1)] (by rfl) rfl rfl Z.ar ?_
   with_reducible refine (impl_SafeFor.calls k1 t115 _ _ t116 _ _ t117 _ _ t120 _ _ t121 (rd t118 x8_1) true _ ?q1 ?q2 ?q3 ?q4 ?q5 ?q6 ?q7 ?q8 A25.out).mono ?_
   (case q1 => exact (Kd.R_reads' HO_113.out).2.2)
   (case q2 => exact (Kd.R_reads' HO_113.out).2.1)
   (case q3 => exact (Kd.R_reads' HO_114.out).2.2)
   (case q4 => exact (Kd.R_reads' HO_114.out).2.1)
   (case q5 => exact (Kd.R_reads' HO_4.out).2.2)
   (case q6 => exact (Kd.R_reads' HO_4.out).2.1)
   (case q7 => exact (Kd.R_reads' HO_5.out).2.2)
   (case q8 => exact (Kd.R_reads' HO_5.out).2.1)
   rintro e w28 ⟨rfl, hb⟩
   have HS3_ := (hb.cell (World.block_lt_of_cell? _ _ (hHeld.2.2.2))).trans (hHeld.2.2.2)
   refine ⟨_, rfl, ?_⟩
   replace HO_4 := Z.rb HO_4 hb
   replace HO_5 := Z.rb HO_5 hb
   replace HO_6 := Z.rb HO_6 hb
   replace HO_7 := Z.rb HO_7 hb
   replace HO_113 := Z.rb HO_113 hb
   replace HO_114 := Z.rb HO_114 hb
   replace BK109 := Z.bb BK109 hb
   replace HB := Z.st (Z.bs HB.out GE109.out) hb
   (try clear hb)
   refine hK.out _ _ ⟨Z.b BK109 0, Z.b BK109 1, Z.b BK109 2, HS3_⟩ (fun hHeld => ?_)
   clear hK K
   refine Z.nm ?_
   refine done_ (done_of HT_.out (by kernel_rfl)) ?_
   try go_wp2
   go_ret
   exact ⟨by rfl, Z.bs HB.out GE109.out⟩
  replace c26 := Bool.eq_false_iff.mpr c26
  subst c26
  rw [if_neg (show ¬ (false = true) by decide)] at H
  have H' := Z.k H
  clear H
  try go_wp2
  replace HO_4 := Z.k (Kd.R_drew HO_4.out)
  replace HO_5 := Z.k (Kd.R_drew HO_5.out)
  replace HO_6 := Z.k (Kd.R_drew HO_6.out)
  replace HO_7 := Z.k (Kd.R_drew HO_7.out)
  replace HO_113 := Z.k (Kd.R_drew HO_113.out)
  replace HO_114 := Z.k (Kd.R_drew HO_114.out)
  replace BK109 := Z.k (blk_drew BK109.out)
  replace HB := Z.k (below_drew1 HB.out)
  have p122 : 0 ≤ (x8_1 : Int) := Z.od
  have q122 : x8_1 < (t118.length : Int) := Z.od
  obtain ⟨ad122, e122, hx122_0⟩ := Kd.at_int (Kd.R_reads' HO_6.out).2.2 x8_1 p122 q122
  cases e122
  replace p122 := eq_true p122
  replace q122 := eq_true q122
  refine start_ (n := 8) (S := fun w' => w'.cell? ⟨gb109, 0, none⟩ = some (.int .i64 t115) ∧ w'.cell? ⟨gb109, 1, none⟩ = some (.slice Ao12 t116.length co12) ∧ w'.cell? ⟨gb109, 2, none⟩ = some (.slice Ao13 t117.length co13) ∧ w'.cell? (ad122.add (x8_1).toNat) = some (.int .i64 (rd t118 x8_1))) (ds := []) (Z.mb 8 0) (by kernel_rfl) rfl rfl ⟨Z.b BK109 0, Z.b BK109 1, Z.b BK109 2, hx122_0⟩ (fun hHeld => ?_); refine with_tabW laws_FnBreakersOf.tab11 laws_FnBreakersOf.bits11 (fun HT_ HW_ => ?_)
  generalize wr.drew = w29 at HO_4 HO_5 HO_6 HO_7 HO_113 HO_114 BK109 HB hx122_0 hHeld ⊢
  refine Z.pv 1 43 8 2 HT_.out ?_
  refine Z.pv 2 44 8 6 HT_.out ?_
  refine Z.pv 3 45 8 14 HT_.out ?_
  refine Z.pv 4 46 8 30 HT_.out ?_
  refine Z.pv 5 47 8 62 HT_.out ?_
  refine Z.t4 0 42 8 63 HT_.out HW_.out hHeld ?_
  refine Z.t4 6 48 8 127 HT_.out HW_.out hHeld ?_
  refine one_ (i := 7) (N := some 49) (Z.mb 8 255) rfl rfl (one_of HT_.out (by kernel_rfl)) (by decide) (fun K hK => ?_)
  refine goes_ Try.func22 (by kernel_rfl) rfl #[.agg #[.int .i64 t115, .slice Ao12 t116.length co12, .slice Ao13 t117.length co13], .slice Ao14 t120.length co14, .slice Ao15 t121.length co15, .int .i64 (rd t118 x8_1)] (by rfl) rfl rfl Z.ar ?_
  with_reducible refine (impl_SafeFor.calls k1 t115 _ _ t116 _ _ t117 _ _ t120 _ _ t121 (rd t118 x8_1) false _ ?q1 ?q2 ?q3 ?q4 ?q5 ?q6 ?q7 ?q8 A25.out).mono ?_
  (case q1 => exact (Kd.R_reads' HO_113.out).2.2)
  (case q2 => exact (Kd.R_reads' HO_113.out).2.1)
  (case q3 => exact (Kd.R_reads' HO_114.out).2.2)
  (case q4 => exact (Kd.R_reads' HO_114.out).2.1)
  (case q5 => exact (Kd.R_reads' HO_4.out).2.2)
  (case q6 => exact (Kd.R_reads' HO_4.out).2.1)
  (case q7 => exact (Kd.R_reads' HO_5.out).2.2)
  (case q8 => exact (Kd.R_reads' HO_5.out).2.1)
  rintro e w30 ⟨rfl, hb⟩
  have HS3_ := (hb.cell (World.block_lt_of_cell? _ _ (hHeld.2.2.2))).trans (hHeld.2.2.2)
  refine ⟨_, rfl, ?_⟩
  replace HO_4 := Z.rb HO_4 hb
  replace HO_5 := Z.rb HO_5 hb
  replace HO_6 := Z.rb HO_6 hb
  replace HO_7 := Z.rb HO_7 hb
  replace HO_113 := Z.rb HO_113 hb
  replace HO_114 := Z.rb HO_114 hb
  replace BK109 := Z.bb BK109 hb
  replace HB := Z.st (Z.bs HB.out GE109.out) hb
  (try clear hb)
  refine hK.out _ _ ⟨Z.b BK109 0, Z.b BK109 1, Z.b BK109 2, HS3_⟩ (fun hHeld => ?_)
  clear hK K
  refine Z.nm ?_
  refine done_ (done_of HT_.out (by kernel_rfl)) ?_
  try go_wp2
  go_loopg [9] k1 (fun kq v9 w' => ∃ (x9_2 : Int), v9 = .int .i64 x9_2 ∧ Aside0 (laws_FnBreakersOf.l1 kq t120 t121 t118 t130 x8_1 x9_2 t115 t116 t117 = some r) ∧ Aside0 (kq ≤ k1) ∧ Aside0 (Kd.R (Kd.int .i64) 3 w' w.heap.size (fun k_ => some k_ ≠ ((.slice Ao15 t121.length co15) : Value).ownBlock ∧ some k_ ≠ ((.slice (some ad122) t118.length co19) : Value).ownBlock ∧ some k_ ≠ (v136 : Value).ownBlock ∧ some k_ ≠ ((.slice Ao12 t116.length co12) : Value).ownBlock) (.slice Ao14 t120.length co14) t120) ∧ Aside0 (Kd.R (Kd.int .i64) 3 w' w.heap.size (fun k_ => some k_ ≠ ((.slice Ao14 t120.length co14) : Value).ownBlock ∧ some k_ ≠ ((.slice (some ad122) t118.length co19) : Value).ownBlock ∧ some k_ ≠ (v136 : Value).ownBlock ∧ some k_ ≠ ((.slice Ao12 t116.length co12) : Value).ownBlock) (.slice Ao15 t121.length co15) t121) ∧ Aside0 (Kd.R (Kd.int .i64) 3 w' w.heap.size (fun k_ => some k_ ≠ ((.slice Ao14 t120.length co14) : Value).ownBlock ∧ some k_ ≠ ((.slice Ao15 t121.length co15) : Value).ownBlock ∧ some k_ ≠ (v136 : Value).ownBlock ∧ some k_ ≠ ((.slice Ao12 t116.length co12) : Value).ownBlock) (.slice (some ad122) t118.length co19) t118) ∧ Aside0 (Kd.R (Kd.int .i64) 3 w' w.heap.size (fun k_ => some k_ ≠ ((.slice Ao14 t120.length co14) : Value).ownBlock ∧ some k_ ≠ ((.slice Ao15 t121.length co15) : Value).ownBlock ∧ some k_ ≠ ((.slice (some ad122) t118.length co19) : Value).ownBlock ∧ some k_ ≠ ((.slice Ao12 t116.length co12) : Value).ownBlock) v136 t130) ∧ Aside0 (Kd.R (Kd.int .i64) 3 w' w.heap.size (fun k_ => some k_ ≠ ((.slice Ao14 t120.length co14) : Value).ownBlock ∧ some k_ ≠ ((.slice Ao15 t121.length co15) : Value).ownBlock ∧ some k_ ≠ ((.slice (some ad122) t118.length co19) : Value).ownBlock ∧ some k_ ≠ (v136 : Value).ownBlock) (.slice Ao12 t116.length co12) t116) ∧ Aside0 (Kd.R (Kd.slice 37 k37) 34 w' w.heap.size (fun _ => True) (.slice Ao13 t117.length co13) t117) ∧ Aside0 (w'.heap[gb109]? = some (.cells #[.int .i64 t115, (.slice Ao12 t116.length co12), (.slice Ao13 t117.length co13)] 28 (0, 0))) ∧ Aside0 (Below w.heap.size w w'))
  case atStart => exact ⟨(0), (by rfl), H', ⟨Nat.le_refl _⟩, ⟨by exact HO_4.out⟩, ⟨by exact HO_5.out⟩, ⟨by exact HO_6.out⟩, ⟨by exact HO_7.out⟩, ⟨by exact HO_113.out⟩, ⟨by exact HO_114.out⟩, ⟨by exact BK109.out⟩, ⟨Z.bs HB.out GE109.out⟩⟩
  clear H'
  try clear c23b0
  try clear c24b0
  try clear hx122_0
  try clear p122
  try clear q122
  obtain ⟨x9_2, rfl, HA, HK2, HO_4, HO_5, HO_6, HO_7, HO_113, HO_114, BK109, HB⟩ := hrel
  cases gk with
  | zero => exact absurd HA.out (by simp [laws_FnBreakersOf.l1])
  | succ k2 =>
   have H := HA.out
   clear HA
   simp only [laws_FnBreakersOf.l1] at H
   revert H; refine Z.fc ?_ ?_ <;> intro c31b0 H
   ·obtain ⟨c32b0, H⟩ := Z.fd H
    obtain ⟨c33b0, H⟩ := Z.fd H
    obtain ⟨c34b0, H⟩ := Z.fd H
    by_cases c35 : (Go.bits .and .i64 (rd t118 x8_1) (rd t130 x9_2)) = 0
    ·rw [if_pos c35] at H
     have c35b0 : ((Go.bits .and .i64 (rd t118 x8_1) (rd t130 x9_2)) == 0) = true := beq_iff_eq.mpr c35
     have c35b1 : ((Go.bits .and .i64 (rd t118 x8_1) (rd t130 x9_2)) != 0) = false := bne_eq_false_iff_eq.mpr c35
     clear c35
     obtain rfl := Option.some.inj H
     obtain ⟨Ao36, co36, eo36⟩ := Kd.R_slice HO_7.out
     subst eo36
     try go_wp2
     replace HO_4 := Z.k (Kd.R_drew HO_4.out)
     replace HO_5 := Z.k (Kd.R_drew HO_5.out)
     replace HO_6 := Z.k (Kd.R_drew HO_6.out)
     replace HO_7 := Z.k (Kd.R_drew HO_7.out)
     replace HO_113 := Z.k (Kd.R_drew HO_113.out)
     replace HO_114 := Z.k (Kd.R_drew HO_114.out)
     replace BK109 := Z.k (blk_drew BK109.out)
     replace HB := Z.k (below_drew1 HB.out)
     have p131 : (0 ≤ (x8_1 : Int)) = True := Z.oe
     have q131 : (x8_1 < (t118.length : Int)) = True := Z.oe
     obtain ⟨ad131, e131, hx131_0⟩ := Kd.at_int (Kd.R_reads' HO_6.out).2.2 x8_1 Z.od Z.od
     obtain rfl : ad122 = ad131 := (by injection e131)
     have p132 : (0 ≤ (x9_2 : Int)) = True := Z.oe
     have q132 : (x9_2 < (t130.length : Int)) = True := Z.oe
     obtain ⟨ad132, e132, hx132_0⟩ := Kd.at_int (Kd.R_reads' HO_7.out).2.2 x9_2 Z.od Z.od
     cases e132
     refine start_ (n := 10) (S := fun w' => w'.cell? (ad122.add (x8_1).toNat) = some (.int .i64 (rd t118 x8_1)) ∧ w'.cell? (ad132.add (x9_2).toNat) = some (.int .i64 (rd t130 x9_2))) (ds := []) (Z.mb 10 0) (by kernel_rfl) rfl rfl ⟨hx131_0, hx132_0⟩ (fun hHeld => ?_); refine with_tabW laws_FnBreakersOf.tab16 laws_FnBreakersOf.bits16 (fun HT_ HW_ => ?_)
     generalize wr.drew = w37 at HO_4 HO_5 HO_6 HO_7 HO_113 HO_114 BK109 HB hx131_0 hx132_0 hHeld ⊢
     refine Z.pv 0 56 10 1 HT_.out ?_
     refine Z.pv 1 57 10 3 HT_.out ?_
     refine Z.pv 2 58 10 7 HT_.out ?_
     refine Z.pv 4 60 10 23 HT_.out ?_
     refine Z.pv 5 61 10 55 HT_.out ?_
     refine Z.pv 6 62 10 119 HT_.out ?_
     refine Z.t2 3 59 10 127 HT_.out HW_.out hHeld ?_
     refine Z.t2 7 63 10 255 HT_.out HW_.out hHeld ?_
     refine Z.pv 8 64 10 511 HT_.out ?_
     refine Z.pv 9 65 10 1023 HT_.out ?_
     refine done_ (done_of HT_.out (by kernel_rfl)) ?_
     try go_wp2
     go_ret
     exact ⟨by rfl, Z.bs HB.out GE109.out⟩
    rw [if_neg c35] at H
    have c35b0 : ((Go.bits .and .i64 (rd t118 x8_1) (rd t130 x9_2)) == 0) = false := beq_eq_false_iff_ne.mpr c35
    have c35b1 : ((Go.bits .and .i64 (rd t118 x8_1) (rd t130 x9_2)) != 0) = true := bne_iff_ne.mpr c35
    have H' := Z.k H
    clear H
    obtain ⟨Ao38, co38, eo38⟩ := Kd.R_slice HO_7.out
    subst eo38
    try go_wp2
    replace HO_4 := Z.k (Kd.R_drew HO_4.out)
    replace HO_5 := Z.k (Kd.R_drew HO_5.out)
    replace HO_6 := Z.k (Kd.R_drew HO_6.out)
    replace HO_7 := Z.k (Kd.R_drew HO_7.out)
    replace HO_113 := Z.k (Kd.R_drew HO_113.out)
    replace HO_114 := Z.k (Kd.R_drew HO_114.out)
    replace BK109 := Z.k (blk_drew BK109.out)
    replace HB := Z.k (below_drew1 HB.out)
    have p131 : 0 ≤ (x8_1 : Int) := Z.od
    have q131 : x8_1 < (t118.length : Int) := Z.od
    obtain ⟨ad131, e131, hx131_0⟩ := Kd.at_int (Kd.R_reads' HO_6.out).2.2 x8_1 p131 q131
    obtain rfl : ad122 = ad131 := (by injection e131)
    replace p131 := eq_true p131
    replace q131 := eq_true q131
    have p132 : 0 ≤ (x9_2 : Int) := Z.od
    have q132 : x9_2 < (t130.length : Int) := Z.od
    obtain ⟨ad132, e132, hx132_0⟩ := Kd.at_int (Kd.R_reads' HO_7.out).2.2 x9_2 p132 q132
    cases e132
    replace p132 := eq_true p132
    replace q132 := eq_true q132
    refine start_ (n := 10) (S := fun w' => w'.cell? (ad122.add (x8_1).toNat) = some (.int .i64 (rd t118 x8_1)) ∧ w'.cell? (ad132.add (x9_2).toNat) = some (.int .i64 (rd t130 x9_2))) (ds := []) (Z.mb 10 0) (by kernel_rfl) rfl rfl ⟨hx131_0, hx132_0⟩ (fun hHeld => ?_); refine with_tabW laws_FnBreakersOf.tab16 laws_FnBreakersOf.bits16 (fun HT_ HW_ => ?_)
    generalize wr.drew = w39 at HO_4 HO_5 HO_6 HO_7 HO_113 HO_114 BK109 HB hx131_0 hx132_0 hHeld ⊢
    refine Z.pv 0 56 10 1 HT_.out ?_
    refine Z.pv 1 57 10 3 HT_.out ?_
    refine Z.pv 2 58 10 7 HT_.out ?_
    refine Z.pv 4 60 10 23 HT_.out ?_
    refine Z.pv 5 61 10 55 HT_.out ?_
    refine Z.pv 6 62 10 119 HT_.out ?_
    refine Z.t2 3 59 10 127 HT_.out HW_.out hHeld ?_
    refine Z.t2 7 63 10 255 HT_.out HW_.out hHeld ?_
    refine Z.pv 8 64 10 511 HT_.out ?_
    refine Z.pv 9 65 10 1023 HT_.out ?_
    refine done_ (done_of HT_.out (by kernel_rfl)) ?_
    try go_wp2
    go_roundg k2
    case measure => have := HK1.out; have := HK2.out; omega
    case rel => exact ⟨(wrap64 (x9_2 + 1)), (by rfl), H', ⟨by have := HK1.out; have := HK2.out; omega⟩, ⟨by exact HO_4.out⟩, ⟨by exact HO_5.out⟩, ⟨by exact HO_6.out⟩, ⟨by exact HO_7.out⟩, ⟨by exact HO_113.out⟩, ⟨by exact HO_114.out⟩, ⟨by exact BK109.out⟩, ⟨Z.bs HB.out GE109.out⟩⟩
   have H' := Z.k H
   clear H
   obtain ⟨Ao40, co40, eo40⟩ := Kd.R_slice HO_7.out
   subst eo40
   go_wp2
   go_loopg [10] k2 (fun kq v10 w' => ∃ (x10_3 : Int), v10 = .int .i64 x10_3 ∧ Aside0 (laws_FnBreakersOf.l2 kq t120 t121 t118 t130 x8_1 x10_3 t115 t116 t117 = some r) ∧ Aside0 (kq ≤ k2) ∧ Aside0 (Kd.R (Kd.int .i64) 3 w' w.heap.size (fun k_ => some k_ ≠ ((.slice Ao15 t121.length co15) : Value).ownBlock ∧ some k_ ≠ ((.slice (some ad122) t118.length co19) : Value).ownBlock ∧ some k_ ≠ ((.slice Ao40 t130.length co40) : Value).ownBlock ∧ some k_ ≠ ((.slice Ao12 t116.length co12) : Value).ownBlock) (.slice Ao14 t120.length co14) t120) ∧ Aside0 (Kd.R (Kd.int .i64) 3 w' w.heap.size (fun k_ => some k_ ≠ ((.slice Ao14 t120.length co14) : Value).ownBlock ∧ some k_ ≠ ((.slice (some ad122) t118.length co19) : Value).ownBlock ∧ some k_ ≠ ((.slice Ao40 t130.length co40) : Value).ownBlock ∧ some k_ ≠ ((.slice Ao12 t116.length co12) : Value).ownBlock) (.slice Ao15 t121.length co15) t121) ∧ Aside0 (Kd.R (Kd.int .i64) 3 w' w.heap.size (fun k_ => some k_ ≠ ((.slice Ao14 t120.length co14) : Value).ownBlock ∧ some k_ ≠ ((.slice Ao15 t121.length co15) : Value).ownBlock ∧ some k_ ≠ ((.slice Ao40 t130.length co40) : Value).ownBlock ∧ some k_ ≠ ((.slice Ao12 t116.length co12) : Value).ownBlock) (.slice (some ad122) t118.length co19) t118) ∧ Aside0 (Kd.R (Kd.int .i64) 3 w' w.heap.size (fun k_ => some k_ ≠ ((.slice Ao14 t120.length co14) : Value).ownBlock ∧ some k_ ≠ ((.slice Ao15 t121.length co15) : Value).ownBlock ∧ some k_ ≠ ((.slice (some ad122) t118.length co19) : Value).ownBlock ∧ some k_ ≠ ((.slice Ao12 t116.length co12) : Value).ownBlock) (.slice Ao40 t130.length co40) t130) ∧ Aside0 (Kd.R (Kd.int .i64) 3 w' w.heap.size (fun k_ => some k_ ≠ ((.slice Ao14 t120.length co14) : Value).ownBlock ∧ some k_ ≠ ((.slice Ao15 t121.length co15) : Value).ownBlock ∧ some k_ ≠ ((.slice (some ad122) t118.length co19) : Value).ownBlock ∧ some k_ ≠ ((.slice Ao40 t130.length co40) : Value).ownBlock) (.slice Ao12 t116.length co12) t116) ∧ Aside0 (Kd.R (Kd.slice 37 k37) 34 w' w.heap.size (fun _ => True) (.slice Ao13 t117.length co13) t117) ∧ Aside0 (w'.heap[gb109]? = some (.cells #[.int .i64 t115, (.slice Ao12 t116.length co12), (.slice Ao13 t117.length co13)] 28 (0, 0))) ∧ Aside0 (Below w.heap.size w w'))
   case atStart => exact ⟨(0), (by rfl), H', ⟨Nat.le_refl _⟩, ⟨by exact HO_4.out⟩, ⟨by exact HO_5.out⟩, ⟨by exact HO_6.out⟩, ⟨by exact HO_7.out⟩, ⟨by exact HO_113.out⟩, ⟨by exact HO_114.out⟩, ⟨by exact BK109.out⟩, ⟨Z.bs HB.out GE109.out⟩⟩
   clear H'
   try clear c31b0
   obtain ⟨x10_3, rfl, HA, HK3, HO_4, HO_5, HO_6, HO_7, HO_113, HO_114, BK109, HB⟩ := hrel
   cases gk with
   | zero => exact absurd HA.out (by simp [laws_FnBreakersOf.l2])
   | succ k3 =>
    have H := HA.out
    clear HA
    simp only [laws_FnBreakersOf.l2] at H
    revert H; refine Z.fm ?_ ?_ <;> intro c41b0 H
    ·have H' := Z.k H
     clear H
     have hcz59 := Z.c3 BK109.out
     go_wp2
     go_roundg k3
     case measure => have := HK1.out; have := HK2.out; have := HK3.out; omega
     case rel => exact ⟨(wrap64 (x8_1 + 1)), (by rfl), H', ⟨by have := HK1.out; have := HK2.out; have := HK3.out; omega⟩, ⟨by exact HO_4.out⟩, ⟨by exact HO_5.out⟩, ⟨by exact HO_6.out⟩, ⟨by exact HO_7.out⟩, ⟨by exact HO_113.out⟩, ⟨by exact HO_114.out⟩, ⟨by exact BK109.out⟩, ⟨Z.bs HB.out GE109.out⟩⟩
    obtain ⟨c42b0, H⟩ := Z.fd H
    obtain ⟨c43b0, H⟩ := Z.fd H
    obtain ⟨c44, H⟩ := Z.ifp H
    have c44b0 := eq_true c44
    have c44b1 : decide (0 ≤ x10_3) = true := decide_eq_true c44
    clear c44
    obtain ⟨ji45, hji45⟩ : ∃ j_ : Int, (shr .i64 (rd t118 x8_1) x10_3) = j_ := ⟨_, rfl⟩
    replace H : (if (Int.tmod (ji45) 2) = 1 then ((impl_SafeFor.f k3 t115 t116 t117 t120 t121 (wrap64 ((rd t118 x8_1) - (shl .i64 1 x10_3)))).bind fun t138 => (if t138 = true then (laws_FnBreakersOf.l2 k3 t120 t121 t118 t130 x8_1 (wrap64 (x10_3 + 1)) t115 t116 t117) else (some false))) else (laws_FnBreakersOf.l2 k3 t120 t121 t118 t130 x8_1 (wrap64 (x10_3 + 1)) t115 t116 t117)) = some r := by (rw [hji45] at H; exact H)
    have hji45_ : ((rd t118 x8_1) / 2 ^ min x10_3.toNat 64) = ji45 := hji45
    have hji45z : x10_3 ≤ 64 → ((rd t118 x8_1) / 2 ^ x10_3.toNat) = ji45 := shr_small hji45
    by_cases c46 : (Int.tmod (ji45) 2) = 1
    rotate_left
    ·rw [if_neg c46] at H
     have c46b0 : ((Int.tmod (ji45) 2) == 1) = false := beq_eq_false_iff_ne.mpr c46
     have c46b1 : ((Int.tmod (ji45) 2) != 1) = true := bne_iff_ne.mpr c46
     have H' := Z.k H
     clear H
     have hcz57 := Z.c3 BK109.out
     try go_wp2
     replace HO_4 := Z.k (Kd.R_drew HO_4.out)
     replace HO_5 := Z.k (Kd.R_drew HO_5.out)
     replace HO_6 := Z.k (Kd.R_drew HO_6.out)
     replace HO_7 := Z.k (Kd.R_drew HO_7.out)
     replace HO_113 := Z.k (Kd.R_drew HO_113.out)
     replace HO_114 := Z.k (Kd.R_drew HO_114.out)
     replace BK109 := Z.k (blk_drew BK109.out)
     replace HB := Z.k (below_drew1 HB.out)
     have p123 : 0 ≤ (x8_1 : Int) := Z.od
     have q123 : x8_1 < (t118.length : Int) := Z.od
     obtain ⟨ad123, e123, hx123_0⟩ := Kd.at_int (Kd.R_reads' HO_6.out).2.2 x8_1 p123 q123
     obtain rfl : ad122 = ad123 := (by injection e123)
     replace p123 := eq_true p123
     replace q123 := eq_true q123
     refine start_ (n := 22) (S := fun w' => w'.cell? (ad122.add (x8_1).toNat) = some (.int .i64 (rd t118 x8_1))) (ds := []) (Z.mb 22 0) (by kernel_rfl) rfl rfl (hx123_0) (fun hHeld => ?_); refine with_tabW laws_FnBreakersOf.tab21 laws_FnBreakersOf.bits21 (fun HT_ HW_ => ?_)
     generalize wr.drew = w58 at HO_4 HO_5 HO_6 HO_7 HO_113 HO_114 BK109 HB hx123_0 hHeld ⊢
     refine Z.pv 0 73 22 1 HT_.out ?_
     refine Z.pv 1 74 22 3 HT_.out ?_
     refine Z.pv 2 75 22 7 HT_.out ?_
     refine Z.pv 4 77 22 23 HT_.out ?_
     refine take_ (i := 3) (N := some 76) (v := ?_) (a' := ?_) #[true, true, true, true, true, false, false, false, false, false, false, false, false, false, false, false, false, false, false, false, false, false] rfl rfl (take_ofW HT_.out HW_.out (by kernel_rfl)) (fun _ _ _ h => h) (Or.inl ⟨by rfl, ?_⟩) hHeld ?_ ?_
     rotate_left
     ·intro w' s0
      go_simp
      with_reducible rfl
     rotate_left
     ·simp only [Act.put, List.setIfInBounds_toArray, List.set_cons_zero, List.set_cons_succ, i64_w, i32_w]
      rfl
     refine Z.pv 5 78 22 63 HT_.out ?_
     refine Z.pv 6 79 22 127 HT_.out ?_
     refine Z.pv 7 80 22 255 HT_.out ?_
     refine Z.pv 8 81 22 511 HT_.out ?_
     refine Z.pu 9 82 22 1023 HT_.out ?_
     refine Z.pu 10 83 22 2047 HT_.out ?_
     refine Z.pu 11 84 22 4095 HT_.out ?_
     refine Z.pu 12 85 22 8191 HT_.out ?_
     refine Z.pu 13 86 22 16383 HT_.out ?_
     refine Z.pu 14 87 22 32767 HT_.out ?_
     refine Z.pu 15 88 22 65535 HT_.out ?_
     refine Z.pu 16 89 22 131071 HT_.out ?_
     refine Z.pu 17 90 22 262143 HT_.out ?_
     refine Z.pu 18 91 22 524287 HT_.out ?_
     refine Z.pu 19 92 22 1048575 HT_.out ?_
     refine Z.pu 20 93 22 2097151 HT_.out ?_
     refine Z.pv 21 94 22 4194303 HT_.out ?_
     refine done_ (done_of HT_.out (by kernel_rfl)) ?_
     try go_wp2
     go_roundg k3
     case measure => have := HK1.out; have := HK2.out; have := HK3.out; omega
     case rel => exact ⟨(wrap64 (x10_3 + 1)), (by rfl), H', ⟨by have := HK1.out; have := HK2.out; have := HK3.out; omega⟩, ⟨by exact HO_4.out⟩, ⟨by exact HO_5.out⟩, ⟨by exact HO_6.out⟩, ⟨by exact HO_7.out⟩, ⟨by exact HO_113.out⟩, ⟨by exact HO_114.out⟩, ⟨by exact BK109.out⟩, ⟨Z.bs HB.out GE109.out⟩⟩
    rw [if_pos c46] at H
    have c46b0 : ((Int.tmod (ji45) 2) == 1) = true := beq_iff_eq.mpr c46
    have c46b1 : ((Int.tmod (ji45) 2) != 1) = false := bne_eq_false_iff_eq.mpr c46
    clear c46
    have c47b0 := eq_true (Z.od : 0 ≤ x10_3)
    obtain ⟨ji48, hji48⟩ : ∃ j_ : Int, (shl .i64 1 x10_3) = j_ := ⟨_, rfl⟩
    replace H : ((impl_SafeFor.f k3 t115 t116 t117 t120 t121 (wrap64 ((rd t118 x8_1) - (ji48)))).bind fun t138 => (if t138 = true then (laws_FnBreakersOf.l2 k3 t120 t121 t118 t130 x8_1 (wrap64 (x10_3 + 1)) t115 t116 t117) else (some false))) = some r := by (rw [hji48] at H; exact H)
    have hji48_ : (IntKind.i64.wrap (1 * 2 ^ min x10_3.toNat 64)) = ji48 := hji48
    have hji48z : x10_3 ≤ 64 → (IntKind.i64.wrap (1 * 2 ^ x10_3.toNat)) = ji48 := shl_small hji48
    have hji48u : (IntKind.i64.wrap (2 ^ min x10_3.toNat 64)) = ji48 := by have h_ := hji48_; rw [Int.one_mul] at h_; exact h_
    have hji48v : x10_3 ≤ 64 → (IntKind.i64.wrap (2 ^ x10_3.toNat)) = ji48 := fun hle_ => by have h_ := hji48z hle_; rw [Int.one_mul] at h_; exact h_
    have hji48y : (wrap64 (1 * 2 ^ min x10_3.toNat 64)) = ji48 := (i64_w _).symm.trans hji48_
    have hji48x : x10_3 ≤ 64 → (wrap64 (1 * 2 ^ x10_3.toNat)) = ji48 := fun h_ => (i64_w _).symm.trans (hji48z h_)
    revert H; refine Z.bd ?_; rintro t138 A49 H
    by_cases c50 : t138 = true
    ·subst c50
     rw [if_pos rfl] at H
     have H' := Z.k H
     clear H
     have hcz51 := Z.c3 BK109.out
     try go_wp2
     replace HO_4 := Z.k (Kd.R_drew HO_4.out)
     replace HO_5 := Z.k (Kd.R_drew HO_5.out)
     replace HO_6 := Z.k (Kd.R_drew HO_6.out)
     replace HO_7 := Z.k (Kd.R_drew HO_7.out)
     replace HO_113 := Z.k (Kd.R_drew HO_113.out)
     replace HO_114 := Z.k (Kd.R_drew HO_114.out)
     replace BK109 := Z.k (blk_drew BK109.out)
     replace HB := Z.k (below_drew1 HB.out)
     have p123 : 0 ≤ (x8_1 : Int) := Z.od
     have q123 : x8_1 < (t118.length : Int) := Z.od
     obtain ⟨ad123, e123, hx123_0⟩ := Kd.at_int (Kd.R_reads' HO_6.out).2.2 x8_1 p123 q123
     obtain rfl : ad122 = ad123 := (by injection e123)
     replace p123 := eq_true p123
     replace q123 := eq_true q123
     have p133 : 0 ≤ (x8_1 : Int) := Z.od
     have q133 : x8_1 < (t118.length : Int) := Z.od
     obtain ⟨ad133, e133, hx133_0⟩ := Kd.at_int (Kd.R_reads' HO_6.out).2.2 x8_1 p133 q133
     obtain rfl : ad122 = ad133 := (by injection e133)
     replace p133 := eq_true p133
     replace q133 := eq_true q133
     refine start_ (n := 22) (S := fun w' => w'.cell? ⟨gb109, 0, none⟩ = some (.int .i64 t115) ∧ w'.cell? ⟨gb109, 1, none⟩ = some (.slice Ao12 t116.length co12) ∧ w'.cell? ⟨gb109, 2, none⟩ = some (.slice Ao13 t117.length co13) ∧ w'.cell? (ad122.add (x8_1).toNat) = some (.int .i64 (rd t118 x8_1)) ∧ w'.cell? (ad122.add (x8_1).toNat) = some (.int .i64 (rd t118 x8_1))) (ds := []) (Z.mb 22 0) (by kernel_rfl) rfl rfl ⟨Z.b BK109 0, Z.b BK109 1, Z.b BK109 2, hx123_0, hx133_0⟩ (fun hHeld => ?_); refine with_tabW laws_FnBreakersOf.tab21 laws_FnBreakersOf.bits21 (fun HT_ HW_ => ?_)
     generalize wr.drew = w52 at HO_4 HO_5 HO_6 HO_7 HO_113 HO_114 BK109 HB hx123_0 hx133_0 hHeld ⊢
     refine Z.pv 0 73 22 1 HT_.out ?_
     refine Z.pv 1 74 22 3 HT_.out ?_
     refine Z.pv 2 75 22 7 HT_.out ?_
     refine Z.pv 4 77 22 23 HT_.out ?_
     refine Z.t5 3 76 22 31 HT_.out HW_.out hHeld ?_
     refine Z.pv 5 78 22 63 HT_.out ?_
     refine Z.pv 6 79 22 127 HT_.out ?_
     refine Z.pv 7 80 22 255 HT_.out ?_
     refine Z.pv 8 81 22 511 HT_.out ?_
     refine Z.pv 10 83 22 1535 HT_.out ?_
     refine Z.pv 11 84 22 3583 HT_.out ?_
     refine Z.pv 12 85 22 7679 HT_.out ?_
     refine Z.pv 13 86 22 15871 HT_.out ?_
     refine Z.pv 14 87 22 32255 HT_.out ?_
     refine Z.pv 16 89 22 97791 HT_.out ?_
     refine Z.pv 17 90 22 228863 HT_.out ?_
     refine Z.t5 9 82 22 229375 HT_.out HW_.out hHeld ?_
     refine Z.t5 15 88 22 262143 HT_.out HW_.out hHeld ?_
     refine Z.pv 18 91 22 524287 HT_.out ?_
     refine one_ (i := 19) (N := some 92) (Z.mb 22 1048575) rfl rfl (one_of HT_.out (by kernel_rfl)) (by decide) (fun K hK => ?_)
     refine goes_ Try.func22 (by kernel_rfl) rfl #[.agg #[.int .i64 t115, .slice Ao12 t116.length co12, .slice Ao13 t117.length co13], .slice Ao14 t120.length co14, .slice Ao15 t121.length co15, .int .i64 (wrap64 ((rd t118 x8_1) - (ji48)))] (by rfl) rfl rfl (by (try simp only [List.map_toArray, List.map_cons, List.map_nil]); rfl) ?_
     with_reducible refine (impl_SafeFor.calls k3 t115 _ _ t116 _ _ t117 _ _ t120 _ _ t121 (wrap64 ((rd t118 x8_1) - (ji48))) true _ ?q1 ?q2 ?q3 ?q4 ?q5 ?q6 ?q7 ?q8 A49.out).mono ?_
     (case q1 => exact (Kd.R_reads' HO_113.out).2.2)
     (case q2 => exact (Kd.R_reads' HO_113.out).2.1)
     (case q3 => exact (Kd.R_reads' HO_114.out).2.2)
     (case q4 => exact (Kd.R_reads' HO_114.out).2.1)
     (case q5 => exact (Kd.R_reads' HO_4.out).2.2)
     (case q6 => exact (Kd.R_reads' HO_4.out).2.1)
     (case q7 => exact (Kd.R_reads' HO_5.out).2.2)
     (case q8 => exact (Kd.R_reads' HO_5.out).2.1)
     rintro e w53 ⟨rfl, hb⟩
     have HS3_ := (hb.cell (World.block_lt_of_cell? _ _ (hHeld.2.2.2.1))).trans (hHeld.2.2.2.1)
     have HS4_ := (hb.cell (World.block_lt_of_cell? _ _ (hHeld.2.2.2.2))).trans (hHeld.2.2.2.2)
     refine ⟨_, rfl, ?_⟩
     replace HO_4 := Z.rb HO_4 hb
     replace HO_5 := Z.rb HO_5 hb
     replace HO_6 := Z.rb HO_6 hb
     replace HO_7 := Z.rb HO_7 hb
     replace HO_113 := Z.rb HO_113 hb
     replace HO_114 := Z.rb HO_114 hb
     replace BK109 := Z.bb BK109 hb
     replace HB := Z.st (Z.bs HB.out GE109.out) hb
     (try clear hb)
     refine hK.out _ _ ⟨Z.b BK109 0, Z.b BK109 1, Z.b BK109 2, HS3_, HS4_⟩ (fun hHeld => ?_)
     clear hK K
     refine Z.nm ?_
     refine Z.pv 20 93 22 2097151 HT_.out ?_
     refine Z.pv 21 94 22 4194303 HT_.out ?_
     refine done_ (done_of HT_.out (by kernel_rfl)) ?_
     try go_wp2
     go_roundg k3
     case measure => have := HK1.out; have := HK2.out; have := HK3.out; omega
     case rel => exact ⟨(wrap64 (x10_3 + 1)), (by rfl), H', ⟨by have := HK1.out; have := HK2.out; have := HK3.out; omega⟩, ⟨by exact HO_4.out⟩, ⟨by exact HO_5.out⟩, ⟨by exact HO_6.out⟩, ⟨by exact HO_7.out⟩, ⟨by exact HO_113.out⟩, ⟨by exact HO_114.out⟩, ⟨by exact BK109.out⟩, ⟨Z.bs HB.out GE109.out⟩⟩
    replace c50 := Bool.eq_false_iff.mpr c50
    subst c50
    rw [if_neg (show ¬ (false = true) by decide)] at H
    obtain rfl := Option.some.inj H
    have hcz54 := Z.c3 BK109.out
    try go_wp2
    replace HO_4 := Z.k (Kd.R_drew HO_4.out)
    replace HO_5 := Z.k (Kd.R_drew HO_5.out)
    replace HO_6 := Z.k (Kd.R_drew HO_6.out)
    replace HO_7 := Z.k (Kd.R_drew HO_7.out)
    replace HO_113 := Z.k (Kd.R_drew HO_113.out)
    replace HO_114 := Z.k (Kd.R_drew HO_114.out)
    replace BK109 := Z.k (blk_drew BK109.out)
    replace HB := Z.k (below_drew1 HB.out)
    have p123 : (0 ≤ (x8_1 : Int)) = True := Z.oe
    have q123 : (x8_1 < (t118.length : Int)) = True := Z.oe
    obtain ⟨ad123, e123, hx123_0⟩ := Kd.at_int (Kd.R_reads' HO_6.out).2.2 x8_1 Z.od Z.od
    obtain rfl : ad122 = ad123 := (by injection e123)
    have p133 : (0 ≤ (x8_1 : Int)) = True := Z.oe
    have q133 : (x8_1 < (t118.length : Int)) = True := Z.oe
    obtain ⟨ad133, e133, hx133_0⟩ := Kd.at_int (Kd.R_reads' HO_6.out).2.2 x8_1 Z.od Z.od
    obtain rfl : ad122 = ad133 := (by injection e133)
    refine start_ (n := 22) (S := fun w' => w'.cell? ⟨gb109, 0, none⟩ = some (.int .i64 t115) ∧ w'.cell? ⟨gb109, 1, none⟩ = some (.slice Ao12 t116.length co12) ∧ w'.cell? ⟨gb109, 2, none⟩ = some (.slice Ao13 t117.length co13) ∧ w'.cell? (ad122.add (x8_1).toNat) = some (.int .i64 (rd t118 x8_1)) ∧ w'.cell? (ad122.add (x8_1).toNat) = some (.int .i64 (rd t118 x8_1))) (ds := []) (Z.mb 22 0) (by kernel_rfl) rfl rfl ⟨Z.b BK109 0, Z.b BK109 1, Z.b BK109 2, hx123_0, hx133_0⟩ (fun hHeld => ?_); refine with_tabW laws_FnBreakersOf.tab21 laws_FnBreakersOf.bits21 (fun HT_ HW_ => ?_)
    generalize wr.drew = w55 at HO_4 HO_5 HO_6 HO_7 HO_113 HO_114 BK109 HB hx123_0 hx133_0 hHeld ⊢
    refine Z.pv 0 73 22 1 HT_.out ?_
    refine Z.pv 1 74 22 3 HT_.out ?_
    refine Z.pv 2 75 22 7 HT_.out ?_
    refine Z.pv 4 77 22 23 HT_.out ?_
    refine Z.t5 3 76 22 31 HT_.out HW_.out hHeld ?_
    refine Z.pv 5 78 22 63 HT_.out ?_
    refine Z.pv 6 79 22 127 HT_.out ?_
    refine Z.pv 7 80 22 255 HT_.out ?_
    refine Z.pv 8 81 22 511 HT_.out ?_
    refine Z.pv 10 83 22 1535 HT_.out ?_
    refine Z.pv 11 84 22 3583 HT_.out ?_
    refine Z.pv 12 85 22 7679 HT_.out ?_
    refine Z.pv 13 86 22 15871 HT_.out ?_
    refine Z.pv 14 87 22 32255 HT_.out ?_
    refine Z.pv 16 89 22 97791 HT_.out ?_
    refine Z.pv 17 90 22 228863 HT_.out ?_
    refine Z.t5 9 82 22 229375 HT_.out HW_.out hHeld ?_
    refine Z.t5 15 88 22 262143 HT_.out HW_.out hHeld ?_
    refine Z.pv 18 91 22 524287 HT_.out ?_
    refine one_ (i := 19) (N := some 92) (Z.mb 22 1048575) rfl rfl (one_of HT_.out (by kernel_rfl)) (by decide) (fun K hK => ?_)
    refine goes_ Try.func22 (by kernel_rfl) rfl #[.agg #[.int .i64 t115, .slice Ao12 t116.length co12, .slice Ao13 t117.length co13], .slice Ao14 t120.length co14, .slice Ao15 t121.length co15, .int .i64 (wrap64 ((rd t118 x8_1) - (ji48)))] (by rfl) rfl rfl (by (try simp only [List.map_toArray, List.map_cons, List.map_nil]); rfl) ?_
    with_reducible refine (impl_SafeFor.calls k3 t115 _ _ t116 _ _ t117 _ _ t120 _ _ t121 (wrap64 ((rd t118 x8_1) - (ji48))) false _ ?q1 ?q2 ?q3 ?q4 ?q5 ?q6 ?q7 ?q8 A49.out).mono ?_
    (case q1 => exact (Kd.R_reads' HO_113.out).2.2)
    (case q2 => exact (Kd.R_reads' HO_113.out).2.1)
    (case q3 => exact (Kd.R_reads' HO_114.out).2.2)
    (case q4 => exact (Kd.R_reads' HO_114.out).2.1)
    (case q5 => exact (Kd.R_reads' HO_4.out).2.2)
    (case q6 => exact (Kd.R_reads' HO_4.out).2.1)
    (case q7 => exact (Kd.R_reads' HO_5.out).2.2)
    (case q8 => exact (Kd.R_reads' HO_5.out).2.1)
    rintro e w56 ⟨rfl, hb⟩
    have HS3_ := (hb.cell (World.block_lt_of_cell? _ _ (hHeld.2.2.2.1))).trans (hHeld.2.2.2.1)
    have HS4_ := (hb.cell (World.block_lt_of_cell? _ _ (hHeld.2.2.2.2))).trans (hHeld.2.2.2.2)
    refine ⟨_, rfl, ?_⟩
    replace HO_4 := Z.rb HO_4 hb
    replace HO_5 := Z.rb HO_5 hb
    replace HO_6 := Z.rb HO_6 hb
    replace HO_7 := Z.rb HO_7 hb
    replace HO_113 := Z.rb HO_113 hb
    replace HO_114 := Z.rb HO_114 hb
    replace BK109 := Z.bb BK109 hb
    replace HB := Z.st (Z.bs HB.out GE109.out) hb
    (try clear hb)
    refine hK.out _ _ ⟨Z.b BK109 0, Z.b BK109 1, Z.b BK109 2, HS3_, HS4_⟩ (fun hHeld => ?_)
    clear hK K
    refine Z.nm ?_
    refine Z.pv 20 93 22 2097151 HT_.out ?_
    refine Z.pv 21 94 22 4194303 HT_.out ?_
    refine done_ (done_of HT_.out (by kernel_rfl)) ?_
    try go_wp2
    go_ret
    exact ⟨by rfl, Z.bs HB.out GE109.out⟩
/-- THE ONE PURE STATEMENT of laws_FnBreakersOf: yours. -/
def laws_FnBreakersOf.Pure : Prop := ∀ (l0 : List Int), l0.length ≤ maxLen → l0.length * 1 ≤ 140737488351232 → (∀ x ∈ l0, (Lit.int .u8 x).wf = true) → ∃ k, laws_FnBreakersOf.f k l0 = some true
theorem laws_FnBreakersOf.walk (P : laws_FnBreakersOf.Pure) (a0 : Option Addr) (len0 cap0 : Nat) (z0 : List Int) (w : World) (w0 : (a0 = none ∧ len0 = 0 ∧ cap0 = 0 ∧ z0 = []) ∨ ∃ x, a0 = some x ∧ len0 ≤ cap0 ∧ cap0 ≤ maxLen ∧ z0.length = cap0 ∧ (∀ i, i < z0.length → w.cell? (x.add i) = some (.int .u8 (z0.getD i 0))) ∧ ∀ n ∈ z0, (Lit.int .u8 n).wf = true) (y0 : len0 * 1 ≤ 140737488351232) :
  Calls Try.prog 12 #[.slice a0 len0 cap0] w fun e w' => e = .returned (.bool true) ∧ Below w.heap.size w w' := by
 obtain ⟨l0, rfl, hr0, hm0, hw0, hc0⟩ := ReadsInt.ofRowC w0
 obtain ⟨k, h⟩ := P l0 hm0 y0 hw0
 refine (laws_FnBreakersOf.calls k _ _ l0 true w (Kd.C_of_reads (d := (0 : Int)) (h1 := fun _ => rfl) hr0) hc0 h).mono ?_
 rintro e w' ⟨rfl, hd⟩
 exact ⟨rfl, hd⟩

end Go.Proofs.Ytkogboechfieeaa.PAll

/- Walks of functions that laws of this seat reach, in the form of the print. -/
import Derived.Test.YtkogboechfieeaaCAll26
import Derived.Test.YtkogboechfieeaaCAll29
import Derived.Test.YtkogboechfieeaaCAll34
import Derived.Test.YtkogboechfieeaaCAll48
import Derived.Test.YtkogboechfieeaaCAll74
-- PRINTED
namespace Go.Proofs.Ytkogboechfieeaa.PAll
open Go.RowKit Go.Proofs.YtkogboechfieeaaW.PrintWords Go.Proofs.YtkogboechfieeaaW.PrintLast Go.Proofs.YtkogboechfieeaaW.PrintMore
attribute [local go_sem] max2_int min2_int max_two min_two max_three min_three max_four min_four
set_option linter.unusedVariables false
set_option linter.unusedSimpArgs false

/-! ### laws_FnAmendersOf: function 11 -/
mutual
def laws_FnAmendersOf.j0 : Nat → List Int → List Int → List Int → Bool → Int → List Int → List (List (S37)) → Option (Bool)
 | 0, _, _, _, _, _, _, _ => none
 | k + 1, x4, x5, x6, x39, x628000, x628001, x628002 => if x39 = true then (if (x6.length : Int) = 0 then ((laws_alive.f).bind fun t637 => (some t637)) else (some false)) else (laws_FnAmendersOf.l0 k x4 x5 x6 0 x628000 x628001 x628002)
def laws_FnAmendersOf.l0 : Nat → List Int → List Int → List Int → Int → Int → List Int → List (List (S37)) → Option (Bool)
 | 0, _, _, _, _, _, _, _ => none
 | k + 1, x4, x5, x6, x7, x628000, x628001, x628002 => if x7 < (x6.length : Int) then (if 0 ≤ x7 then ((impl_ChangesTo.f k x628000 x628001 x628002 x4 x5 (rd x6 x7)).bind fun t643 => (if t643 < 0 then (some false) else (laws_FnAmendersOf.l1 k x4 x5 x6 x7 0 x628000 x628001 x628002))) else (none)) else (if 0 ≤ x628000 then ((impl_ChangesTo.f k x628000 x628001 x628002 x4 x5 (wrap64 ((shl .i64 1 x628000) - 1))).bind fun t638 => ((laws_ascend.f k x6).bind fun t639 => (if t639 = true then (if ((decide ((x6.length : Int) > 0)) == (decide (t638 ≥ 0))) = true then ((laws_sameInts.f k x4 x5).bind fun t640 => (if (x6.length : Int) = 1 then (if 0 < (x6.length : Int) then (some (t640 == ((rd x6 0) == 0))) else (none)) else (some (t640 == false)))) else (some false)) else (some false)))) else (none))
def laws_FnAmendersOf.l1 : Nat → List Int → List Int → List Int → Int → Int → Int → List Int → List (List (S37)) → Option (Bool)
 | 0, _, _, _, _, _, _, _, _ => none
 | k + 1, x4, x5, x6, x7, x8, x628000, x628001, x628002 => if x8 < x628000 then (if 0 ≤ x7 then (if x7 < (x6.length : Int) then (if 0 ≤ x8 then (if (Int.tmod (shr .i64 (rd x6 x7) x8) 2) = 1 then ((impl_ChangesTo.f k x628000 x628001 x628002 x4 x5 (wrap64 ((rd x6 x7) - (shl .i64 1 x8)))).bind fun t646 => (if t646 ≥ 0 then (some false) else (laws_FnAmendersOf.l1 k x4 x5 x6 x7 (wrap64 (x8 + 1)) x628000 x628001 x628002))) else (laws_FnAmendersOf.l1 k x4 x5 x6 x7 (wrap64 (x8 + 1)) x628000 x628001 x628002)) else (none)) else (none)) else (none)) else (laws_FnAmendersOf.l0 k x4 x5 x6 (wrap64 (x7 + 1)) x628000 x628001 x628002)
end
def laws_FnAmendersOf.f (k : Nat) (l0 : List Int) : Option (Bool) := if (l0.length : Int) > 1048576 then (some true) else ((spec_DrawAmendersOf.f k l0).bind fun bt614 => ((impl_AmendersOf.f k bt614.1 bt614.2.1 bt614.2.2.1 bt614.2.2.2.1 bt614.2.2.2.2).bind fun t628 => ((spec_AmendersOf.f k bt614.1 bt614.2.1 bt614.2.2.1 bt614.2.2.2.1 bt614.2.2.2.2).bind fun t631 => ((laws_sameInts.f k t628 t631).bind fun t634 => (if t634 = true then ((spec_StateOk.f k bt614.1 bt614.2.1 bt614.2.2.1 bt614.2.2.2.1).bind fun t635 => (if t635 = true then ((spec_StateOk.f k bt614.1 bt614.2.1 bt614.2.2.1 bt614.2.2.2.2).bind fun t636 => (laws_FnAmendersOf.j0 k bt614.2.2.2.1 bt614.2.2.2.2 t628 (!t636) bt614.1 bt614.2.1 bt614.2.2.1)) else (laws_FnAmendersOf.j0 k bt614.2.2.2.1 bt614.2.2.2.2 t628 true bt614.1 bt614.2.1 bt614.2.2.1))) else (some false))))))
def laws_FnAmendersOf.T12 : Bool × List (List Nat × List Nat) := (true, [([], []), ([], []), ([], []), ([], []), ([], []), ([3, 4], [3, 4]), ([5], [5]), ([0, 1, 2, 6], [0, 1, 2, 6]), ([7], [7])])
def laws_FnAmendersOf.B12 : List Nat := [0, 0, 0, 0, 0, 24, 56, 127, 255]
theorem laws_FnAmendersOf.tab12 : rtab .any (opsOf Try.f11 12) = laws_FnAmendersOf.T12 := by kernel_rfl
theorem laws_FnAmendersOf.bits12 : waitsOk laws_FnAmendersOf.T12.2 laws_FnAmendersOf.B12 = true := by kernel_rfl
def laws_FnAmendersOf.T17 : Bool × List (List Nat × List Nat) := (true, [([], []), ([], []), ([0, 1], [0, 1]), ([2], [2]), ([], []), ([3, 4], [3, 4]), ([5], [5]), ([6], [6]), ([7], [7]), ([8], [8]), ([8], [8]), ([8], [8]), ([8], [8]), ([8], [8]), ([12, 13, 8], [8, 12, 13]), ([14, 8], [8, 14]), ([8], [8]), ([16, 8], [8, 16]), ([15, 17, 8], [8, 15, 17]), ([9, 10, 11, 18, 8, 8], [8, 9, 10, 11, 18]), ([19, 8], [8, 19]), ([8, 20], [8, 20])])
def laws_FnAmendersOf.B17 : List Nat := [0, 0, 3, 7, 0, 31, 63, 127, 255, 511, 511, 511, 511, 511, 12799, 29183, 511, 66047, 258559, 524287, 1048575, 2097151]
theorem laws_FnAmendersOf.tab17 : rtab .any (opsOf Try.f11 17) = laws_FnAmendersOf.T17 := by kernel_rfl
theorem laws_FnAmendersOf.bits17 : waitsOk laws_FnAmendersOf.T17.2 laws_FnAmendersOf.B17 = true := by kernel_rfl
def laws_FnAmendersOf.T19 : Bool × List (List Nat × List Nat) := (true, [([], []), ([], []), ([], []), ([], []), ([3], [3]), ([4], [4]), ([5], [5]), ([6], [6]), ([0, 1, 2, 7], [0, 1, 2, 7]), ([8, 8, 0, 1, 2, 3, 4, 5, 6, 7, 8], [8])])
def laws_FnAmendersOf.B19 : List Nat := [0, 0, 0, 0, 8, 24, 56, 120, 255, 511]
theorem laws_FnAmendersOf.tab19 : rtab .any (opsOf Try.f11 19) = laws_FnAmendersOf.T19 := by kernel_rfl
theorem laws_FnAmendersOf.bits19 : waitsOk laws_FnAmendersOf.T19.2 laws_FnAmendersOf.B19 = true := by kernel_rfl
set_option maxHeartbeats 8000000 in
set_option maxRecDepth 100000 in
theorem laws_FnAmendersOf.calls (k : Nat) (A0 : Option Addr) (c0 : Nat) (l0 : List Int) (r : Bool) (w : World) (hr0 : Kd.C (Kd.int .u8) w A0 l0.length l0) (hc0 : l0.length ≤ c0) (h : laws_FnAmendersOf.f k l0 = some r) :
  Calls Try.prog 11 #[.slice A0 l0.length c0] w fun e w' => e = .returned (.bool r) ∧ Below w.heap.size w w' := by
 have hu28 := Try.underlying28
 have HR0 := Z.k hr0
 have HC0 := Z.k hc0
 clear hr0 hc0
 have HB := Z.k (Below.refl w.heap.size w)
 have H := h
 clear h
 unfold laws_FnAmendersOf.f at H
 by_cases c2 : (l0.length : Int) > 1048576
 ·rw [if_pos c2] at H
  have c2b0 : decide (1048576 < (l0.length : Int)) = true := decide_eq_true c2
  have c2b1 : decide (1048576 < l0.length) = true := decide_eq_true (by omega)
  clear c2
  obtain rfl := Option.some.inj H
  go_enter Try.func11, Try.ntmps11
  go_wp2
  go_ret
  exact ⟨by rfl, Z.bl HB.out⟩
 rw [if_neg c2] at H
 have c2b0 : decide (1048576 < (l0.length : Int)) = false := decide_eq_false c2
 have c2b1 : decide (1048576 < l0.length) = false := decide_eq_false (by omega)
 clear c2
 revert H; refine Z.bd ?_; rintro ⟨t614, t615, t618, t621, t624⟩ A3 H
 try dsimp only at H
 revert H; refine Z.bd ?_; rintro t628 A4 H
 revert H; refine Z.bd ?_; rintro t631 A5 H
 revert H; refine Z.bd ?_; rintro t634 A6 H
 by_cases c7 : t634 = true
 rotate_left
 ·replace c7 := Bool.eq_false_iff.mpr c7
  subst c7
  rw [if_neg (show ¬ (false = true) by decide)] at H
  obtain rfl := Option.some.inj H
  go_enter Try.func11, Try.ntmps11
  go_wp2_with (first | ((with_reducible refine gate_callee (f := 47) rfl ?_); refine goesL_ (some 15) rfl rfl Try.func47 (by kernel_rfl) rfl #[.slice A0 l0.length c0] rfl Z.ar ?_; (with_reducible refine (spec_DrawAmendersOf.calls k _ _ l0 t614 t615 t618 t621 t624 _ ?q1 ?q2 A3.out).mono ?_); (case q1 => exact HR0.out); (case q2 => exact HC0.out); rintro e w77 ⟨v616, v619, v622, v625, rfl, ho0, ho1, ho2, ho3, hb⟩; refine ⟨_, rfl, ?_⟩; have HO617 := Z.k (Kd.R_lower ho0 (below_size (Z.bl HB.out))); have HO620 := Z.k (Kd.R_lower ho1 (below_size (Z.bl HB.out))); have HO623 := Z.k (Kd.R_lower ho2 (below_size (Z.bl HB.out))); have HO626 := Z.k (Kd.R_lower ho3 (below_size (Z.bl HB.out))); replace HB := Z.st (Z.bl HB.out) hb; (try clear hb ho0 ho1); (try clear ho2); (try clear ho3)) | ((with_reducible refine gate_dst (N := 3) rfl ?_); (try (refine gate_guard (by rfl) ?_; dsimp only)); refine Z.bx #[.int .i64 0, .slice none 0 0, .slice none 0 0] 28 HB ?_; clear HB; intro gb627 w78 BK627 GE627 HB hg hb; have GW627 := GE627; replace HO617 := Z.rb HO617 hb; replace HO620 := Z.rb HO620 hb; replace HO623 := Z.rb HO623 hb; replace HO626 := Z.rb HO626 hb; clear hb hg; have hcz79 := Z.c3 BK627.out; obtain ⟨Ao80, co80, eo80⟩ := Kd.R_slice HO617.out; subst eo80; obtain ⟨Ao81, co81, eo81⟩ := Kd.R_slice HO620.out; subst eo81; obtain ⟨Ao82, co82, eo82⟩ := Kd.R_slice HO623.out; subst eo82; obtain ⟨Ao83, co83, eo83⟩ := Kd.R_slice HO626.out; subst eo83) | ((with_reducible refine gate_callee (f := 48) rfl ?_); refine goesL_ (some 22) rfl rfl Try.func48 (by kernel_rfl) rfl #[.agg #[.int .i64 t614, .slice Ao80 t615.length co80, .slice Ao81 t618.length co81], .slice Ao82 t621.length co82, .slice Ao83 t624.length co83] rfl Z.ar ?_; (with_reducible refine (impl_AmendersOf.calls k t614 _ _ t615 _ _ t618 _ _ t621 _ _ t624 t628 _ ?q1 ?q2 ?q3 ?q4 ?q5 ?q6 ?q7 ?q8 A4.out).mono ?_); (case q1 => refine (Kd.R_reads' (e := 3) (base := w.heap.size) (ok := fun k_ => (some k_ ≠ (.slice Ao82 t621.length co82 : Value).ownBlock ∧ some k_ ≠ (.slice Ao83 t624.length co83 : Value).ownBlock)) (n := t615.length) (c := co80) ?_).2.2; exact (Kd.R_mono (Kd.R_far (p := ⟨gb627, 2, none⟩) (Kd.R_far (p := ⟨gb627, 1, none⟩) (Kd.R_far (p := ⟨gb627, 0, none⟩) (Kd.R_types HO617.out BK627.out (by decide)) (fun _ hk => hk.2) (.int .i64 t614)) (fun _ hk => hk.2) (.slice Ao80 t615.length co80)) (fun _ hk => hk.2) (.slice Ao81 t618.length co81)) (fun _ h_ => h_.1))); (case q2 => exact (Kd.R_reads' HO617.out).2.1); (case q3 => refine (Kd.R_reads' (e := 34) (base := w.heap.size) (ok := fun k_ => True) (n := t618.length) (c := co81) ?_).2.2; exact (Kd.R_mono (Kd.R_far (p := ⟨gb627, 2, none⟩) (Kd.R_far (p := ⟨gb627, 1, none⟩) (Kd.R_far (p := ⟨gb627, 0, none⟩) (Kd.R_types HO620.out BK627.out (by decide)) (fun _ hk => hk.2) (.int .i64 t614)) (fun _ hk => hk.2) (.slice Ao80 t615.length co80)) (fun _ hk => hk.2) (.slice Ao81 t618.length co81)) (fun _ h_ => h_.1))); (case q4 => exact (Kd.R_reads' HO620.out).2.1); (case q5 => refine (Kd.R_reads' (e := 3) (base := w.heap.size) (ok := fun k_ => (some k_ ≠ (.slice Ao80 t615.length co80 : Value).ownBlock ∧ some k_ ≠ (.slice Ao83 t624.length co83 : Value).ownBlock)) (n := t621.length) (c := co82) ?_).2.2; exact (Kd.R_mono (Kd.R_far (p := ⟨gb627, 2, none⟩) (Kd.R_far (p := ⟨gb627, 1, none⟩) (Kd.R_far (p := ⟨gb627, 0, none⟩) (Kd.R_types HO623.out BK627.out (by decide)) (fun _ hk => hk.2) (.int .i64 t614)) (fun _ hk => hk.2) (.slice Ao80 t615.length co80)) (fun _ hk => hk.2) (.slice Ao81 t618.length co81)) (fun _ h_ => h_.1))); (case q6 => exact (Kd.R_reads' HO623.out).2.1); (case q7 => refine (Kd.R_reads' (e := 3) (base := w.heap.size) (ok := fun k_ => (some k_ ≠ (.slice Ao80 t615.length co80 : Value).ownBlock ∧ some k_ ≠ (.slice Ao82 t621.length co82 : Value).ownBlock)) (n := t624.length) (c := co83) ?_).2.2; exact (Kd.R_mono (Kd.R_far (p := ⟨gb627, 2, none⟩) (Kd.R_far (p := ⟨gb627, 1, none⟩) (Kd.R_far (p := ⟨gb627, 0, none⟩) (Kd.R_types HO626.out BK627.out (by decide)) (fun _ hk => hk.2) (.int .i64 t614)) (fun _ hk => hk.2) (.slice Ao80 t615.length co80)) (fun _ hk => hk.2) (.slice Ao81 t618.length co81)) (fun _ h_ => h_.1))); (case q8 => exact (Kd.R_reads' HO626.out).2.1); rintro e w84 ⟨v629, rfl, ho0, hb⟩; refine ⟨_, rfl, ?_⟩; replace HO620 := Z.k (Kd.R_below (Kd.R_mono (Kd.R_far (p := ⟨gb627, 2, none⟩) (Kd.R_far (p := ⟨gb627, 1, none⟩) (Kd.R_far (p := ⟨gb627, 0, none⟩) (Kd.R_types HO620.out BK627.out (by decide)) (fun _ hk => hk.2) (.int .i64 t614)) (fun _ hk => hk.2) (.slice Ao80 t615.length co80)) (fun _ hk => hk.2) (.slice Ao81 t618.length co81)) (fun _ h_ => h_.1)) hb); have HO630 := Z.k (Kd.R_lower (Kd.R_new' (Kd.R_new' (Kd.R_new' ho0 (Kd.R_lt (Kd.R_mono (Kd.R_far (p := ⟨gb627, 2, none⟩) (Kd.R_far (p := ⟨gb627, 1, none⟩) (Kd.R_far (p := ⟨gb627, 0, none⟩) (Kd.R_types HO617.out BK627.out (by decide)) (fun _ hk => hk.2) (.int .i64 t614)) (fun _ hk => hk.2) (.slice Ao80 t615.length co80)) (fun _ hk => hk.2) (.slice Ao81 t618.length co81)) (fun _ h_ => h_.1)))) (Kd.R_lt (Kd.R_mono (Kd.R_far (p := ⟨gb627, 2, none⟩) (Kd.R_far (p := ⟨gb627, 1, none⟩) (Kd.R_far (p := ⟨gb627, 0, none⟩) (Kd.R_types HO623.out BK627.out (by decide)) (fun _ hk => hk.2) (.int .i64 t614)) (fun _ hk => hk.2) (.slice Ao80 t615.length co80)) (fun _ hk => hk.2) (.slice Ao81 t618.length co81)) (fun _ h_ => h_.1)))) (Kd.R_lt (Kd.R_mono (Kd.R_far (p := ⟨gb627, 2, none⟩) (Kd.R_far (p := ⟨gb627, 1, none⟩) (Kd.R_far (p := ⟨gb627, 0, none⟩) (Kd.R_types HO626.out BK627.out (by decide)) (fun _ hk => hk.2) (.int .i64 t614)) (fun _ hk => hk.2) (.slice Ao80 t615.length co80)) (fun _ hk => hk.2) (.slice Ao81 t618.length co81)) (fun _ h_ => h_.1)))) (below_size (Z.bs HB.out GE627.out))); replace HO617 := Z.k (Kd.R_elder' (Kd.R_mono (Kd.R_far (p := ⟨gb627, 2, none⟩) (Kd.R_far (p := ⟨gb627, 1, none⟩) (Kd.R_far (p := ⟨gb627, 0, none⟩) (Kd.R_types HO617.out BK627.out (by decide)) (fun _ hk => hk.2) (.int .i64 t614)) (fun _ hk => hk.2) (.slice Ao80 t615.length co80)) (fun _ hk => hk.2) (.slice Ao81 t618.length co81)) (fun _ h_ => h_.1)) (Kd.R_base ho0) hb); replace HO623 := Z.k (Kd.R_elder' (Kd.R_mono (Kd.R_far (p := ⟨gb627, 2, none⟩) (Kd.R_far (p := ⟨gb627, 1, none⟩) (Kd.R_far (p := ⟨gb627, 0, none⟩) (Kd.R_types HO623.out BK627.out (by decide)) (fun _ hk => hk.2) (.int .i64 t614)) (fun _ hk => hk.2) (.slice Ao80 t615.length co80)) (fun _ hk => hk.2) (.slice Ao81 t618.length co81)) (fun _ h_ => h_.1)) (Kd.R_base ho0) hb); replace HO626 := Z.k (Kd.R_elder' (Kd.R_mono (Kd.R_far (p := ⟨gb627, 2, none⟩) (Kd.R_far (p := ⟨gb627, 1, none⟩) (Kd.R_far (p := ⟨gb627, 0, none⟩) (Kd.R_types HO626.out BK627.out (by decide)) (fun _ hk => hk.2) (.int .i64 t614)) (fun _ hk => hk.2) (.slice Ao80 t615.length co80)) (fun _ hk => hk.2) (.slice Ao81 t618.length co81)) (fun _ h_ => h_.1)) (Kd.R_base ho0) hb); replace BK627 := Z.k (blk_below (g := gb627) (o := .cells #[.int .i64 t614, .slice Ao80 t615.length co80, .slice Ao81 t618.length co81] 28 (0, 0)) (by refine blk_put (cs := #[.int .i64 t614, .slice Ao80 t615.length co80, .slice none 0 0]) ?_ 2 _ rfl; refine blk_put (cs := #[.int .i64 t614, .slice none 0 0, .slice none 0 0]) ?_ 1 _ rfl; refine blk_put (cs := #[.int .i64 0, .slice none 0 0, .slice none 0 0]) ?_ 0 _ rfl; exact BK627.out) hb); replace HB := Z.st (Z.bs HB.out GE627.out) hb; (try clear hb); (try clear ho0); have hcz85 := Z.c3 BK627.out) | ((with_reducible refine gate_callee (f := 49) rfl ?_); refine goesL_ (some 27) rfl rfl Try.func49 (by kernel_rfl) rfl #[.agg #[.int .i64 t614, .slice Ao80 t615.length co80, .slice Ao81 t618.length co81], .slice Ao82 t621.length co82, .slice Ao83 t624.length co83] rfl Z.ar ?_; (with_reducible refine (spec_AmendersOf.calls k t614 _ _ t615 _ _ t618 _ _ t621 _ _ t624 t631 _ ?q1 ?q2 ?q3 ?q4 ?q5 ?q6 ?q7 ?q8 A5.out).mono ?_); (case q1 => exact (Kd.R_reads' HO617.out).2.2); (case q2 => exact (Kd.R_reads' HO617.out).2.1); (case q3 => exact (Kd.R_reads' HO620.out).2.2); (case q4 => exact (Kd.R_reads' HO620.out).2.1); (case q5 => exact (Kd.R_reads' HO623.out).2.2); (case q6 => exact (Kd.R_reads' HO623.out).2.1); (case q7 => exact (Kd.R_reads' HO626.out).2.2); (case q8 => exact (Kd.R_reads' HO626.out).2.1); rintro e w86 ⟨v632, rfl, ho0, hb⟩; refine ⟨_, rfl, ?_⟩; replace HO620 := Z.rb HO620 hb; have HO633 := Z.k (Kd.R_lower (Kd.R_new' (Kd.R_new' (Kd.R_new' (Kd.R_new' ho0 (Kd.R_lt HO617.out)) (Kd.R_lt HO623.out)) (Kd.R_lt HO626.out)) (Kd.R_lt HO630.out)) (below_size (Z.bs HB.out GE627.out))); replace HO617 := Z.k (Kd.R_elder' HO617.out (Kd.R_base ho0) hb); replace HO623 := Z.k (Kd.R_elder' HO623.out (Kd.R_base ho0) hb); replace HO626 := Z.k (Kd.R_elder' HO626.out (Kd.R_base ho0) hb); replace HO630 := Z.k (Kd.R_elder' HO630.out (Kd.R_base ho0) hb); replace BK627 := Z.bb BK627 hb; replace HB := Z.st (Z.bs HB.out GE627.out) hb; (try clear hb); (try clear ho0); obtain ⟨Ao87, co87, eo87⟩ := Kd.R_slice HO630.out; subst eo87; obtain ⟨Ao88, co88, eo88⟩ := Kd.R_slice HO633.out; subst eo88) | ((with_reducible refine gate_callee (f := 34) rfl ?_); refine goesL_ (some 28) rfl rfl Try.func34 (by kernel_rfl) rfl #[.slice Ao87 t628.length co87, .slice Ao88 t631.length co88] rfl Z.ar ?_; (with_reducible refine (laws_sameInts.calls k _ _ t628 _ _ t631 false _ ?q1 ?q2 ?q3 ?q4 A6.out).mono ?_); (case q1 => exact (Kd.R_reads' HO630.out).2.2); (case q2 => exact (Kd.R_reads' HO630.out).2.1); (case q3 => exact (Kd.R_reads' HO633.out).2.2); (case q4 => exact (Kd.R_reads' HO633.out).2.1); rintro e w' ⟨rfl, ⟨nd, rfl⟩⟩; refine ⟨_, rfl, ?_⟩))
  go_ret
  exact ⟨by rfl, Z.bs HB.out GE627.out⟩

 subst c7
 rw [if_pos rfl] at H
 have HC8 := Z.k H
 clear H
 go_enter Try.func11, Try.ntmps11
 go_upto_region 7 with (first | ((with_reducible refine gate_callee (f := 47) rfl ?_); refine goesL_ (some 15) rfl rfl Try.func47 (by kernel_rfl) rfl #[.slice A0 l0.length c0] rfl Z.ar ?_; (with_reducible refine (spec_DrawAmendersOf.calls k _ _ l0 t614 t615 t618 t621 t624 _ ?q1 ?q2 A3.out).mono ?_); (case q1 => exact HR0.out); (case q2 => exact HC0.out); rintro e w9 ⟨v616, v619, v622, v625, rfl, ho0, ho1, ho2, ho3, hb⟩; refine ⟨_, rfl, ?_⟩; have HO617 := Z.k (Kd.R_lower ho0 (below_size (Z.bl HB.out))); have HO620 := Z.k (Kd.R_lower ho1 (below_size (Z.bl HB.out))); have HO623 := Z.k (Kd.R_lower ho2 (below_size (Z.bl HB.out))); have HO626 := Z.k (Kd.R_lower ho3 (below_size (Z.bl HB.out))); replace HB := Z.st (Z.bl HB.out) hb; (try clear hb ho0 ho1); (try clear ho2); (try clear ho3)) | ((with_reducible refine gate_dst (N := 3) rfl ?_); (try (refine gate_guard (by rfl) ?_; dsimp only)); refine Z.bx #[.int .i64 0, .slice none 0 0, .slice none 0 0] 28 HB ?_; clear HB; intro gb627 w10 BK627 GE627 HB hg hb; have GW627 := GE627; replace HO617 := Z.rb HO617 hb; replace HO620 := Z.rb HO620 hb; replace HO623 := Z.rb HO623 hb; replace HO626 := Z.rb HO626 hb; clear hb hg; have hcz11 := Z.c3 BK627.out; obtain ⟨Ao12, co12, eo12⟩ := Kd.R_slice HO617.out; subst eo12; obtain ⟨Ao13, co13, eo13⟩ := Kd.R_slice HO620.out; subst eo13; obtain ⟨Ao14, co14, eo14⟩ := Kd.R_slice HO623.out; subst eo14; obtain ⟨Ao15, co15, eo15⟩ := Kd.R_slice HO626.out; subst eo15) | ((with_reducible refine gate_callee (f := 48) rfl ?_); refine goesL_ (some 22) rfl rfl Try.func48 (by kernel_rfl) rfl #[.agg #[.int .i64 t614, .slice Ao12 t615.length co12, .slice Ao13 t618.length co13], .slice Ao14 t621.length co14, .slice Ao15 t624.length co15] rfl Z.ar ?_; (with_reducible refine (impl_AmendersOf.calls k t614 _ _ t615 _ _ t618 _ _ t621 _ _ t624 t628 _ ?q1 ?q2 ?q3 ?q4 ?q5 ?q6 ?q7 ?q8 A4.out).mono ?_); (case q1 => refine (Kd.R_reads' (e := 3) (base := w.heap.size) (ok := fun k_ => (some k_ ≠ (.slice Ao14 t621.length co14 : Value).ownBlock ∧ some k_ ≠ (.slice Ao15 t624.length co15 : Value).ownBlock)) (n := t615.length) (c := co12) ?_).2.2; exact (Kd.R_mono (Kd.R_far (p := ⟨gb627, 2, none⟩) (Kd.R_far (p := ⟨gb627, 1, none⟩) (Kd.R_far (p := ⟨gb627, 0, none⟩) (Kd.R_types HO617.out BK627.out (by decide)) (fun _ hk => hk.2) (.int .i64 t614)) (fun _ hk => hk.2) (.slice Ao12 t615.length co12)) (fun _ hk => hk.2) (.slice Ao13 t618.length co13)) (fun _ h_ => h_.1))); (case q2 => exact (Kd.R_reads' HO617.out).2.1); (case q3 => refine (Kd.R_reads' (e := 34) (base := w.heap.size) (ok := fun k_ => True) (n := t618.length) (c := co13) ?_).2.2; exact (Kd.R_mono (Kd.R_far (p := ⟨gb627, 2, none⟩) (Kd.R_far (p := ⟨gb627, 1, none⟩) (Kd.R_far (p := ⟨gb627, 0, none⟩) (Kd.R_types HO620.out BK627.out (by decide)) (fun _ hk => hk.2) (.int .i64 t614)) (fun _ hk => hk.2) (.slice Ao12 t615.length co12)) (fun _ hk => hk.2) (.slice Ao13 t618.length co13)) (fun _ h_ => h_.1))); (case q4 => exact (Kd.R_reads' HO620.out).2.1); (case q5 => refine (Kd.R_reads' (e := 3) (base := w.heap.size) (ok := fun k_ => (some k_ ≠ (.slice Ao12 t615.length co12 : Value).ownBlock ∧ some k_ ≠ (.slice Ao15 t624.length co15 : Value).ownBlock)) (n := t621.length) (c := co14) ?_).2.2; exact (Kd.R_mono (Kd.R_far (p := ⟨gb627, 2, none⟩) (Kd.R_far (p := ⟨gb627, 1, none⟩) (Kd.R_far (p := ⟨gb627, 0, none⟩) (Kd.R_types HO623.out BK627.out (by decide)) (fun _ hk => hk.2) (.int .i64 t614)) (fun _ hk => hk.2) (.slice Ao12 t615.length co12)) (fun _ hk => hk.2) (.slice Ao13 t618.length co13)) (fun _ h_ => h_.1))); (case q6 => exact (Kd.R_reads' HO623.out).2.1); (case q7 => refine (Kd.R_reads' (e := 3) (base := w.heap.size) (ok := fun k_ => (some k_ ≠ (.slice Ao12 t615.length co12 : Value).ownBlock ∧ some k_ ≠ (.slice Ao14 t621.length co14 : Value).ownBlock)) (n := t624.length) (c := co15) ?_).2.2; exact (Kd.R_mono (Kd.R_far (p := ⟨gb627, 2, none⟩) (Kd.R_far (p := ⟨gb627, 1, none⟩) (Kd.R_far (p := ⟨gb627, 0, none⟩) (Kd.R_types HO626.out BK627.out (by decide)) (fun _ hk => hk.2) (.int .i64 t614)) (fun _ hk => hk.2) (.slice Ao12 t615.length co12)) (fun _ hk => hk.2) (.slice Ao13 t618.length co13)) (fun _ h_ => h_.1))); (case q8 => exact (Kd.R_reads' HO626.out).2.1); rintro e w16 ⟨v629, rfl, ho0, hb⟩; refine ⟨_, rfl, ?_⟩; replace HO620 := Z.k (Kd.R_below (Kd.R_mono (Kd.R_far (p := ⟨gb627, 2, none⟩) (Kd.R_far (p := ⟨gb627, 1, none⟩) (Kd.R_far (p := ⟨gb627, 0, none⟩) (Kd.R_types HO620.out BK627.out (by decide)) (fun _ hk => hk.2) (.int .i64 t614)) (fun _ hk => hk.2) (.slice Ao12 t615.length co12)) (fun _ hk => hk.2) (.slice Ao13 t618.length co13)) (fun _ h_ => h_.1)) hb); have HO630 := Z.k (Kd.R_lower (Kd.R_new' (Kd.R_new' (Kd.R_new' ho0 (Kd.R_lt (Kd.R_mono (Kd.R_far (p := ⟨gb627, 2, none⟩) (Kd.R_far (p := ⟨gb627, 1, none⟩) (Kd.R_far (p := ⟨gb627, 0, none⟩) (Kd.R_types HO617.out BK627.out (by decide)) (fun _ hk => hk.2) (.int .i64 t614)) (fun _ hk => hk.2) (.slice Ao12 t615.length co12)) (fun _ hk => hk.2) (.slice Ao13 t618.length co13)) (fun _ h_ => h_.1)))) (Kd.R_lt (Kd.R_mono (Kd.R_far (p := ⟨gb627, 2, none⟩) (Kd.R_far (p := ⟨gb627, 1, none⟩) (Kd.R_far (p := ⟨gb627, 0, none⟩) (Kd.R_types HO623.out BK627.out (by decide)) (fun _ hk => hk.2) (.int .i64 t614)) (fun _ hk => hk.2) (.slice Ao12 t615.length co12)) (fun _ hk => hk.2) (.slice Ao13 t618.length co13)) (fun _ h_ => h_.1)))) (Kd.R_lt (Kd.R_mono (Kd.R_far (p := ⟨gb627, 2, none⟩) (Kd.R_far (p := ⟨gb627, 1, none⟩) (Kd.R_far (p := ⟨gb627, 0, none⟩) (Kd.R_types HO626.out BK627.out (by decide)) (fun _ hk => hk.2) (.int .i64 t614)) (fun _ hk => hk.2) (.slice Ao12 t615.length co12)) (fun _ hk => hk.2) (.slice Ao13 t618.length co13)) (fun _ h_ => h_.1)))) (below_size (Z.bs HB.out GE627.out))); replace HO617 := Z.k (Kd.R_elder' (Kd.R_mono (Kd.R_far (p := ⟨gb627, 2, none⟩) (Kd.R_far (p := ⟨gb627, 1, none⟩) (Kd.R_far (p := ⟨gb627, 0, none⟩) (Kd.R_types HO617.out BK627.out (by decide)) (fun _ hk => hk.2) (.int .i64 t614)) (fun _ hk => hk.2) (.slice Ao12 t615.length co12)) (fun _ hk => hk.2) (.slice Ao13 t618.length co13)) (fun _ h_ => h_.1)) (Kd.R_base ho0) hb); replace HO623 := Z.k (Kd.R_elder' (Kd.R_mono (Kd.R_far (p := ⟨gb627, 2, none⟩) (Kd.R_far (p := ⟨gb627, 1, none⟩) (Kd.R_far (p := ⟨gb627, 0, none⟩) (Kd.R_types HO623.out BK627.out (by decide)) (fun _ hk => hk.2) (.int .i64 t614)) (fun _ hk => hk.2) (.slice Ao12 t615.length co12)) (fun _ hk => hk.2) (.slice Ao13 t618.length co13)) (fun _ h_ => h_.1)) (Kd.R_base ho0) hb); replace HO626 := Z.k (Kd.R_elder' (Kd.R_mono (Kd.R_far (p := ⟨gb627, 2, none⟩) (Kd.R_far (p := ⟨gb627, 1, none⟩) (Kd.R_far (p := ⟨gb627, 0, none⟩) (Kd.R_types HO626.out BK627.out (by decide)) (fun _ hk => hk.2) (.int .i64 t614)) (fun _ hk => hk.2) (.slice Ao12 t615.length co12)) (fun _ hk => hk.2) (.slice Ao13 t618.length co13)) (fun _ h_ => h_.1)) (Kd.R_base ho0) hb); replace BK627 := Z.k (blk_below (g := gb627) (o := .cells #[.int .i64 t614, .slice Ao12 t615.length co12, .slice Ao13 t618.length co13] 28 (0, 0)) (by refine blk_put (cs := #[.int .i64 t614, .slice Ao12 t615.length co12, .slice none 0 0]) ?_ 2 _ rfl; refine blk_put (cs := #[.int .i64 t614, .slice none 0 0, .slice none 0 0]) ?_ 1 _ rfl; refine blk_put (cs := #[.int .i64 0, .slice none 0 0, .slice none 0 0]) ?_ 0 _ rfl; exact BK627.out) hb); replace HB := Z.st (Z.bs HB.out GE627.out) hb; (try clear hb); (try clear ho0); have hcz17 := Z.c3 BK627.out) | ((with_reducible refine gate_callee (f := 49) rfl ?_); refine goesL_ (some 27) rfl rfl Try.func49 (by kernel_rfl) rfl #[.agg #[.int .i64 t614, .slice Ao12 t615.length co12, .slice Ao13 t618.length co13], .slice Ao14 t621.length co14, .slice Ao15 t624.length co15] rfl Z.ar ?_; (with_reducible refine (spec_AmendersOf.calls k t614 _ _ t615 _ _ t618 _ _ t621 _ _ t624 t631 _ ?q1 ?q2 ?q3 ?q4 ?q5 ?q6 ?q7 ?q8 A5.out).mono ?_); (case q1 => exact (Kd.R_reads' HO617.out).2.2); (case q2 => exact (Kd.R_reads' HO617.out).2.1); (case q3 => exact (Kd.R_reads' HO620.out).2.2); (case q4 => exact (Kd.R_reads' HO620.out).2.1); (case q5 => exact (Kd.R_reads' HO623.out).2.2); (case q6 => exact (Kd.R_reads' HO623.out).2.1); (case q7 => exact (Kd.R_reads' HO626.out).2.2); (case q8 => exact (Kd.R_reads' HO626.out).2.1); rintro e w18 ⟨v632, rfl, ho0, hb⟩; refine ⟨_, rfl, ?_⟩; replace HO620 := Z.rb HO620 hb; have HO633 := Z.k (Kd.R_lower (Kd.R_new' (Kd.R_new' (Kd.R_new' (Kd.R_new' ho0 (Kd.R_lt HO617.out)) (Kd.R_lt HO623.out)) (Kd.R_lt HO626.out)) (Kd.R_lt HO630.out)) (below_size (Z.bs HB.out GE627.out))); replace HO617 := Z.k (Kd.R_elder' HO617.out (Kd.R_base ho0) hb); replace HO623 := Z.k (Kd.R_elder' HO623.out (Kd.R_base ho0) hb); replace HO626 := Z.k (Kd.R_elder' HO626.out (Kd.R_base ho0) hb); replace HO630 := Z.k (Kd.R_elder' HO630.out (Kd.R_base ho0) hb); replace BK627 := Z.bb BK627 hb; replace HB := Z.st (Z.bs HB.out GE627.out) hb; (try clear hb); (try clear ho0); obtain ⟨Ao19, co19, eo19⟩ := Kd.R_slice HO630.out; subst eo19; obtain ⟨Ao20, co20, eo20⟩ := Kd.R_slice HO633.out; subst eo20) | ((with_reducible refine gate_callee (f := 34) rfl ?_); refine goesL_ (some 28) rfl rfl Try.func34 (by kernel_rfl) rfl #[.slice Ao19 t628.length co19, .slice Ao20 t631.length co20] rfl Z.ar ?_; (with_reducible refine (laws_sameInts.calls k _ _ t628 _ _ t631 true _ ?q1 ?q2 ?q3 ?q4 A6.out).mono ?_); (case q1 => exact (Kd.R_reads' HO630.out).2.2); (case q2 => exact (Kd.R_reads' HO630.out).2.1); (case q3 => exact (Kd.R_reads' HO633.out).2.2); (case q4 => exact (Kd.R_reads' HO633.out).2.1); rintro e w' ⟨rfl, ⟨nd, rfl⟩⟩; refine ⟨_, rfl, ?_⟩))
 go_cut [39] (fun v39 wc => ∃ (kq : Nat) (x39_7 : Bool), v39 = .bool x39_7 ∧ Aside0 (laws_FnAmendersOf.j0 kq t621 t624 t628 x39_7 t614 t615 t618 = some r) ∧ Aside0 (kq ≤ k) ∧ Aside0 (Kd.R (Kd.int .i64) 3 wc w.heap.size (fun k_ => some k_ ≠ ((.slice Ao15 t624.length co15) : Value).ownBlock ∧ some k_ ≠ ((.slice Ao19 t628.length co19) : Value).ownBlock ∧ some k_ ≠ ((.slice Ao12 t615.length co12) : Value).ownBlock) (.slice Ao14 t621.length co14) t621) ∧ Aside0 (Kd.R (Kd.int .i64) 3 wc w.heap.size (fun k_ => some k_ ≠ ((.slice Ao14 t621.length co14) : Value).ownBlock ∧ some k_ ≠ ((.slice Ao19 t628.length co19) : Value).ownBlock ∧ some k_ ≠ ((.slice Ao12 t615.length co12) : Value).ownBlock) (.slice Ao15 t624.length co15) t624) ∧ Aside0 (Kd.R (Kd.int .i64) 3 wc w.heap.size (fun k_ => some k_ ≠ ((.slice Ao14 t621.length co14) : Value).ownBlock ∧ some k_ ≠ ((.slice Ao15 t624.length co15) : Value).ownBlock ∧ some k_ ≠ ((.slice Ao12 t615.length co12) : Value).ownBlock) (.slice Ao19 t628.length co19) t628) ∧ Aside0 (Kd.R (Kd.int .i64) 3 wc w.heap.size (fun k_ => some k_ ≠ ((.slice Ao14 t621.length co14) : Value).ownBlock ∧ some k_ ≠ ((.slice Ao15 t624.length co15) : Value).ownBlock ∧ some k_ ≠ ((.slice Ao19 t628.length co19) : Value).ownBlock) (.slice Ao12 t615.length co12) t615) ∧ Aside0 (Kd.R (Kd.slice 37 k37) 34 wc w.heap.size (fun _ => True) (.slice Ao13 t618.length co13) t618) ∧ Aside0 (wc.heap[gb627]? = some (.cells #[.int .i64 t614, (.slice Ao12 t615.length co12), (.slice Ao13 t618.length co13)] 28 (0, 0))) ∧ Aside0 (Below w.heap.size w wc))
 case first =>
  have H := HC8.out
  clear HC8
  revert H; refine Z.bd ?_; rintro t635 A21 H
  by_cases c22 : t635 = true
  ·subst c22
   rw [if_pos rfl] at H
   revert H; refine Z.bd ?_; rintro t636 A23 H
   have H' := Z.k H
   clear H
   have hcz24 := Z.c3 BK627.out
   go_wp2_with (first | ((with_reducible refine gate_callee (f := 16) rfl ?_); refine goesL_ (some 32) rfl rfl Try.func16 (by kernel_rfl) rfl #[.agg #[.int .i64 t614, .slice Ao12 t615.length co12, .slice Ao13 t618.length co13], .slice Ao14 t621.length co14] rfl Z.ar ?_; (with_reducible refine (spec_StateOk.calls k t614 _ _ t615 _ _ t618 _ _ t621 true _ ?q1 ?q2 ?q3 ?q4 ?q5 ?q6 A21.out).mono ?_); (case q1 => exact (Kd.R_reads' HO617.out).2.2); (case q2 => exact (Kd.R_reads' HO617.out).2.1); (case q3 => exact (Kd.R_reads' HO620.out).2.2); (case q4 => exact (Kd.R_reads' HO620.out).2.1); (case q5 => exact (Kd.R_reads' HO623.out).2.2); (case q6 => exact (Kd.R_reads' HO623.out).2.1); rintro e w25 ⟨rfl, hb⟩; refine ⟨_, rfl, ?_⟩; replace HO617 := Z.rb HO617 hb; replace HO620 := Z.rb HO620 hb; replace HO623 := Z.rb HO623 hb; replace HO626 := Z.rb HO626 hb; replace HO630 := Z.rb HO630 hb; replace HO633 := Z.rb HO633 hb; replace BK627 := Z.bb BK627 hb; replace HB := Z.st (Z.bs HB.out GE627.out) hb; (try clear hb); have hcz26 := Z.c3 BK627.out) | (go_at_call 16; (with_reducible refine (spec_StateOk.calls k t614 _ _ t615 _ _ t618 _ _ t624 t636 _ ?q1 ?q2 ?q3 ?q4 ?q5 ?q6 A23.out).mono ?_); (case q1 => exact (Kd.R_reads' HO617.out).2.2); (case q2 => exact (Kd.R_reads' HO617.out).2.1); (case q3 => exact (Kd.R_reads' HO620.out).2.2); (case q4 => exact (Kd.R_reads' HO620.out).2.1); (case q5 => exact (Kd.R_reads' HO626.out).2.2); (case q6 => exact (Kd.R_reads' HO626.out).2.1); rintro e w27 ⟨rfl, hb⟩; replace HO617 := Z.rb HO617 hb; replace HO620 := Z.rb HO620 hb; replace HO623 := Z.rb HO623 hb; replace HO626 := Z.rb HO626 hb; replace HO630 := Z.rb HO630 hb; replace HO633 := Z.rb HO633 hb; replace BK627 := Z.bb BK627 hb; replace HB := Z.st (Z.bs HB.out GE627.out) hb; (try clear hb)))
   go_meet
   case rel => exact ⟨_, (!t636), (by rfl), H', ⟨by omega⟩, ⟨by exact Kd.R_mono HO623.out (fun _ hk => ⟨hk.1.1.2, ⟨hk.1.2, hk.1.1.1⟩⟩)⟩, ⟨by exact Kd.R_mono HO626.out (fun _ hk => ⟨hk.1.1.2, ⟨hk.1.2, hk.1.1.1⟩⟩)⟩, ⟨by exact Kd.R_mono HO630.out (fun _ hk => ⟨hk.1.1.2, ⟨hk.1.2, hk.1.1.1.2⟩⟩)⟩, ⟨by exact Kd.R_mono HO617.out (fun _ hk => ⟨hk.1.1.1, ⟨hk.1.1.2, hk.1.2⟩⟩)⟩, ⟨by exact HO620.out⟩, ⟨by exact BK627.out⟩, ⟨Z.bs HB.out GE627.out⟩⟩
  replace c22 := Bool.eq_false_iff.mpr c22
  subst c22
  rw [if_neg (show ¬ (false = true) by decide)] at H
  have H' := Z.k H
  clear H
  have hcz28 := Z.c3 BK627.out
  go_wp2_with (((with_reducible refine gate_callee (f := 16) rfl ?_); refine goesL_ (some 32) rfl rfl Try.func16 (by kernel_rfl) rfl #[.agg #[.int .i64 t614, .slice Ao12 t615.length co12, .slice Ao13 t618.length co13], .slice Ao14 t621.length co14] rfl Z.ar ?_; (with_reducible refine (spec_StateOk.calls k t614 _ _ t615 _ _ t618 _ _ t621 false _ ?q1 ?q2 ?q3 ?q4 ?q5 ?q6 A21.out).mono ?_); (case q1 => exact (Kd.R_reads' HO617.out).2.2); (case q2 => exact (Kd.R_reads' HO617.out).2.1); (case q3 => exact (Kd.R_reads' HO620.out).2.2); (case q4 => exact (Kd.R_reads' HO620.out).2.1); (case q5 => exact (Kd.R_reads' HO623.out).2.2); (case q6 => exact (Kd.R_reads' HO623.out).2.1); rintro e w29 ⟨rfl, hb⟩; refine ⟨_, rfl, ?_⟩; replace HO617 := Z.rb HO617 hb; replace HO620 := Z.rb HO620 hb; replace HO623 := Z.rb HO623 hb; replace HO626 := Z.rb HO626 hb; replace HO630 := Z.rb HO630 hb; replace HO633 := Z.rb HO633 hb; replace BK627 := Z.bb BK627 hb; replace HB := Z.st (Z.bs HB.out GE627.out) hb; (try clear hb)))
  go_meet
  case rel => exact ⟨_, (true), (by rfl), H', ⟨by omega⟩, ⟨by exact Kd.R_mono HO623.out (fun _ hk => ⟨hk.1.1.2, ⟨hk.1.2, hk.1.1.1⟩⟩)⟩, ⟨by exact Kd.R_mono HO626.out (fun _ hk => ⟨hk.1.1.2, ⟨hk.1.2, hk.1.1.1⟩⟩)⟩, ⟨by exact Kd.R_mono HO630.out (fun _ hk => ⟨hk.1.1.2, ⟨hk.1.2, hk.1.1.1.2⟩⟩)⟩, ⟨by exact Kd.R_mono HO617.out (fun _ hk => ⟨hk.1.1.1, ⟨hk.1.1.2, hk.1.2⟩⟩)⟩, ⟨by exact HO620.out⟩, ⟨by exact BK627.out⟩, ⟨Z.bs HB.out GE627.out⟩⟩
 case rest =>
  clear HC8
  try clear c2b0
  try clear c2b1
  obtain ⟨kq, x39_7, rfl, HA, HJ7, HO_4, HO_5, HO_6, HO_628001, HO_628002, BK627, HB⟩ := hcut
  cases kq with
  | zero => exact absurd HA.out (by simp [laws_FnAmendersOf.j0])
  | succ kj7 =>
   have H := HA.out
   clear HA
   simp only [laws_FnAmendersOf.j0] at H
   by_cases c30 : x39_7 = true
   ·subst c30
    rw [if_pos rfl] at H
    by_cases c31 : (t628.length : Int) = 0
    ·rw [if_pos c31] at H
     have c31b0 : ((t628.length : Int) == 0) = true := beq_iff_eq.mpr c31
     have c31b1 : ((t628.length : Int) != 0) = false := bne_eq_false_iff_eq.mpr c31
     clear c31
     revert H; refine Z.bd ?_; rintro t637 A32 H
     obtain rfl := Option.some.inj H
     go_wp2_with ((go_at_call 18; (with_reducible refine (laws_alive.calls  t637 _ A32.out).mono ?_); rintro e w' ⟨rfl, ⟨nd, rfl⟩⟩))
     go_ret
     exact ⟨by rfl, Z.bs HB.out GE627.out⟩
    rw [if_neg c31] at H
    have c31b0 : ((t628.length : Int) == 0) = false := beq_eq_false_iff_ne.mpr c31
    have c31b1 : ((t628.length : Int) != 0) = true := bne_iff_ne.mpr c31
    have c31b2 : ¬ (t628 = []) := fun h_ => c31 (by rw [h_]; rfl)
    obtain rfl := Option.some.inj H
    go_wp2
    go_ret
    exact ⟨by rfl, Z.bs HB.out GE627.out⟩
   replace c30 := Bool.eq_false_iff.mpr c30
   subst c30
   rw [if_neg (show ¬ (false = true) by decide)] at H
   have H' := Z.k H
   clear H
   go_wp2
   go_loopg [7] kj7 (fun kq v7 w' => ∃ (x7_2 : Int), v7 = .int .i64 x7_2 ∧ Aside0 (laws_FnAmendersOf.l0 kq t621 t624 t628 x7_2 t614 t615 t618 = some r) ∧ Aside0 (kq ≤ kj7) ∧ Aside0 (Kd.R (Kd.int .i64) 3 w' w.heap.size (fun k_ => some k_ ≠ ((.slice Ao15 t624.length co15) : Value).ownBlock ∧ some k_ ≠ ((.slice Ao19 t628.length co19) : Value).ownBlock ∧ some k_ ≠ ((.slice Ao12 t615.length co12) : Value).ownBlock) (.slice Ao14 t621.length co14) t621) ∧ Aside0 (Kd.R (Kd.int .i64) 3 w' w.heap.size (fun k_ => some k_ ≠ ((.slice Ao14 t621.length co14) : Value).ownBlock ∧ some k_ ≠ ((.slice Ao19 t628.length co19) : Value).ownBlock ∧ some k_ ≠ ((.slice Ao12 t615.length co12) : Value).ownBlock) (.slice Ao15 t624.length co15) t624) ∧ Aside0 (Kd.R (Kd.int .i64) 3 w' w.heap.size (fun k_ => some k_ ≠ ((.slice Ao14 t621.length co14) : Value).ownBlock ∧ some k_ ≠ ((.slice Ao15 t624.length co15) : Value).ownBlock ∧ some k_ ≠ ((.slice Ao12 t615.length co12) : Value).ownBlock) (.slice Ao19 t628.length co19) t628) ∧ Aside0 (Kd.R (Kd.int .i64) 3 w' w.heap.size (fun k_ => some k_ ≠ ((.slice Ao14 t621.length co14) : Value).ownBlock ∧ some k_ ≠ ((.slice Ao15 t624.length co15) : Value).ownBlock ∧ some k_ ≠ ((.slice Ao19 t628.length co19) : Value).ownBlock) (.slice Ao12 t615.length co12) t615) ∧ Aside0 (Kd.R (Kd.slice 37 k37) 34 w' w.heap.size (fun _ => True) (.slice Ao13 t618.length co13) t618) ∧ Aside0 (w'.heap[gb627]? = some (.cells #[.int .i64 t614, (.slice Ao12 t615.length co12), (.slice Ao13 t618.length co13)] 28 (0, 0))) ∧ Aside0 (Below w.heap.size w w'))
   case atStart => exact ⟨(0), (by rfl), H', ⟨Nat.le_refl _⟩, ⟨by exact HO_4.out⟩, ⟨by exact HO_5.out⟩, ⟨by exact HO_6.out⟩, ⟨by exact HO_628001.out⟩, ⟨by exact HO_628002.out⟩, ⟨by exact BK627.out⟩, ⟨Z.bs HB.out GE627.out⟩⟩
   clear H'
   obtain ⟨x7_2, rfl, HA, HK2, HO_4, HO_5, HO_6, HO_628001, HO_628002, BK627, HB⟩ := hrel
   cases gk with
   | zero => exact absurd HA.out (by simp [laws_FnAmendersOf.l0])
   | succ k2 =>
    have H := HA.out
    clear HA
    simp only [laws_FnAmendersOf.l0] at H
    revert H; refine Z.fm ?_ ?_ <;> intro c33b0 H
    ·obtain ⟨c60, H⟩ := Z.ifp H
     have c60b0 := eq_true c60
     have c60b1 : decide (0 ≤ t614) = true := decide_eq_true c60
     clear c60
     obtain ⟨ji61, hji61⟩ : ∃ j_ : Int, (shl .i64 1 t614) = j_ := ⟨_, rfl⟩
     replace H : ((impl_ChangesTo.f k2 t614 t615 t618 t621 t624 (wrap64 ((ji61) - 1))).bind fun t638 => ((laws_ascend.f k2 t628).bind fun t639 => (if t639 = true then (if ((decide ((t628.length : Int) > 0)) == (decide (t638 ≥ 0))) = true then ((laws_sameInts.f k2 t621 t624).bind fun t640 => (if (t628.length : Int) = 1 then (if 0 < (t628.length : Int) then (some (t640 == ((rd t628 0) == 0))) else (none)) else (some (t640 == false)))) else (some false)) else (some false)))) = some r := by (rw [hji61] at H; exact H)
     have hji61_ : (IntKind.i64.wrap (1 * 2 ^ min t614.toNat 64)) = ji61 := hji61
     have hji61z : t614 ≤ 64 → (IntKind.i64.wrap (1 * 2 ^ t614.toNat)) = ji61 := shl_small hji61
     have hji61u : (IntKind.i64.wrap (2 ^ min t614.toNat 64)) = ji61 := by have h_ := hji61_; rw [Int.one_mul] at h_; exact h_
     have hji61v : t614 ≤ 64 → (IntKind.i64.wrap (2 ^ t614.toNat)) = ji61 := fun hle_ => by have h_ := hji61z hle_; rw [Int.one_mul] at h_; exact h_
     have hji61y : (wrap64 (1 * 2 ^ min t614.toNat 64)) = ji61 := (i64_w _).symm.trans hji61_
     have hji61x : t614 ≤ 64 → (wrap64 (1 * 2 ^ t614.toNat)) = ji61 := fun h_ => (i64_w _).symm.trans (hji61z h_)
     revert H; refine Z.bd ?_; rintro t638 A62 H
     revert H; refine Z.bd ?_; rintro t639 A63 H
     by_cases c64 : t639 = true
     rotate_left
     ·replace c64 := Bool.eq_false_iff.mpr c64
      subst c64
      rw [if_neg (show ¬ (false = true) by decide)] at H
      obtain rfl := Option.some.inj H
      try go_wp2
      replace HO_4 := Z.k (Kd.R_drew HO_4.out)
      replace HO_5 := Z.k (Kd.R_drew HO_5.out)
      replace HO_6 := Z.k (Kd.R_drew HO_6.out)
      replace HO_628001 := Z.k (Kd.R_drew HO_628001.out)
      replace HO_628002 := Z.k (Kd.R_drew HO_628002.out)
      replace BK627 := Z.k (blk_drew BK627.out)
      replace HB := Z.k (below_drew1 HB.out)
      refine start_ (n := 10) (S := fun w' => w'.cell? ⟨gb627, 0, none⟩ = some (.int .i64 t614) ∧ w'.cell? ⟨gb627, 1, none⟩ = some (.slice Ao12 t615.length co12) ∧ w'.cell? ⟨gb627, 2, none⟩ = some (.slice Ao13 t618.length co13)) (ds := []) (Z.mb 10 0) (by kernel_rfl) rfl rfl ⟨Z.b BK627 0, Z.b BK627 1, Z.b BK627 2⟩ (fun hHeld => ?_); refine with_tabW laws_FnAmendersOf.tab19 laws_FnAmendersOf.bits19 (fun HT_ HW_ => ?_)
      generalize wr.drew = w75 at HO_4 HO_5 HO_6 HO_628001 HO_628002 BK627 HB hHeld ⊢
      refine Z.pv 1 91 10 2 HT_.out ?_
      refine Z.pv 2 92 10 6 HT_.out ?_
      refine Z.pv 3 93 10 14 HT_.out ?_
      refine Z.pv 4 94 10 30 HT_.out ?_
      refine Z.t3 0 90 10 31 HT_.out HW_.out hHeld ?_
      refine Z.t3 5 95 10 63 HT_.out HW_.out hHeld ?_
      refine Z.pv 6 96 10 127 HT_.out ?_
      refine Z.pv 7 97 10 255 HT_.out ?_
      refine one_ (i := 8) (N := some 98) (Z.mb 10 511) rfl rfl (one_of HT_.out (by kernel_rfl)) (by decide) (fun K hK => ?_)
      refine goes_ Try.func30 (by kernel_rfl) rfl #[.agg #[.int .i64 t614, .slice Ao12 t615.length co12, .slice Ao13 t618.length co13], .slice Ao14 t621.length co14, .slice Ao15 t624.length co15, .int .i64 (wrap64 ((ji61) - 1))] (by rfl) rfl rfl (by (try simp only [List.map_toArray, List.map_cons, List.map_nil]); rfl) ?_
      with_reducible refine (impl_ChangesTo.calls k2 t614 _ _ t615 _ _ t618 _ _ t621 _ _ t624 (wrap64 ((ji61) - 1)) t638 _ ?q1 ?q2 ?q3 ?q4 ?q5 ?q6 ?q7 ?q8 A62.out).mono ?_
      (case q1 => exact (Kd.R_reads' HO_628001.out).2.2)
      (case q2 => exact (Kd.R_reads' HO_628001.out).2.1)
      (case q3 => exact (Kd.R_reads' HO_628002.out).2.2)
      (case q4 => exact (Kd.R_reads' HO_628002.out).2.1)
      (case q5 => exact (Kd.R_reads' HO_4.out).2.2)
      (case q6 => exact (Kd.R_reads' HO_4.out).2.1)
      (case q7 => exact (Kd.R_reads' HO_5.out).2.2)
      (case q8 => exact (Kd.R_reads' HO_5.out).2.1)
      rintro e w76 ⟨rfl, hb⟩
      refine ⟨_, rfl, ?_⟩
      replace HO_4 := Z.rb HO_4 hb
      replace HO_5 := Z.rb HO_5 hb
      replace HO_6 := Z.rb HO_6 hb
      replace HO_628001 := Z.rb HO_628001 hb
      replace HO_628002 := Z.rb HO_628002 hb
      replace BK627 := Z.bb BK627 hb
      replace HB := Z.st (Z.bs HB.out GE627.out) hb
      (try clear hb)
      refine hK.out _ _ ⟨Z.b BK627 0, Z.b BK627 1, Z.b BK627 2⟩ (fun hHeld => ?_)
      clear hK K
      refine Z.nm ?_
      refine Z.pv 9 9 10 1023 HT_.out ?_
      refine done_ (done_of HT_.out (by kernel_rfl)) ?_
      try go_wp2_with (((with_reducible refine gate_callee (f := 39) rfl ?_); refine goesL_ (some 100) rfl rfl Try.func39 (by kernel_rfl) rfl #[.slice Ao19 t628.length co19] rfl Z.ar ?_; (with_reducible refine (laws_ascend.calls k2 _ _ t628 false _ ?q1 ?q2 A63.out).mono ?_); (case q1 => exact (Kd.R_reads' HO_6.out).2.2); (case q2 => exact (Kd.R_reads' HO_6.out).2.1); rintro e w' ⟨rfl, ⟨nd, rfl⟩⟩; refine ⟨_, rfl, ?_⟩))
      go_ret
      exact ⟨by rfl, Z.bs HB.out GE627.out⟩
     subst c64
     rw [if_pos rfl] at H
     by_cases c65 : ((decide ((t628.length : Int) > 0)) == (decide (t638 ≥ 0))) = true
     rotate_left
     ·rw [if_neg c65] at H
      have c65b0 : ((decide ((t628.length : Int) > 0)) == (decide (t638 ≥ 0))) = false := by simpa using c65
      (try (have c65b1 : decide ((decide ((t628.length : Int) > 0)) = (decide (t638 ≥ 0))) = false := by simpa using c65))
      (try (have c65b2 : ((decide ((t628.length : Int) > 0)) == (decide (t638 ≥ 0))) = false := by simpa using c65))
      (try (have c65b3 : ¬ ((decide ((t628.length : Int) > 0)) = (decide (t638 ≥ 0))) := by simpa using c65))
      clear c65
      obtain rfl := Option.some.inj H
      try go_wp2
      replace HO_4 := Z.k (Kd.R_drew HO_4.out)
      replace HO_5 := Z.k (Kd.R_drew HO_5.out)
      replace HO_6 := Z.k (Kd.R_drew HO_6.out)
      replace HO_628001 := Z.k (Kd.R_drew HO_628001.out)
      replace HO_628002 := Z.k (Kd.R_drew HO_628002.out)
      replace BK627 := Z.k (blk_drew BK627.out)
      replace HB := Z.k (below_drew1 HB.out)
      refine start_ (n := 10) (S := fun w' => w'.cell? ⟨gb627, 0, none⟩ = some (.int .i64 t614) ∧ w'.cell? ⟨gb627, 1, none⟩ = some (.slice Ao12 t615.length co12) ∧ w'.cell? ⟨gb627, 2, none⟩ = some (.slice Ao13 t618.length co13)) (ds := []) (Z.mb 10 0) (by kernel_rfl) rfl rfl ⟨Z.b BK627 0, Z.b BK627 1, Z.b BK627 2⟩ (fun hHeld => ?_); refine with_tabW laws_FnAmendersOf.tab19 laws_FnAmendersOf.bits19 (fun HT_ HW_ => ?_)
      generalize wr.drew = w73 at HO_4 HO_5 HO_6 HO_628001 HO_628002 BK627 HB hHeld ⊢
      refine Z.pv 1 91 10 2 HT_.out ?_
      refine Z.pv 2 92 10 6 HT_.out ?_
      refine Z.pv 3 93 10 14 HT_.out ?_
      refine Z.pv 4 94 10 30 HT_.out ?_
      refine Z.t3 0 90 10 31 HT_.out HW_.out hHeld ?_
      refine Z.t3 5 95 10 63 HT_.out HW_.out hHeld ?_
      refine Z.pv 6 96 10 127 HT_.out ?_
      refine Z.pv 7 97 10 255 HT_.out ?_
      refine one_ (i := 8) (N := some 98) (Z.mb 10 511) rfl rfl (one_of HT_.out (by kernel_rfl)) (by decide) (fun K hK => ?_)
      refine goes_ Try.func30 (by kernel_rfl) rfl #[.agg #[.int .i64 t614, .slice Ao12 t615.length co12, .slice Ao13 t618.length co13], .slice Ao14 t621.length co14, .slice Ao15 t624.length co15, .int .i64 (wrap64 ((ji61) - 1))] (by rfl) rfl rfl (by (try simp only [List.map_toArray, List.map_cons, List.map_nil]); rfl) ?_
      with_reducible refine (impl_ChangesTo.calls k2 t614 _ _ t615 _ _ t618 _ _ t621 _ _ t624 (wrap64 ((ji61) - 1)) t638 _ ?q1 ?q2 ?q3 ?q4 ?q5 ?q6 ?q7 ?q8 A62.out).mono ?_
      (case q1 => exact (Kd.R_reads' HO_628001.out).2.2)
      (case q2 => exact (Kd.R_reads' HO_628001.out).2.1)
      (case q3 => exact (Kd.R_reads' HO_628002.out).2.2)
      (case q4 => exact (Kd.R_reads' HO_628002.out).2.1)
      (case q5 => exact (Kd.R_reads' HO_4.out).2.2)
      (case q6 => exact (Kd.R_reads' HO_4.out).2.1)
      (case q7 => exact (Kd.R_reads' HO_5.out).2.2)
      (case q8 => exact (Kd.R_reads' HO_5.out).2.1)
      rintro e w74 ⟨rfl, hb⟩
      refine ⟨_, rfl, ?_⟩
      replace HO_4 := Z.rb HO_4 hb
      replace HO_5 := Z.rb HO_5 hb
      replace HO_6 := Z.rb HO_6 hb
      replace HO_628001 := Z.rb HO_628001 hb
      replace HO_628002 := Z.rb HO_628002 hb
      replace BK627 := Z.bb BK627 hb
      replace HB := Z.st (Z.bs HB.out GE627.out) hb
      (try clear hb)
      refine hK.out _ _ ⟨Z.b BK627 0, Z.b BK627 1, Z.b BK627 2⟩ (fun hHeld => ?_)
      clear hK K
      refine Z.nm ?_
      refine Z.pv 9 9 10 1023 HT_.out ?_
      refine done_ (done_of HT_.out (by kernel_rfl)) ?_
      try go_wp2_with (((with_reducible refine gate_callee (f := 39) rfl ?_); refine goesL_ (some 100) rfl rfl Try.func39 (by kernel_rfl) rfl #[.slice Ao19 t628.length co19] rfl Z.ar ?_; (with_reducible refine (laws_ascend.calls k2 _ _ t628 true _ ?q1 ?q2 A63.out).mono ?_); (case q1 => exact (Kd.R_reads' HO_6.out).2.2); (case q2 => exact (Kd.R_reads' HO_6.out).2.1); rintro e w' ⟨rfl, ⟨nd, rfl⟩⟩; refine ⟨_, rfl, ?_⟩))
      all_goals (first | (exfalso; rename_i hn_; have hx_ := c65b0; simp only [beq_iff_eq, beq_eq_false_iff_ne, ne_eq, decide_eq_true_eq, decide_eq_false_iff_not, decide_eq_decide, not_true, not_false_eq_true, Bool.true_eq, Bool.false_eq, Bool.not_eq_true, Bool.not_eq_false, gt_iff_lt, ge_iff_le, reduceCtorEq] at hx_; omega; done) | (go_ret; exact ⟨by rfl, Z.bs HB.out GE627.out⟩))
      skip
     rw [if_pos c65] at H
     have c65b0 : ((decide ((t628.length : Int) > 0)) == (decide (t638 ≥ 0))) = true := c65
     (try (have c65b1 : decide ((decide ((t628.length : Int) > 0)) = (decide (t638 ≥ 0))) = true := by simpa using c65))
     (try (have c65b2 : ((decide ((t628.length : Int) > 0)) == (decide (t638 ≥ 0))) = true := by simpa using c65))
     clear c65
     revert H; refine Z.bd ?_; rintro t640 A66 H
     by_cases c67 : (t628.length : Int) = 1
     ·rw [if_pos c67] at H
      have c67b0 : ((t628.length : Int) == 1) = true := beq_iff_eq.mpr c67
      have c67b1 : ((t628.length : Int) != 1) = false := bne_eq_false_iff_eq.mpr c67
      clear c67
      obtain ⟨c68, H⟩ := Z.ifp H
      have c68b0 : decide (0 < (t628.length : Int)) = true := decide_eq_true c68
      have c68b1 : decide (0 < t628.length) = true := decide_eq_true (by omega)
      clear c68
      obtain rfl := Option.some.inj H
      try go_wp2
      replace HO_4 := Z.k (Kd.R_drew HO_4.out)
      replace HO_5 := Z.k (Kd.R_drew HO_5.out)
      replace HO_6 := Z.k (Kd.R_drew HO_6.out)
      replace HO_628001 := Z.k (Kd.R_drew HO_628001.out)
      replace HO_628002 := Z.k (Kd.R_drew HO_628002.out)
      replace BK627 := Z.k (blk_drew BK627.out)
      replace HB := Z.k (below_drew1 HB.out)
      refine start_ (n := 10) (S := fun w' => w'.cell? ⟨gb627, 0, none⟩ = some (.int .i64 t614) ∧ w'.cell? ⟨gb627, 1, none⟩ = some (.slice Ao12 t615.length co12) ∧ w'.cell? ⟨gb627, 2, none⟩ = some (.slice Ao13 t618.length co13)) (ds := []) (Z.mb 10 0) (by kernel_rfl) rfl rfl ⟨Z.b BK627 0, Z.b BK627 1, Z.b BK627 2⟩ (fun hHeld => ?_); refine with_tabW laws_FnAmendersOf.tab19 laws_FnAmendersOf.bits19 (fun HT_ HW_ => ?_)
      generalize wr.drew = w69 at HO_4 HO_5 HO_6 HO_628001 HO_628002 BK627 HB hHeld ⊢
      refine Z.pv 1 91 10 2 HT_.out ?_
      refine Z.pv 2 92 10 6 HT_.out ?_
      refine Z.pv 3 93 10 14 HT_.out ?_
      refine Z.pv 4 94 10 30 HT_.out ?_
      refine Z.t3 0 90 10 31 HT_.out HW_.out hHeld ?_
      refine Z.t3 5 95 10 63 HT_.out HW_.out hHeld ?_
      refine Z.pv 6 96 10 127 HT_.out ?_
      refine Z.pv 7 97 10 255 HT_.out ?_
      refine one_ (i := 8) (N := some 98) (Z.mb 10 511) rfl rfl (one_of HT_.out (by kernel_rfl)) (by decide) (fun K hK => ?_)
      refine goes_ Try.func30 (by kernel_rfl) rfl #[.agg #[.int .i64 t614, .slice Ao12 t615.length co12, .slice Ao13 t618.length co13], .slice Ao14 t621.length co14, .slice Ao15 t624.length co15, .int .i64 (wrap64 ((ji61) - 1))] (by rfl) rfl rfl (by (try simp only [List.map_toArray, List.map_cons, List.map_nil]); rfl) ?_
      with_reducible refine (impl_ChangesTo.calls k2 t614 _ _ t615 _ _ t618 _ _ t621 _ _ t624 (wrap64 ((ji61) - 1)) t638 _ ?q1 ?q2 ?q3 ?q4 ?q5 ?q6 ?q7 ?q8 A62.out).mono ?_
      (case q1 => exact (Kd.R_reads' HO_628001.out).2.2)
      (case q2 => exact (Kd.R_reads' HO_628001.out).2.1)
      (case q3 => exact (Kd.R_reads' HO_628002.out).2.2)
      (case q4 => exact (Kd.R_reads' HO_628002.out).2.1)
      (case q5 => exact (Kd.R_reads' HO_4.out).2.2)
      (case q6 => exact (Kd.R_reads' HO_4.out).2.1)
      (case q7 => exact (Kd.R_reads' HO_5.out).2.2)
      (case q8 => exact (Kd.R_reads' HO_5.out).2.1)
      rintro e w70 ⟨rfl, hb⟩
      refine ⟨_, rfl, ?_⟩
      replace HO_4 := Z.rb HO_4 hb
      replace HO_5 := Z.rb HO_5 hb
      replace HO_6 := Z.rb HO_6 hb
      replace HO_628001 := Z.rb HO_628001 hb
      replace HO_628002 := Z.rb HO_628002 hb
      replace BK627 := Z.bb BK627 hb
      replace HB := Z.st (Z.bs HB.out GE627.out) hb
      (try clear hb)
      refine hK.out _ _ ⟨Z.b BK627 0, Z.b BK627 1, Z.b BK627 2⟩ (fun hHeld => ?_)
      clear hK K
      refine Z.nm ?_
      refine Z.pv 9 9 10 1023 HT_.out ?_
      refine done_ (done_of HT_.out (by kernel_rfl)) ?_
      try go_wp2_with (first | ((with_reducible refine gate_callee (f := 39) rfl ?_); refine goesL_ (some 100) rfl rfl Try.func39 (by kernel_rfl) rfl #[.slice Ao19 t628.length co19] rfl Z.ar ?_; (with_reducible refine (laws_ascend.calls k2 _ _ t628 true _ ?q1 ?q2 A63.out).mono ?_); (case q1 => exact (Kd.R_reads' HO_6.out).2.2); (case q2 => exact (Kd.R_reads' HO_6.out).2.1); rintro e w' ⟨rfl, ⟨nd, rfl⟩⟩; refine ⟨_, rfl, ?_⟩) | (go_at_call 34; (with_reducible refine (laws_sameInts.calls k2 _ _ t621 _ _ t624 t640 _ ?q1 ?q2 ?q3 ?q4 A66.out).mono ?_); (case q1 => exact (Kd.R_reads' HO_4.out).2.2); (case q2 => exact (Kd.R_reads' HO_4.out).2.1); (case q3 => exact (Kd.R_reads' HO_5.out).2.2); (case q4 => exact (Kd.R_reads' HO_5.out).2.1); rintro e w' ⟨rfl, ⟨nd, rfl⟩⟩; have p641 : 0 ≤ (0 : Int) := (by omega); have q641 : 0 < (t628.length : Int) := Z.od; obtain ⟨ad641, e641, hx641_0⟩ := Kd.at_int (Kd.R_reads' HO_6.out).2.2 0 p641 q641; cases e641; have qi641 : (0 < t628.length) = True := eq_true (by omega); (try rw [show ((0 : Int)).toNat = 0 from rfl] at hx641_0); (try rw [Addr.add_zero'] at hx641_0); replace p641 := eq_true p641; replace q641 := eq_true q641))
      all_goals (first | (exfalso; rename_i hn_; have hx_ := c65b0; (try simp only [beq_iff_eq] at c67b0); simp only [beq_iff_eq, beq_eq_false_iff_ne, ne_eq, decide_eq_true_eq, decide_eq_false_iff_not, decide_eq_decide, not_true, not_false_eq_true, Bool.true_eq, Bool.false_eq, Bool.not_eq_true, Bool.not_eq_false, gt_iff_lt, ge_iff_le, reduceCtorEq] at hx_; omega; done) | (go_ret; exact ⟨by rfl, Z.bs HB.out GE627.out⟩))
      skip
     rw [if_neg c67] at H
     have c67b0 : ((t628.length : Int) == 1) = false := beq_eq_false_iff_ne.mpr c67
     have c67b1 : ((t628.length : Int) != 1) = true := bne_iff_ne.mpr c67
     obtain rfl := Option.some.inj H
     try go_wp2
     replace HO_4 := Z.k (Kd.R_drew HO_4.out)
     replace HO_5 := Z.k (Kd.R_drew HO_5.out)
     replace HO_6 := Z.k (Kd.R_drew HO_6.out)
     replace HO_628001 := Z.k (Kd.R_drew HO_628001.out)
     replace HO_628002 := Z.k (Kd.R_drew HO_628002.out)
     replace BK627 := Z.k (blk_drew BK627.out)
     replace HB := Z.k (below_drew1 HB.out)
     refine start_ (n := 10) (S := fun w' => w'.cell? ⟨gb627, 0, none⟩ = some (.int .i64 t614) ∧ w'.cell? ⟨gb627, 1, none⟩ = some (.slice Ao12 t615.length co12) ∧ w'.cell? ⟨gb627, 2, none⟩ = some (.slice Ao13 t618.length co13)) (ds := []) (Z.mb 10 0) (by kernel_rfl) rfl rfl ⟨Z.b BK627 0, Z.b BK627 1, Z.b BK627 2⟩ (fun hHeld => ?_); refine with_tabW laws_FnAmendersOf.tab19 laws_FnAmendersOf.bits19 (fun HT_ HW_ => ?_)
     generalize wr.drew = w71 at HO_4 HO_5 HO_6 HO_628001 HO_628002 BK627 HB hHeld ⊢
     refine Z.pv 1 91 10 2 HT_.out ?_
     refine Z.pv 2 92 10 6 HT_.out ?_
     refine Z.pv 3 93 10 14 HT_.out ?_
     refine Z.pv 4 94 10 30 HT_.out ?_
     refine Z.t3 0 90 10 31 HT_.out HW_.out hHeld ?_
     refine Z.t3 5 95 10 63 HT_.out HW_.out hHeld ?_
     refine Z.pv 6 96 10 127 HT_.out ?_
     refine Z.pv 7 97 10 255 HT_.out ?_
     refine one_ (i := 8) (N := some 98) (Z.mb 10 511) rfl rfl (one_of HT_.out (by kernel_rfl)) (by decide) (fun K hK => ?_)
     refine goes_ Try.func30 (by kernel_rfl) rfl #[.agg #[.int .i64 t614, .slice Ao12 t615.length co12, .slice Ao13 t618.length co13], .slice Ao14 t621.length co14, .slice Ao15 t624.length co15, .int .i64 (wrap64 ((ji61) - 1))] (by rfl) rfl rfl (by (try simp only [List.map_toArray, List.map_cons, List.map_nil]); rfl) ?_
     with_reducible refine (impl_ChangesTo.calls k2 t614 _ _ t615 _ _ t618 _ _ t621 _ _ t624 (wrap64 ((ji61) - 1)) t638 _ ?q1 ?q2 ?q3 ?q4 ?q5 ?q6 ?q7 ?q8 A62.out).mono ?_
     (case q1 => exact (Kd.R_reads' HO_628001.out).2.2)
     (case q2 => exact (Kd.R_reads' HO_628001.out).2.1)
     (case q3 => exact (Kd.R_reads' HO_628002.out).2.2)
     (case q4 => exact (Kd.R_reads' HO_628002.out).2.1)
     (case q5 => exact (Kd.R_reads' HO_4.out).2.2)
     (case q6 => exact (Kd.R_reads' HO_4.out).2.1)
     (case q7 => exact (Kd.R_reads' HO_5.out).2.2)
     (case q8 => exact (Kd.R_reads' HO_5.out).2.1)
     rintro e w72 ⟨rfl, hb⟩
     refine ⟨_, rfl, ?_⟩
     replace HO_4 := Z.rb HO_4 hb
     replace HO_5 := Z.rb HO_5 hb
     replace HO_6 := Z.rb HO_6 hb
     replace HO_628001 := Z.rb HO_628001 hb
     replace HO_628002 := Z.rb HO_628002 hb
     replace BK627 := Z.bb BK627 hb
     replace HB := Z.st (Z.bs HB.out GE627.out) hb
     (try clear hb)
     refine hK.out _ _ ⟨Z.b BK627 0, Z.b BK627 1, Z.b BK627 2⟩ (fun hHeld => ?_)
     clear hK K
     refine Z.nm ?_
     refine Z.pv 9 9 10 1023 HT_.out ?_
     refine done_ (done_of HT_.out (by kernel_rfl)) ?_
     try go_wp2_with (first | ((with_reducible refine gate_callee (f := 39) rfl ?_); refine goesL_ (some 100) rfl rfl Try.func39 (by kernel_rfl) rfl #[.slice Ao19 t628.length co19] rfl Z.ar ?_; (with_reducible refine (laws_ascend.calls k2 _ _ t628 true _ ?q1 ?q2 A63.out).mono ?_); (case q1 => exact (Kd.R_reads' HO_6.out).2.2); (case q2 => exact (Kd.R_reads' HO_6.out).2.1); rintro e w' ⟨rfl, ⟨nd, rfl⟩⟩; refine ⟨_, rfl, ?_⟩) | (go_at_call 34; (with_reducible refine (laws_sameInts.calls k2 _ _ t621 _ _ t624 t640 _ ?q1 ?q2 ?q3 ?q4 A66.out).mono ?_); (case q1 => exact (Kd.R_reads' HO_4.out).2.2); (case q2 => exact (Kd.R_reads' HO_4.out).2.1); (case q3 => exact (Kd.R_reads' HO_5.out).2.2); (case q4 => exact (Kd.R_reads' HO_5.out).2.1); rintro e w' ⟨rfl, ⟨nd, rfl⟩⟩))
     all_goals (first | (exfalso; rename_i hn_; have hx_ := c65b0; simp only [beq_iff_eq, beq_eq_false_iff_ne, ne_eq, decide_eq_true_eq, decide_eq_false_iff_not, decide_eq_decide, not_true, not_false_eq_true, Bool.true_eq, Bool.false_eq, Bool.not_eq_true, Bool.not_eq_false, gt_iff_lt, ge_iff_le, reduceCtorEq] at hx_; omega; done) | (go_ret; exact ⟨by (simp [errW_none, errW_some] <;> rfl), Z.bs HB.out GE627.out⟩))
     skip
    obtain ⟨c34b0, H⟩ := Z.fd H
    revert H; refine Z.bd ?_; rintro t643 A35 H
    revert H; refine Z.fc ?_ ?_ <;> intro c36b0 H
    ·obtain rfl := Option.some.inj H
     try go_wp2
     replace HO_4 := Z.k (Kd.R_drew HO_4.out)
     replace HO_5 := Z.k (Kd.R_drew HO_5.out)
     replace HO_6 := Z.k (Kd.R_drew HO_6.out)
     replace HO_628001 := Z.k (Kd.R_drew HO_628001.out)
     replace HO_628002 := Z.k (Kd.R_drew HO_628002.out)
     replace BK627 := Z.k (blk_drew BK627.out)
     replace HB := Z.k (below_drew1 HB.out)
     have p642 : 0 ≤ (x7_2 : Int) := Z.od
     have q642 : x7_2 < (t628.length : Int) := Z.od
     obtain ⟨ad642, e642, hx642_0⟩ := Kd.at_int (Kd.R_reads' HO_6.out).2.2 x7_2 p642 q642
     cases e642
     replace p642 := eq_true p642
     replace q642 := eq_true q642
     refine start_ (n := 9) (S := fun w' => w'.cell? ⟨gb627, 0, none⟩ = some (.int .i64 t614) ∧ w'.cell? ⟨gb627, 1, none⟩ = some (.slice Ao12 t615.length co12) ∧ w'.cell? ⟨gb627, 2, none⟩ = some (.slice Ao13 t618.length co13) ∧ w'.cell? (ad642.add (x7_2).toNat) = some (.int .i64 (rd t628 x7_2))) (ds := []) (Z.mb 9 0) (by kernel_rfl) rfl rfl ⟨Z.b BK627 0, Z.b BK627 1, Z.b BK627 2, hx642_0⟩ (fun hHeld => ?_); refine with_tabW laws_FnAmendersOf.tab12 laws_FnAmendersOf.bits12 (fun HT_ HW_ => ?_)
     generalize wr.drew = w37 at HO_4 HO_5 HO_6 HO_628001 HO_628002 BK627 HB hx642_0 hHeld ⊢
     refine Z.pv 1 53 9 2 HT_.out ?_
     refine Z.pv 2 54 9 6 HT_.out ?_
     refine Z.pv 3 55 9 14 HT_.out ?_
     refine Z.pv 4 56 9 30 HT_.out ?_
     refine Z.pv 5 57 9 62 HT_.out ?_
     refine Z.t4 0 52 9 63 HT_.out HW_.out hHeld ?_
     refine Z.t4 6 58 9 127 HT_.out HW_.out hHeld ?_
     refine one_ (i := 7) (N := some 59) (Z.mb 9 255) rfl rfl (one_of HT_.out (by kernel_rfl)) (by decide) (fun K hK => ?_)
     refine goes_ Try.func30 (by kernel_rfl) rfl #[.agg #[.int .i64 t614, .slice Ao12 t615.length co12, .slice Ao13 t618.length co13], .slice Ao14 t621.length co14, .slice Ao15 t624.length co15, .int .i64 (rd t628 x7_2)] (by rfl) rfl rfl Z.ar ?_
     with_reducible refine (impl_ChangesTo.calls k2 t614 _ _ t615 _ _ t618 _ _ t621 _ _ t624 (rd t628 x7_2) t643 _ ?q1 ?q2 ?q3 ?q4 ?q5 ?q6 ?q7 ?q8 A35.out).mono ?_
     (case q1 => exact (Kd.R_reads' HO_628001.out).2.2)
     (case q2 => exact (Kd.R_reads' HO_628001.out).2.1)
     (case q3 => exact (Kd.R_reads' HO_628002.out).2.2)
     (case q4 => exact (Kd.R_reads' HO_628002.out).2.1)
     (case q5 => exact (Kd.R_reads' HO_4.out).2.2)
     (case q6 => exact (Kd.R_reads' HO_4.out).2.1)
     (case q7 => exact (Kd.R_reads' HO_5.out).2.2)
     (case q8 => exact (Kd.R_reads' HO_5.out).2.1)
     rintro e w38 ⟨rfl, hb⟩
     have HS3_ := (hb.cell (World.block_lt_of_cell? _ _ (hHeld.2.2.2))).trans (hHeld.2.2.2)
     refine ⟨_, rfl, ?_⟩
     replace HO_4 := Z.rb HO_4 hb
     replace HO_5 := Z.rb HO_5 hb
     replace HO_6 := Z.rb HO_6 hb
     replace HO_628001 := Z.rb HO_628001 hb
     replace HO_628002 := Z.rb HO_628002 hb
     replace BK627 := Z.bb BK627 hb
     replace HB := Z.st (Z.bs HB.out GE627.out) hb
     (try clear hb)
     refine hK.out _ _ ⟨Z.b BK627 0, Z.b BK627 1, Z.b BK627 2, HS3_⟩ (fun hHeld => ?_)
     clear hK K
     refine Z.nm ?_
     refine Z.pv 8 60 9 511 HT_.out ?_
     refine done_ (done_of HT_.out (by kernel_rfl)) ?_
     try go_wp2
     go_ret
     exact ⟨by rfl, Z.bs HB.out GE627.out⟩
    have H' := Z.k H
    clear H
    try go_wp2
    replace HO_4 := Z.k (Kd.R_drew HO_4.out)
    replace HO_5 := Z.k (Kd.R_drew HO_5.out)
    replace HO_6 := Z.k (Kd.R_drew HO_6.out)
    replace HO_628001 := Z.k (Kd.R_drew HO_628001.out)
    replace HO_628002 := Z.k (Kd.R_drew HO_628002.out)
    replace BK627 := Z.k (blk_drew BK627.out)
    replace HB := Z.k (below_drew1 HB.out)
    have p642 : 0 ≤ (x7_2 : Int) := Z.od
    have q642 : x7_2 < (t628.length : Int) := Z.od
    obtain ⟨ad642, e642, hx642_0⟩ := Kd.at_int (Kd.R_reads' HO_6.out).2.2 x7_2 p642 q642
    cases e642
    replace p642 := eq_true p642
    replace q642 := eq_true q642
    refine start_ (n := 9) (S := fun w' => w'.cell? ⟨gb627, 0, none⟩ = some (.int .i64 t614) ∧ w'.cell? ⟨gb627, 1, none⟩ = some (.slice Ao12 t615.length co12) ∧ w'.cell? ⟨gb627, 2, none⟩ = some (.slice Ao13 t618.length co13) ∧ w'.cell? (ad642.add (x7_2).toNat) = some (.int .i64 (rd t628 x7_2))) (ds := []) (Z.mb 9 0) (by kernel_rfl) rfl rfl ⟨Z.b BK627 0, Z.b BK627 1, Z.b BK627 2, hx642_0⟩ (fun hHeld => ?_); refine with_tabW laws_FnAmendersOf.tab12 laws_FnAmendersOf.bits12 (fun HT_ HW_ => ?_)
    generalize wr.drew = w39 at HO_4 HO_5 HO_6 HO_628001 HO_628002 BK627 HB hx642_0 hHeld ⊢
    refine Z.pv 1 53 9 2 HT_.out ?_
    refine Z.pv 2 54 9 6 HT_.out ?_
    refine Z.pv 3 55 9 14 HT_.out ?_
    refine Z.pv 4 56 9 30 HT_.out ?_
    refine Z.pv 5 57 9 62 HT_.out ?_
    refine Z.t4 0 52 9 63 HT_.out HW_.out hHeld ?_
    refine Z.t4 6 58 9 127 HT_.out HW_.out hHeld ?_
    refine one_ (i := 7) (N := some 59) (Z.mb 9 255) rfl rfl (one_of HT_.out (by kernel_rfl)) (by decide) (fun K hK => ?_)
    refine goes_ Try.func30 (by kernel_rfl) rfl #[.agg #[.int .i64 t614, .slice Ao12 t615.length co12, .slice Ao13 t618.length co13], .slice Ao14 t621.length co14, .slice Ao15 t624.length co15, .int .i64 (rd t628 x7_2)] (by rfl) rfl rfl Z.ar ?_
    with_reducible refine (impl_ChangesTo.calls k2 t614 _ _ t615 _ _ t618 _ _ t621 _ _ t624 (rd t628 x7_2) t643 _ ?q1 ?q2 ?q3 ?q4 ?q5 ?q6 ?q7 ?q8 A35.out).mono ?_
    (case q1 => exact (Kd.R_reads' HO_628001.out).2.2)
    (case q2 => exact (Kd.R_reads' HO_628001.out).2.1)
    (case q3 => exact (Kd.R_reads' HO_628002.out).2.2)
    (case q4 => exact (Kd.R_reads' HO_628002.out).2.1)
    (case q5 => exact (Kd.R_reads' HO_4.out).2.2)
    (case q6 => exact (Kd.R_reads' HO_4.out).2.1)
    (case q7 => exact (Kd.R_reads' HO_5.out).2.2)
    (case q8 => exact (Kd.R_reads' HO_5.out).2.1)
    rintro e w40 ⟨rfl, hb⟩
    have HS3_ := (hb.cell (World.block_lt_of_cell? _ _ (hHeld.2.2.2))).trans (hHeld.2.2.2)
    refine ⟨_, rfl, ?_⟩
    replace HO_4 := Z.rb HO_4 hb
    replace HO_5 := Z.rb HO_5 hb
    replace HO_6 := Z.rb HO_6 hb
    replace HO_628001 := Z.rb HO_628001 hb
    replace HO_628002 := Z.rb HO_628002 hb
    replace BK627 := Z.bb BK627 hb
    replace HB := Z.st (Z.bs HB.out GE627.out) hb
    (try clear hb)
    refine hK.out _ _ ⟨Z.b BK627 0, Z.b BK627 1, Z.b BK627 2, HS3_⟩ (fun hHeld => ?_)
    clear hK K
    refine Z.nm ?_
    refine Z.pv 8 60 9 511 HT_.out ?_
    refine done_ (done_of HT_.out (by kernel_rfl)) ?_
    try go_wp2
    go_loopg [8] k2 (fun kq v8 w' => ∃ (x8_3 : Int), v8 = .int .i64 x8_3 ∧ Aside0 (laws_FnAmendersOf.l1 kq t621 t624 t628 x7_2 x8_3 t614 t615 t618 = some r) ∧ Aside0 (kq ≤ k2) ∧ Aside0 (Kd.R (Kd.int .i64) 3 w' w.heap.size (fun k_ => some k_ ≠ ((.slice Ao15 t624.length co15) : Value).ownBlock ∧ some k_ ≠ ((.slice (some ad642) t628.length co19) : Value).ownBlock ∧ some k_ ≠ ((.slice Ao12 t615.length co12) : Value).ownBlock) (.slice Ao14 t621.length co14) t621) ∧ Aside0 (Kd.R (Kd.int .i64) 3 w' w.heap.size (fun k_ => some k_ ≠ ((.slice Ao14 t621.length co14) : Value).ownBlock ∧ some k_ ≠ ((.slice (some ad642) t628.length co19) : Value).ownBlock ∧ some k_ ≠ ((.slice Ao12 t615.length co12) : Value).ownBlock) (.slice Ao15 t624.length co15) t624) ∧ Aside0 (Kd.R (Kd.int .i64) 3 w' w.heap.size (fun k_ => some k_ ≠ ((.slice Ao14 t621.length co14) : Value).ownBlock ∧ some k_ ≠ ((.slice Ao15 t624.length co15) : Value).ownBlock ∧ some k_ ≠ ((.slice Ao12 t615.length co12) : Value).ownBlock) (.slice (some ad642) t628.length co19) t628) ∧ Aside0 (Kd.R (Kd.int .i64) 3 w' w.heap.size (fun k_ => some k_ ≠ ((.slice Ao14 t621.length co14) : Value).ownBlock ∧ some k_ ≠ ((.slice Ao15 t624.length co15) : Value).ownBlock ∧ some k_ ≠ ((.slice (some ad642) t628.length co19) : Value).ownBlock) (.slice Ao12 t615.length co12) t615) ∧ Aside0 (Kd.R (Kd.slice 37 k37) 34 w' w.heap.size (fun _ => True) (.slice Ao13 t618.length co13) t618) ∧ Aside0 (w'.heap[gb627]? = some (.cells #[.int .i64 t614, (.slice Ao12 t615.length co12), (.slice Ao13 t618.length co13)] 28 (0, 0))) ∧ Aside0 (Below w.heap.size w w'))
    case atStart => exact ⟨(0), (by rfl), H', ⟨Nat.le_refl _⟩, ⟨by exact HO_4.out⟩, ⟨by exact HO_5.out⟩, ⟨by exact HO_6.out⟩, ⟨by exact HO_628001.out⟩, ⟨by exact HO_628002.out⟩, ⟨by exact BK627.out⟩, ⟨Z.bs HB.out GE627.out⟩⟩
    clear H'
    try clear c33b0
    try clear c34b0
    try clear c36b0
    try clear hx642_0
    try clear p642
    try clear q642
    obtain ⟨x8_3, rfl, HA, HK3, HO_4, HO_5, HO_6, HO_628001, HO_628002, BK627, HB⟩ := hrel
    cases gk with
    | zero => exact absurd HA.out (by simp [laws_FnAmendersOf.l1])
    | succ k3 =>
     have H := HA.out
     clear HA
     simp only [laws_FnAmendersOf.l1] at H
     revert H; refine Z.fm ?_ ?_ <;> intro c41b0 H
     ·have H' := Z.k H
      clear H
      have hcz59 := Z.c3 BK627.out
      go_wp2
      go_roundg k3
      case measure => have := HJ7.out; have := HK2.out; have := HK3.out; omega
      case rel => exact ⟨(wrap64 (x7_2 + 1)), (by rfl), H', ⟨by have := HJ7.out; have := HK2.out; have := HK3.out; omega⟩, ⟨by exact HO_4.out⟩, ⟨by exact HO_5.out⟩, ⟨by exact HO_6.out⟩, ⟨by exact HO_628001.out⟩, ⟨by exact HO_628002.out⟩, ⟨by exact BK627.out⟩, ⟨Z.bs HB.out GE627.out⟩⟩
     obtain ⟨c42b0, H⟩ := Z.fd H
     obtain ⟨c43b0, H⟩ := Z.fd H
     obtain ⟨c44, H⟩ := Z.ifp H
     have c44b0 := eq_true c44
     have c44b1 : decide (0 ≤ x8_3) = true := decide_eq_true c44
     clear c44
     obtain ⟨ji45, hji45⟩ : ∃ j_ : Int, (shr .i64 (rd t628 x7_2) x8_3) = j_ := ⟨_, rfl⟩
     replace H : (if (Int.tmod (ji45) 2) = 1 then ((impl_ChangesTo.f k3 t614 t615 t618 t621 t624 (wrap64 ((rd t628 x7_2) - (shl .i64 1 x8_3)))).bind fun t646 => (if t646 ≥ 0 then (some false) else (laws_FnAmendersOf.l1 k3 t621 t624 t628 x7_2 (wrap64 (x8_3 + 1)) t614 t615 t618))) else (laws_FnAmendersOf.l1 k3 t621 t624 t628 x7_2 (wrap64 (x8_3 + 1)) t614 t615 t618)) = some r := by (rw [hji45] at H; exact H)
     have hji45_ : ((rd t628 x7_2) / 2 ^ min x8_3.toNat 64) = ji45 := hji45
     have hji45z : x8_3 ≤ 64 → ((rd t628 x7_2) / 2 ^ x8_3.toNat) = ji45 := shr_small hji45
     by_cases c46 : (Int.tmod (ji45) 2) = 1
     rotate_left
     ·rw [if_neg c46] at H
      have c46b0 : ((Int.tmod (ji45) 2) == 1) = false := beq_eq_false_iff_ne.mpr c46
      have c46b1 : ((Int.tmod (ji45) 2) != 1) = true := bne_iff_ne.mpr c46
      have H' := Z.k H
      clear H
      have hcz57 := Z.c3 BK627.out
      try go_wp2
      replace HO_4 := Z.k (Kd.R_drew HO_4.out)
      replace HO_5 := Z.k (Kd.R_drew HO_5.out)
      replace HO_6 := Z.k (Kd.R_drew HO_6.out)
      replace HO_628001 := Z.k (Kd.R_drew HO_628001.out)
      replace HO_628002 := Z.k (Kd.R_drew HO_628002.out)
      replace BK627 := Z.k (blk_drew BK627.out)
      replace HB := Z.k (below_drew1 HB.out)
      have p644 : 0 ≤ (x7_2 : Int) := Z.od
      have q644 : x7_2 < (t628.length : Int) := Z.od
      obtain ⟨ad644, e644, hx644_0⟩ := Kd.at_int (Kd.R_reads' HO_6.out).2.2 x7_2 p644 q644
      obtain rfl : ad642 = ad644 := (by injection e644)
      replace p644 := eq_true p644
      replace q644 := eq_true q644
      refine start_ (n := 22) (S := fun w' => w'.cell? (ad642.add (x7_2).toNat) = some (.int .i64 (rd t628 x7_2))) (ds := []) (Z.mb 22 0) (by kernel_rfl) rfl rfl (hx644_0) (fun hHeld => ?_); refine with_tabW laws_FnAmendersOf.tab17 laws_FnAmendersOf.bits17 (fun HT_ HW_ => ?_)
      generalize wr.drew = w58 at HO_4 HO_5 HO_6 HO_628001 HO_628002 BK627 HB hx644_0 hHeld ⊢
      refine Z.pv 0 68 22 1 HT_.out ?_
      refine Z.pv 1 69 22 3 HT_.out ?_
      refine Z.pv 2 70 22 7 HT_.out ?_
      refine Z.pv 4 72 22 23 HT_.out ?_
      refine take_ (i := 3) (N := some 71) (v := ?_) (a' := ?_) #[true, true, true, true, true, false, false, false, false, false, false, false, false, false, false, false, false, false, false, false, false, false] rfl rfl (take_ofW HT_.out HW_.out (by kernel_rfl)) (fun _ _ _ h => h) (Or.inl ⟨by rfl, ?_⟩) hHeld ?_ ?_
      rotate_left
      ·intro w' s0
       go_simp
       with_reducible rfl
      rotate_left
      ·simp only [Act.put, List.setIfInBounds_toArray, List.set_cons_zero, List.set_cons_succ, i64_w, i32_w]
       rfl
      refine Z.pv 5 73 22 63 HT_.out ?_
      refine Z.pv 6 74 22 127 HT_.out ?_
      refine Z.pv 7 75 22 255 HT_.out ?_
      refine Z.pv 8 76 22 511 HT_.out ?_
      refine Z.pu 9 77 22 1023 HT_.out ?_
      refine Z.pu 10 78 22 2047 HT_.out ?_
      refine Z.pu 11 79 22 4095 HT_.out ?_
      refine Z.pu 12 80 22 8191 HT_.out ?_
      refine Z.pu 13 81 22 16383 HT_.out ?_
      refine Z.pu 14 82 22 32767 HT_.out ?_
      refine Z.pu 15 83 22 65535 HT_.out ?_
      refine Z.pu 16 84 22 131071 HT_.out ?_
      refine Z.pu 17 85 22 262143 HT_.out ?_
      refine Z.pu 18 86 22 524287 HT_.out ?_
      refine Z.pu 19 87 22 1048575 HT_.out ?_
      refine Z.pu 20 88 22 2097151 HT_.out ?_
      refine Z.pv 21 89 22 4194303 HT_.out ?_
      refine done_ (done_of HT_.out (by kernel_rfl)) ?_
      try go_wp2
      go_roundg k3
      case measure => have := HJ7.out; have := HK2.out; have := HK3.out; omega
      case rel => exact ⟨(wrap64 (x8_3 + 1)), (by rfl), H', ⟨by have := HJ7.out; have := HK2.out; have := HK3.out; omega⟩, ⟨by exact HO_4.out⟩, ⟨by exact HO_5.out⟩, ⟨by exact HO_6.out⟩, ⟨by exact HO_628001.out⟩, ⟨by exact HO_628002.out⟩, ⟨by exact BK627.out⟩, ⟨Z.bs HB.out GE627.out⟩⟩
     rw [if_pos c46] at H
     have c46b0 : ((Int.tmod (ji45) 2) == 1) = true := beq_iff_eq.mpr c46
     have c46b1 : ((Int.tmod (ji45) 2) != 1) = false := bne_eq_false_iff_eq.mpr c46
     clear c46
     have c47b0 := eq_true (Z.od : 0 ≤ x8_3)
     obtain ⟨ji48, hji48⟩ : ∃ j_ : Int, (shl .i64 1 x8_3) = j_ := ⟨_, rfl⟩
     replace H : ((impl_ChangesTo.f k3 t614 t615 t618 t621 t624 (wrap64 ((rd t628 x7_2) - (ji48)))).bind fun t646 => (if t646 ≥ 0 then (some false) else (laws_FnAmendersOf.l1 k3 t621 t624 t628 x7_2 (wrap64 (x8_3 + 1)) t614 t615 t618))) = some r := by (rw [hji48] at H; exact H)
     have hji48_ : (IntKind.i64.wrap (1 * 2 ^ min x8_3.toNat 64)) = ji48 := hji48
     have hji48z : x8_3 ≤ 64 → (IntKind.i64.wrap (1 * 2 ^ x8_3.toNat)) = ji48 := shl_small hji48
     have hji48u : (IntKind.i64.wrap (2 ^ min x8_3.toNat 64)) = ji48 := by have h_ := hji48_; rw [Int.one_mul] at h_; exact h_
     have hji48v : x8_3 ≤ 64 → (IntKind.i64.wrap (2 ^ x8_3.toNat)) = ji48 := fun hle_ => by have h_ := hji48z hle_; rw [Int.one_mul] at h_; exact h_
     have hji48y : (wrap64 (1 * 2 ^ min x8_3.toNat 64)) = ji48 := (i64_w _).symm.trans hji48_
     have hji48x : x8_3 ≤ 64 → (wrap64 (1 * 2 ^ x8_3.toNat)) = ji48 := fun h_ => (i64_w _).symm.trans (hji48z h_)
     revert H; refine Z.bd ?_; rintro t646 A49 H
     revert H; refine Z.fc ?_ ?_ <;> intro c50b0 H
     ·obtain rfl := Option.some.inj H
      have hcz51 := Z.c3 BK627.out
      try go_wp2
      replace HO_4 := Z.k (Kd.R_drew HO_4.out)
      replace HO_5 := Z.k (Kd.R_drew HO_5.out)
      replace HO_6 := Z.k (Kd.R_drew HO_6.out)
      replace HO_628001 := Z.k (Kd.R_drew HO_628001.out)
      replace HO_628002 := Z.k (Kd.R_drew HO_628002.out)
      replace BK627 := Z.k (blk_drew BK627.out)
      replace HB := Z.k (below_drew1 HB.out)
      have p644 : 0 ≤ (x7_2 : Int) := Z.od
      have q644 : x7_2 < (t628.length : Int) := Z.od
      obtain ⟨ad644, e644, hx644_0⟩ := Kd.at_int (Kd.R_reads' HO_6.out).2.2 x7_2 p644 q644
      obtain rfl : ad642 = ad644 := (by injection e644)
      replace p644 := eq_true p644
      replace q644 := eq_true q644
      have p645 : 0 ≤ (x7_2 : Int) := Z.od
      have q645 : x7_2 < (t628.length : Int) := Z.od
      obtain ⟨ad645, e645, hx645_0⟩ := Kd.at_int (Kd.R_reads' HO_6.out).2.2 x7_2 p645 q645
      obtain rfl : ad642 = ad645 := (by injection e645)
      replace p645 := eq_true p645
      replace q645 := eq_true q645
      refine start_ (n := 22) (S := fun w' => w'.cell? ⟨gb627, 0, none⟩ = some (.int .i64 t614) ∧ w'.cell? ⟨gb627, 1, none⟩ = some (.slice Ao12 t615.length co12) ∧ w'.cell? ⟨gb627, 2, none⟩ = some (.slice Ao13 t618.length co13) ∧ w'.cell? (ad642.add (x7_2).toNat) = some (.int .i64 (rd t628 x7_2)) ∧ w'.cell? (ad642.add (x7_2).toNat) = some (.int .i64 (rd t628 x7_2))) (ds := []) (Z.mb 22 0) (by kernel_rfl) rfl rfl ⟨Z.b BK627 0, Z.b BK627 1, Z.b BK627 2, hx644_0, hx645_0⟩ (fun hHeld => ?_); refine with_tabW laws_FnAmendersOf.tab17 laws_FnAmendersOf.bits17 (fun HT_ HW_ => ?_)
      generalize wr.drew = w52 at HO_4 HO_5 HO_6 HO_628001 HO_628002 BK627 HB hx644_0 hx645_0 hHeld ⊢
      refine Z.pv 0 68 22 1 HT_.out ?_
      refine Z.pv 1 69 22 3 HT_.out ?_
      refine Z.pv 2 70 22 7 HT_.out ?_
      refine Z.pv 4 72 22 23 HT_.out ?_
      refine Z.t5 3 71 22 31 HT_.out HW_.out hHeld ?_
      refine Z.pv 5 73 22 63 HT_.out ?_
      refine Z.pv 6 74 22 127 HT_.out ?_
      refine Z.pv 7 75 22 255 HT_.out ?_
      refine Z.pv 8 76 22 511 HT_.out ?_
      refine Z.pv 10 78 22 1535 HT_.out ?_
      refine Z.pv 11 79 22 3583 HT_.out ?_
      refine Z.pv 12 80 22 7679 HT_.out ?_
      refine Z.pv 13 81 22 15871 HT_.out ?_
      refine Z.pv 14 82 22 32255 HT_.out ?_
      refine Z.pv 16 84 22 97791 HT_.out ?_
      refine Z.pv 17 85 22 228863 HT_.out ?_
      refine Z.t5 9 77 22 229375 HT_.out HW_.out hHeld ?_
      refine Z.t5 15 83 22 262143 HT_.out HW_.out hHeld ?_
      refine Z.pv 18 86 22 524287 HT_.out ?_
      refine one_ (i := 19) (N := some 87) (Z.mb 22 1048575) rfl rfl (one_of HT_.out (by kernel_rfl)) (by decide) (fun K hK => ?_)
      refine goes_ Try.func30 (by kernel_rfl) rfl #[.agg #[.int .i64 t614, .slice Ao12 t615.length co12, .slice Ao13 t618.length co13], .slice Ao14 t621.length co14, .slice Ao15 t624.length co15, .int .i64 (wrap64 ((rd t628 x7_2) - (ji48)))] (by rfl) rfl rfl (by (try simp only [List.map_toArray, List.map_cons, List.map_nil]); rfl) ?_
      with_reducible refine (impl_ChangesTo.calls k3 t614 _ _ t615 _ _ t618 _ _ t621 _ _ t624 (wrap64 ((rd t628 x7_2) - (ji48))) t646 _ ?q1 ?q2 ?q3 ?q4 ?q5 ?q6 ?q7 ?q8 A49.out).mono ?_
      (case q1 => exact (Kd.R_reads' HO_628001.out).2.2)
      (case q2 => exact (Kd.R_reads' HO_628001.out).2.1)
      (case q3 => exact (Kd.R_reads' HO_628002.out).2.2)
      (case q4 => exact (Kd.R_reads' HO_628002.out).2.1)
      (case q5 => exact (Kd.R_reads' HO_4.out).2.2)
      (case q6 => exact (Kd.R_reads' HO_4.out).2.1)
      (case q7 => exact (Kd.R_reads' HO_5.out).2.2)
      (case q8 => exact (Kd.R_reads' HO_5.out).2.1)
      rintro e w53 ⟨rfl, hb⟩
      have HS3_ := (hb.cell (World.block_lt_of_cell? _ _ (hHeld.2.2.2.1))).trans (hHeld.2.2.2.1)
      have HS4_ := (hb.cell (World.block_lt_of_cell? _ _ (hHeld.2.2.2.2))).trans (hHeld.2.2.2.2)
      refine ⟨_, rfl, ?_⟩
      replace HO_4 := Z.rb HO_4 hb
      replace HO_5 := Z.rb HO_5 hb
      replace HO_6 := Z.rb HO_6 hb
      replace HO_628001 := Z.rb HO_628001 hb
      replace HO_628002 := Z.rb HO_628002 hb
      replace BK627 := Z.bb BK627 hb
      replace HB := Z.st (Z.bs HB.out GE627.out) hb
      (try clear hb)
      refine hK.out _ _ ⟨Z.b BK627 0, Z.b BK627 1, Z.b BK627 2, HS3_, HS4_⟩ (fun hHeld => ?_)
      clear hK K
      refine Z.nm ?_
      refine Z.pv 20 88 22 2097151 HT_.out ?_
      refine Z.pv 21 89 22 4194303 HT_.out ?_
      refine done_ (done_of HT_.out (by kernel_rfl)) ?_
      try go_wp2
      go_ret
      exact ⟨by rfl, Z.bs HB.out GE627.out⟩
     have H' := Z.k H
     clear H
     have hcz54 := Z.c3 BK627.out
     try go_wp2
     replace HO_4 := Z.k (Kd.R_drew HO_4.out)
     replace HO_5 := Z.k (Kd.R_drew HO_5.out)
     replace HO_6 := Z.k (Kd.R_drew HO_6.out)
     replace HO_628001 := Z.k (Kd.R_drew HO_628001.out)
     replace HO_628002 := Z.k (Kd.R_drew HO_628002.out)
     replace BK627 := Z.k (blk_drew BK627.out)
     replace HB := Z.k (below_drew1 HB.out)
     have p644 : 0 ≤ (x7_2 : Int) := Z.od
     have q644 : x7_2 < (t628.length : Int) := Z.od
     obtain ⟨ad644, e644, hx644_0⟩ := Kd.at_int (Kd.R_reads' HO_6.out).2.2 x7_2 p644 q644
     obtain rfl : ad642 = ad644 := (by injection e644)
     replace p644 := eq_true p644
     replace q644 := eq_true q644
     have p645 : 0 ≤ (x7_2 : Int) := Z.od
     have q645 : x7_2 < (t628.length : Int) := Z.od
     obtain ⟨ad645, e645, hx645_0⟩ := Kd.at_int (Kd.R_reads' HO_6.out).2.2 x7_2 p645 q645
     obtain rfl : ad642 = ad645 := (by injection e645)
     replace p645 := eq_true p645
     replace q645 := eq_true q645
     refine start_ (n := 22) (S := fun w' => w'.cell? ⟨gb627, 0, none⟩ = some (.int .i64 t614) ∧ w'.cell? ⟨gb627, 1, none⟩ = some (.slice Ao12 t615.length co12) ∧ w'.cell? ⟨gb627, 2, none⟩ = some (.slice Ao13 t618.length co13) ∧ w'.cell? (ad642.add (x7_2).toNat) = some (.int .i64 (rd t628 x7_2)) ∧ w'.cell? (ad642.add (x7_2).toNat) = some (.int .i64 (rd t628 x7_2))) (ds := []) (Z.mb 22 0) (by kernel_rfl) rfl rfl ⟨Z.b BK627 0, Z.b BK627 1, Z.b BK627 2, hx644_0, hx645_0⟩ (fun hHeld => ?_); refine with_tabW laws_FnAmendersOf.tab17 laws_FnAmendersOf.bits17 (fun HT_ HW_ => ?_)
     generalize wr.drew = w55 at HO_4 HO_5 HO_6 HO_628001 HO_628002 BK627 HB hx644_0 hx645_0 hHeld ⊢
     refine Z.pv 0 68 22 1 HT_.out ?_
     refine Z.pv 1 69 22 3 HT_.out ?_
     refine Z.pv 2 70 22 7 HT_.out ?_
     refine Z.pv 4 72 22 23 HT_.out ?_
     refine Z.t5 3 71 22 31 HT_.out HW_.out hHeld ?_
     refine Z.pv 5 73 22 63 HT_.out ?_
     refine Z.pv 6 74 22 127 HT_.out ?_
     refine Z.pv 7 75 22 255 HT_.out ?_
     refine Z.pv 8 76 22 511 HT_.out ?_
     refine Z.pv 10 78 22 1535 HT_.out ?_
     refine Z.pv 11 79 22 3583 HT_.out ?_
     refine Z.pv 12 80 22 7679 HT_.out ?_
     refine Z.pv 13 81 22 15871 HT_.out ?_
     refine Z.pv 14 82 22 32255 HT_.out ?_
     refine Z.pv 16 84 22 97791 HT_.out ?_
     refine Z.pv 17 85 22 228863 HT_.out ?_
     refine Z.t5 9 77 22 229375 HT_.out HW_.out hHeld ?_
     refine Z.t5 15 83 22 262143 HT_.out HW_.out hHeld ?_
     refine Z.pv 18 86 22 524287 HT_.out ?_
     refine one_ (i := 19) (N := some 87) (Z.mb 22 1048575) rfl rfl (one_of HT_.out (by kernel_rfl)) (by decide) (fun K hK => ?_)
     refine goes_ Try.func30 (by kernel_rfl) rfl #[.agg #[.int .i64 t614, .slice Ao12 t615.length co12, .slice Ao13 t618.length co13], .slice Ao14 t621.length co14, .slice Ao15 t624.length co15, .int .i64 (wrap64 ((rd t628 x7_2) - (ji48)))] (by rfl) rfl rfl (by (try simp only [List.map_toArray, List.map_cons, List.map_nil]); rfl) ?_
     with_reducible refine (impl_ChangesTo.calls k3 t614 _ _ t615 _ _ t618 _ _ t621 _ _ t624 (wrap64 ((rd t628 x7_2) - (ji48))) t646 _ ?q1 ?q2 ?q3 ?q4 ?q5 ?q6 ?q7 ?q8 A49.out).mono ?_
     (case q1 => exact (Kd.R_reads' HO_628001.out).2.2)
     (case q2 => exact (Kd.R_reads' HO_628001.out).2.1)
     (case q3 => exact (Kd.R_reads' HO_628002.out).2.2)
     (case q4 => exact (Kd.R_reads' HO_628002.out).2.1)
     (case q5 => exact (Kd.R_reads' HO_4.out).2.2)
     (case q6 => exact (Kd.R_reads' HO_4.out).2.1)
     (case q7 => exact (Kd.R_reads' HO_5.out).2.2)
     (case q8 => exact (Kd.R_reads' HO_5.out).2.1)
     rintro e w56 ⟨rfl, hb⟩
     have HS3_ := (hb.cell (World.block_lt_of_cell? _ _ (hHeld.2.2.2.1))).trans (hHeld.2.2.2.1)
     have HS4_ := (hb.cell (World.block_lt_of_cell? _ _ (hHeld.2.2.2.2))).trans (hHeld.2.2.2.2)
     refine ⟨_, rfl, ?_⟩
     replace HO_4 := Z.rb HO_4 hb
     replace HO_5 := Z.rb HO_5 hb
     replace HO_6 := Z.rb HO_6 hb
     replace HO_628001 := Z.rb HO_628001 hb
     replace HO_628002 := Z.rb HO_628002 hb
     replace BK627 := Z.bb BK627 hb
     replace HB := Z.st (Z.bs HB.out GE627.out) hb
     (try clear hb)
     refine hK.out _ _ ⟨Z.b BK627 0, Z.b BK627 1, Z.b BK627 2, HS3_, HS4_⟩ (fun hHeld => ?_)
     clear hK K
     refine Z.nm ?_
     refine Z.pv 20 88 22 2097151 HT_.out ?_
     refine Z.pv 21 89 22 4194303 HT_.out ?_
     refine done_ (done_of HT_.out (by kernel_rfl)) ?_
     try go_wp2
     go_roundg k3
     case measure => have := HJ7.out; have := HK2.out; have := HK3.out; omega
     case rel => exact ⟨(wrap64 (x8_3 + 1)), (by rfl), H', ⟨by have := HJ7.out; have := HK2.out; have := HK3.out; omega⟩, ⟨by exact HO_4.out⟩, ⟨by exact HO_5.out⟩, ⟨by exact HO_6.out⟩, ⟨by exact HO_628001.out⟩, ⟨by exact HO_628002.out⟩, ⟨by exact BK627.out⟩, ⟨Z.bs HB.out GE627.out⟩⟩
/-- THE ONE PURE STATEMENT of laws_FnAmendersOf: yours. -/
def laws_FnAmendersOf.Pure : Prop := ∀ (l0 : List Int), l0.length ≤ maxLen → l0.length * 1 ≤ 140737488351232 → (∀ x ∈ l0, (Lit.int .u8 x).wf = true) → ∃ k, laws_FnAmendersOf.f k l0 = some true
theorem laws_FnAmendersOf.walk (P : laws_FnAmendersOf.Pure) (a0 : Option Addr) (len0 cap0 : Nat) (z0 : List Int) (w : World) (w0 : (a0 = none ∧ len0 = 0 ∧ cap0 = 0 ∧ z0 = []) ∨ ∃ x, a0 = some x ∧ len0 ≤ cap0 ∧ cap0 ≤ maxLen ∧ z0.length = cap0 ∧ (∀ i, i < z0.length → w.cell? (x.add i) = some (.int .u8 (z0.getD i 0))) ∧ ∀ n ∈ z0, (Lit.int .u8 n).wf = true) (y0 : len0 * 1 ≤ 140737488351232) :
  Calls Try.prog 11 #[.slice a0 len0 cap0] w fun e w' => e = .returned (.bool true) ∧ Below w.heap.size w w' := by
 obtain ⟨l0, rfl, hr0, hm0, hw0, hc0⟩ := ReadsInt.ofRowC w0
 obtain ⟨k, h⟩ := P l0 hm0 y0 hw0
 refine (laws_FnAmendersOf.calls k _ _ l0 true w (Kd.C_of_reads (d := (0 : Int)) (h1 := fun _ => rfl) hr0) hc0 h).mono ?_
 rintro e w' ⟨rfl, hd⟩
 exact ⟨rfl, hd⟩

end Go.Proofs.Ytkogboechfieeaa.PAll

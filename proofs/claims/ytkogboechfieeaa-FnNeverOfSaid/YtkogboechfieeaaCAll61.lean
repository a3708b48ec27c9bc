/- Walks of functions that laws of this seat reach, in the form of the print. -/
import Derived.Test.YtkogboechfieeaaCAll22
import Derived.Test.YtkogboechfieeaaCAll26
import Derived.Test.YtkogboechfieeaaCAll29
import Derived.Test.YtkogboechfieeaaCAll36
import Derived.Test.YtkogboechfieeaaCAll49
import Derived.Test.YtkogboechfieeaaCAll72
import Derived.Test.YtkogboechfieeaaCAll74
import Derived.Test.YtkogboechfieeaaCAll78
-- PRINTED
namespace Go.Proofs.Ytkogboechfieeaa.PAll
open Go.RowKit Go.Proofs.YtkogboechfieeaaW.PrintWords Go.Proofs.YtkogboechfieeaaW.PrintLast Go.Proofs.YtkogboechfieeaaW.PrintMore
attribute [local go_sem] max2_int min2_int max_two min_two max_three min_three max_four min_four
set_option linter.unusedVariables false
set_option linter.unusedSimpArgs false

/-! ### laws_FnNeverOf: function 14 -/
mutual
def laws_FnNeverOf.l0 : Nat → List Int → List Int → Int → Int → Int → List Int → List (List (S37)) → Option (Bool)
 | 0, _, _, _, _, _, _, _ => none
 | k + 1, x4, x5, x6, x7, x1487000, x1487001, x1487002 => if x7 < (x1487002.length : Int) then (if 0 ≤ x7 then (laws_FnNeverOf.l0 k x4 x5 (wrap64 (x6 * ((rd_L5 x1487002 x7).length : Int))) (wrap64 (x7 + 1)) x1487000 x1487001 x1487002) else (none)) else (if 0 ≤ x1487000 then ((impl_ReachOf.f k x1487000 x1487001 x1487002 x4 (wrap64 ((shl .i64 1 x1487000) - 1))).bind fun t1497 => (laws_FnNeverOf.l1 k x4 x5 x6 t1497 0 x1487000 x1487001 x1487002)) else (none))
def laws_FnNeverOf.l1 : Nat → List Int → List Int → Int → List Int → Int → Int → List Int → List (List (S37)) → Option (Bool)
 | 0, _, _, _, _, _, _, _, _ => none
 | k + 1, x4, x5, x6, x8, x9, x1487000, x1487001, x1487002 => if x9 < (x5.length : Int) then (if 0 ≤ x9 then ((laws_hasInt.f k x8 (rd x5 x9)).bind fun t1501 => (if t1501 = true then (some false) else (laws_FnNeverOf.l1 k x4 x5 x6 x8 (wrap64 (x9 + 1)) x1487000 x1487001 x1487002))) else (none)) else (if (x5.length : Int) > 0 then (if 0 < (x5.length : Int) then ((laws_stateOf.f k x1487000 x1487001 x1487002 (rd x5 0)).bind fun t1503 => ((impl_AmendersOf.f k x1487000 x1487001 x1487002 x4 t1503).bind fun t1506 => (if (t1506.length : Int) > 0 then (some false) else ((laws_ascend.f k x5).bind fun t1509 => (if t1509 = true then (some ((wrap64 ((x5.length : Int) + (x8.length : Int))) == x6)) else (some false)))))) else (none)) else ((laws_ascend.f k x5).bind fun t1510 => (if t1510 = true then (some ((wrap64 ((x5.length : Int) + (x8.length : Int))) == x6)) else (some false))))
end
def laws_FnNeverOf.f (k : Nat) (l0 : List Int) : Option (Bool) := if (l0.length : Int) > 1048576 then (some true) else ((spec_DrawNeverOf.f k l0).bind fun bt1476 => ((impl_NeverOf.f k bt1476.1 bt1476.2.1 bt1476.2.2.1 bt1476.2.2.2).bind fun t1487 => ((spec_NeverOf.f k bt1476.1 bt1476.2.1 bt1476.2.2.1 bt1476.2.2.2).bind fun t1490 => ((laws_sameInts.f k t1487 t1490).bind fun t1493 => (if t1493 = true then ((spec_StateOk.f k bt1476.1 bt1476.2.1 bt1476.2.2.1 bt1476.2.2.2).bind fun t1494 => (if t1494 = true then (laws_FnNeverOf.l0 k bt1476.2.2.2 t1487 1 0 bt1476.1 bt1476.2.1 bt1476.2.2.1) else (if (t1487.length : Int) = 0 then ((laws_alive.f).bind fun t1495 => (some t1495)) else (some false)))) else (some false))))))
def laws_FnNeverOf.T14 : Bool × List (List Nat × List Nat) := (true, [([], []), ([], []), ([], []), ([2], [2]), ([3], [3]), ([4], [4]), ([5], [5]), ([0, 1, 6], [0, 1, 6]), ([7, 7, 0, 1, 2, 3, 4, 5, 6, 7], [7])])
def laws_FnNeverOf.B14 : List Nat := [0, 0, 0, 4, 12, 28, 60, 127, 255]
theorem laws_FnNeverOf.tab14 : rtab .any (opsOf Try.f14 14) = laws_FnNeverOf.T14 := by kernel_rfl
theorem laws_FnNeverOf.bits14 : waitsOk laws_FnNeverOf.T14.2 laws_FnNeverOf.B14 = true := by kernel_rfl
def laws_FnNeverOf.T20 : Bool × List (List Nat × List Nat) := (true, [([], []), ([0], [0]), ([1], [1]), ([2], [2]), ([3], [3]), ([3], [3]), ([3], [3]), ([3], [3]), ([7, 3], [3, 7]), ([8, 3], [3, 8]), ([6, 9, 3, 3], [3, 6, 9]), ([4, 5, 10, 10, 3], [3, 4, 5, 10]), ([11, 3], [3, 11]), ([12, 3], [3, 12]), ([3, 13], [3, 13])])
def laws_FnNeverOf.B20 : List Nat := [0, 1, 3, 7, 15, 15, 15, 15, 143, 399, 975, 2047, 4095, 8191, 16383]
theorem laws_FnNeverOf.tab20 : rtab .any (opsOf Try.f14 20) = laws_FnNeverOf.T20 := by kernel_rfl
theorem laws_FnNeverOf.bits20 : waitsOk laws_FnNeverOf.T20.2 laws_FnNeverOf.B20 = true := by kernel_rfl
set_option maxHeartbeats 8000000 in
set_option maxRecDepth 100000 in
theorem laws_FnNeverOf.calls (k : Nat) (A0 : Option Addr) (c0 : Nat) (l0 : List Int) (r : Bool) (w : World) (hr0 : Kd.C (Kd.int .u8) w A0 l0.length l0) (hc0 : l0.length ≤ c0) (h : laws_FnNeverOf.f k l0 = some r) :
  Calls Try.prog 14 #[.slice A0 l0.length c0] w fun e w' => e = .returned (.bool r) ∧ Below w.heap.size w w' := by
 have hu28 := Try.underlying28
 have HR0 := Z.k hr0
 have HC0 := Z.k hc0
 clear hr0 hc0
 have HB := Z.k (Below.refl w.heap.size w)
 have H := h
 clear h
 unfold laws_FnNeverOf.f at H
 by_cases c2 : (l0.length : Int) > 1048576
 ·rw [if_pos c2] at H
  have c2b0 : decide (1048576 < (l0.length : Int)) = true := decide_eq_true c2
  have c2b1 : decide (1048576 < l0.length) = true := decide_eq_true (by omega)
  clear c2
  obtain rfl := Option.some.inj H
  go_enter Try.func14, Try.ntmps14
  go_wp2
  go_ret
  exact ⟨by rfl, Z.bl HB.out⟩
 rw [if_neg c2] at H
 have c2b0 : decide (1048576 < (l0.length : Int)) = false := decide_eq_false c2
 have c2b1 : decide (1048576 < l0.length) = false := decide_eq_false (by omega)
 clear c2
 revert H; refine Z.bd ?_; rintro ⟨t1476, t1477, t1480, t1483⟩ A3 H
 try dsimp only at H
 revert H; refine Z.bd ?_; rintro t1487 A4 H
 revert H; refine Z.bd ?_; rintro t1490 A5 H
 revert H; refine Z.bd ?_; rintro t1493 A6 H
 by_cases c7 : t1493 = true
 rotate_left
 ·replace c7 := Bool.eq_false_iff.mpr c7
  subst c7
  rw [if_neg (show ¬ (false = true) by decide)] at H
  obtain rfl := Option.some.inj H
  go_enter Try.func14, Try.ntmps14
  go_wp2_with (first | ((with_reducible refine gate_callee (f := 53) rfl ?_); refine goesL_ (some 15) rfl rfl Try.func53 (by kernel_rfl) rfl #[.slice A0 l0.length c0] rfl Z.ar ?_; (with_reducible refine (spec_DrawNeverOf.calls k _ _ l0 t1476 t1477 t1480 t1483 _ ?q1 ?q2 A3.out).mono ?_); (case q1 => exact HR0.out); (case q2 => exact HC0.out); rintro e w94 ⟨v1478, v1481, v1484, rfl, ho0, ho1, ho2, hb⟩; refine ⟨_, rfl, ?_⟩; have HO1479 := Z.k (Kd.R_lower ho0 (below_size (Z.bl HB.out))); have HO1482 := Z.k (Kd.R_lower ho1 (below_size (Z.bl HB.out))); have HO1485 := Z.k (Kd.R_lower ho2 (below_size (Z.bl HB.out))); replace HB := Z.st (Z.bl HB.out) hb; (try clear hb ho0 ho1); (try clear ho2)) | ((with_reducible refine gate_dst (N := 3) rfl ?_); (try (refine gate_guard (by rfl) ?_; dsimp only)); refine Z.bx #[.int .i64 0, .slice none 0 0, .slice none 0 0] 28 HB ?_; clear HB; intro gb1486 w95 BK1486 GE1486 HB hg hb; have GW1486 := GE1486; replace HO1479 := Z.rb HO1479 hb; replace HO1482 := Z.rb HO1482 hb; replace HO1485 := Z.rb HO1485 hb; clear hb hg; have hcz96 := Z.c3 BK1486.out; obtain ⟨Ao97, co97, eo97⟩ := Kd.R_slice HO1479.out; subst eo97; obtain ⟨Ao98, co98, eo98⟩ := Kd.R_slice HO1482.out; subst eo98; obtain ⟨Ao99, co99, eo99⟩ := Kd.R_slice HO1485.out; subst eo99) | ((with_reducible refine gate_callee (f := 54) rfl ?_); refine goesL_ (some 20) rfl rfl Try.func54 (by kernel_rfl) rfl #[.agg #[.int .i64 t1476, .slice Ao97 t1477.length co97, .slice Ao98 t1480.length co98], .slice Ao99 t1483.length co99] rfl Z.ar ?_; (with_reducible refine (impl_NeverOf.calls k t1476 _ _ t1477 _ _ t1480 _ _ t1483 t1487 _ ?q1 ?q2 ?q3 ?q4 ?q5 ?q6 A4.out).mono ?_); (case q1 => refine (Kd.R_reads' (e := 3) (base := w.heap.size) (ok := fun k_ => some k_ ≠ (.slice Ao99 t1483.length co99 : Value).ownBlock) (n := t1477.length) (c := co97) ?_).2.2; exact (Kd.R_mono (Kd.R_far (p := ⟨gb1486, 2, none⟩) (Kd.R_far (p := ⟨gb1486, 1, none⟩) (Kd.R_far (p := ⟨gb1486, 0, none⟩) (Kd.R_types HO1479.out BK1486.out (by decide)) (fun _ hk => hk.2) (.int .i64 t1476)) (fun _ hk => hk.2) (.slice Ao97 t1477.length co97)) (fun _ hk => hk.2) (.slice Ao98 t1480.length co98)) (fun _ h_ => h_.1))); (case q2 => exact (Kd.R_reads' HO1479.out).2.1); (case q3 => refine (Kd.R_reads' (e := 34) (base := w.heap.size) (ok := fun k_ => True) (n := t1480.length) (c := co98) ?_).2.2; exact (Kd.R_mono (Kd.R_far (p := ⟨gb1486, 2, none⟩) (Kd.R_far (p := ⟨gb1486, 1, none⟩) (Kd.R_far (p := ⟨gb1486, 0, none⟩) (Kd.R_types HO1482.out BK1486.out (by decide)) (fun _ hk => hk.2) (.int .i64 t1476)) (fun _ hk => hk.2) (.slice Ao97 t1477.length co97)) (fun _ hk => hk.2) (.slice Ao98 t1480.length co98)) (fun _ h_ => h_.1))); (case q4 => exact (Kd.R_reads' HO1482.out).2.1); (case q5 => refine (Kd.R_reads' (e := 3) (base := w.heap.size) (ok := fun k_ => some k_ ≠ (.slice Ao97 t1477.length co97 : Value).ownBlock) (n := t1483.length) (c := co99) ?_).2.2; exact (Kd.R_mono (Kd.R_far (p := ⟨gb1486, 2, none⟩) (Kd.R_far (p := ⟨gb1486, 1, none⟩) (Kd.R_far (p := ⟨gb1486, 0, none⟩) (Kd.R_types HO1485.out BK1486.out (by decide)) (fun _ hk => hk.2) (.int .i64 t1476)) (fun _ hk => hk.2) (.slice Ao97 t1477.length co97)) (fun _ hk => hk.2) (.slice Ao98 t1480.length co98)) (fun _ h_ => h_.1))); (case q6 => exact (Kd.R_reads' HO1485.out).2.1); rintro e w100 ⟨v1488, rfl, ho0, hb⟩; refine ⟨_, rfl, ?_⟩; replace HO1482 := Z.k (Kd.R_below (Kd.R_mono (Kd.R_far (p := ⟨gb1486, 2, none⟩) (Kd.R_far (p := ⟨gb1486, 1, none⟩) (Kd.R_far (p := ⟨gb1486, 0, none⟩) (Kd.R_types HO1482.out BK1486.out (by decide)) (fun _ hk => hk.2) (.int .i64 t1476)) (fun _ hk => hk.2) (.slice Ao97 t1477.length co97)) (fun _ hk => hk.2) (.slice Ao98 t1480.length co98)) (fun _ h_ => h_.1)) hb); have HO1489 := Z.k (Kd.R_lower (Kd.R_new' (Kd.R_new' ho0 (Kd.R_lt (Kd.R_mono (Kd.R_far (p := ⟨gb1486, 2, none⟩) (Kd.R_far (p := ⟨gb1486, 1, none⟩) (Kd.R_far (p := ⟨gb1486, 0, none⟩) (Kd.R_types HO1479.out BK1486.out (by decide)) (fun _ hk => hk.2) (.int .i64 t1476)) (fun _ hk => hk.2) (.slice Ao97 t1477.length co97)) (fun _ hk => hk.2) (.slice Ao98 t1480.length co98)) (fun _ h_ => h_.1)))) (Kd.R_lt (Kd.R_mono (Kd.R_far (p := ⟨gb1486, 2, none⟩) (Kd.R_far (p := ⟨gb1486, 1, none⟩) (Kd.R_far (p := ⟨gb1486, 0, none⟩) (Kd.R_types HO1485.out BK1486.out (by decide)) (fun _ hk => hk.2) (.int .i64 t1476)) (fun _ hk => hk.2) (.slice Ao97 t1477.length co97)) (fun _ hk => hk.2) (.slice Ao98 t1480.length co98)) (fun _ h_ => h_.1)))) (below_size (Z.bs HB.out GE1486.out))); replace HO1479 := Z.k (Kd.R_elder' (Kd.R_mono (Kd.R_far (p := ⟨gb1486, 2, none⟩) (Kd.R_far (p := ⟨gb1486, 1, none⟩) (Kd.R_far (p := ⟨gb1486, 0, none⟩) (Kd.R_types HO1479.out BK1486.out (by decide)) (fun _ hk => hk.2) (.int .i64 t1476)) (fun _ hk => hk.2) (.slice Ao97 t1477.length co97)) (fun _ hk => hk.2) (.slice Ao98 t1480.length co98)) (fun _ h_ => h_.1)) (Kd.R_base ho0) hb); replace HO1485 := Z.k (Kd.R_elder' (Kd.R_mono (Kd.R_far (p := ⟨gb1486, 2, none⟩) (Kd.R_far (p := ⟨gb1486, 1, none⟩) (Kd.R_far (p := ⟨gb1486, 0, none⟩) (Kd.R_types HO1485.out BK1486.out (by decide)) (fun _ hk => hk.2) (.int .i64 t1476)) (fun _ hk => hk.2) (.slice Ao97 t1477.length co97)) (fun _ hk => hk.2) (.slice Ao98 t1480.length co98)) (fun _ h_ => h_.1)) (Kd.R_base ho0) hb); replace BK1486 := Z.k (blk_below (g := gb1486) (o := .cells #[.int .i64 t1476, .slice Ao97 t1477.length co97, .slice Ao98 t1480.length co98] 28 (0, 0)) (by refine blk_put (cs := #[.int .i64 t1476, .slice Ao97 t1477.length co97, .slice none 0 0]) ?_ 2 _ rfl; refine blk_put (cs := #[.int .i64 t1476, .slice none 0 0, .slice none 0 0]) ?_ 1 _ rfl; refine blk_put (cs := #[.int .i64 0, .slice none 0 0, .slice none 0 0]) ?_ 0 _ rfl; exact BK1486.out) hb); replace HB := Z.st (Z.bs HB.out GE1486.out) hb; (try clear hb); (try clear ho0); have hcz101 := Z.c3 BK1486.out) | ((with_reducible refine gate_callee (f := 55) rfl ?_); refine goesL_ (some 24) rfl rfl Try.func55 (by kernel_rfl) rfl #[.agg #[.int .i64 t1476, .slice Ao97 t1477.length co97, .slice Ao98 t1480.length co98], .slice Ao99 t1483.length co99] rfl Z.ar ?_; (with_reducible refine (spec_NeverOf.calls k t1476 _ _ t1477 _ _ t1480 _ _ t1483 t1490 _ ?q1 ?q2 ?q3 ?q4 ?q5 ?q6 A5.out).mono ?_); (case q1 => exact (Kd.R_reads' HO1479.out).2.2); (case q2 => exact (Kd.R_reads' HO1479.out).2.1); (case q3 => exact (Kd.R_reads' HO1482.out).2.2); (case q4 => exact (Kd.R_reads' HO1482.out).2.1); (case q5 => exact (Kd.R_reads' HO1485.out).2.2); (case q6 => exact (Kd.R_reads' HO1485.out).2.1); rintro e w102 ⟨v1491, rfl, ho0, hb⟩; refine ⟨_, rfl, ?_⟩; replace HO1482 := Z.rb HO1482 hb; have HO1492 := Z.k (Kd.R_lower (Kd.R_new' (Kd.R_new' (Kd.R_new' ho0 (Kd.R_lt HO1479.out)) (Kd.R_lt HO1485.out)) (Kd.R_lt HO1489.out)) (below_size (Z.bs HB.out GE1486.out))); replace HO1479 := Z.k (Kd.R_elder' HO1479.out (Kd.R_base ho0) hb); replace HO1485 := Z.k (Kd.R_elder' HO1485.out (Kd.R_base ho0) hb); replace HO1489 := Z.k (Kd.R_elder' HO1489.out (Kd.R_base ho0) hb); replace BK1486 := Z.bb BK1486 hb; replace HB := Z.st (Z.bs HB.out GE1486.out) hb; (try clear hb); (try clear ho0); obtain ⟨Ao103, co103, eo103⟩ := Kd.R_slice HO1489.out; subst eo103; obtain ⟨Ao104, co104, eo104⟩ := Kd.R_slice HO1492.out; subst eo104) | ((with_reducible refine gate_callee (f := 34) rfl ?_); refine goesL_ (some 25) rfl rfl Try.func34 (by kernel_rfl) rfl #[.slice Ao103 t1487.length co103, .slice Ao104 t1490.length co104] rfl Z.ar ?_; (with_reducible refine (laws_sameInts.calls k _ _ t1487 _ _ t1490 false _ ?q1 ?q2 ?q3 ?q4 A6.out).mono ?_); (case q1 => exact (Kd.R_reads' HO1489.out).2.2); (case q2 => exact (Kd.R_reads' HO1489.out).2.1); (case q3 => exact (Kd.R_reads' HO1492.out).2.2); (case q4 => exact (Kd.R_reads' HO1492.out).2.1); rintro e w' ⟨rfl, ⟨nd, rfl⟩⟩; refine ⟨_, rfl, ?_⟩))
  go_ret
  exact ⟨by rfl, Z.bs HB.out GE1486.out⟩

 subst c7
 rw [if_pos rfl] at H
 revert H; refine Z.bd ?_; rintro t1494 A8 H
 by_cases c9 : t1494 = true
 rotate_left
 ·replace c9 := Bool.eq_false_iff.mpr c9
  subst c9
  rw [if_neg (show ¬ (false = true) by decide)] at H
  by_cases c66 : (t1487.length : Int) = 0
  ·rw [if_pos c66] at H
   have c66b0 : ((t1487.length : Int) == 0) = true := beq_iff_eq.mpr c66
   have c66b1 : ((t1487.length : Int) != 0) = false := bne_eq_false_iff_eq.mpr c66
   clear c66
   revert H; refine Z.bd ?_; rintro t1495 A67 H
   obtain rfl := Option.some.inj H
   go_enter Try.func14, Try.ntmps14
   go_wp2_with (first | ((with_reducible refine gate_callee (f := 53) rfl ?_); refine goesL_ (some 15) rfl rfl Try.func53 (by kernel_rfl) rfl #[.slice A0 l0.length c0] rfl Z.ar ?_; (with_reducible refine (spec_DrawNeverOf.calls k _ _ l0 t1476 t1477 t1480 t1483 _ ?q1 ?q2 A3.out).mono ?_); (case q1 => exact HR0.out); (case q2 => exact HC0.out); rintro e w68 ⟨v1478, v1481, v1484, rfl, ho0, ho1, ho2, hb⟩; refine ⟨_, rfl, ?_⟩; have HO1479 := Z.k (Kd.R_lower ho0 (below_size (Z.bl HB.out))); have HO1482 := Z.k (Kd.R_lower ho1 (below_size (Z.bl HB.out))); have HO1485 := Z.k (Kd.R_lower ho2 (below_size (Z.bl HB.out))); replace HB := Z.st (Z.bl HB.out) hb; (try clear hb ho0 ho1); (try clear ho2)) | ((with_reducible refine gate_dst (N := 3) rfl ?_); (try (refine gate_guard (by rfl) ?_; dsimp only)); refine Z.bx #[.int .i64 0, .slice none 0 0, .slice none 0 0] 28 HB ?_; clear HB; intro gb1486 w69 BK1486 GE1486 HB hg hb; have GW1486 := GE1486; replace HO1479 := Z.rb HO1479 hb; replace HO1482 := Z.rb HO1482 hb; replace HO1485 := Z.rb HO1485 hb; clear hb hg; have hcz70 := Z.c3 BK1486.out; obtain ⟨Ao71, co71, eo71⟩ := Kd.R_slice HO1479.out; subst eo71; obtain ⟨Ao72, co72, eo72⟩ := Kd.R_slice HO1482.out; subst eo72; obtain ⟨Ao73, co73, eo73⟩ := Kd.R_slice HO1485.out; subst eo73) | ((with_reducible refine gate_callee (f := 54) rfl ?_); refine goesL_ (some 20) rfl rfl Try.func54 (by kernel_rfl) rfl #[.agg #[.int .i64 t1476, .slice Ao71 t1477.length co71, .slice Ao72 t1480.length co72], .slice Ao73 t1483.length co73] rfl Z.ar ?_; (with_reducible refine (impl_NeverOf.calls k t1476 _ _ t1477 _ _ t1480 _ _ t1483 t1487 _ ?q1 ?q2 ?q3 ?q4 ?q5 ?q6 A4.out).mono ?_); (case q1 => refine (Kd.R_reads' (e := 3) (base := w.heap.size) (ok := fun k_ => some k_ ≠ (.slice Ao73 t1483.length co73 : Value).ownBlock) (n := t1477.length) (c := co71) ?_).2.2; exact (Kd.R_mono (Kd.R_far (p := ⟨gb1486, 2, none⟩) (Kd.R_far (p := ⟨gb1486, 1, none⟩) (Kd.R_far (p := ⟨gb1486, 0, none⟩) (Kd.R_types HO1479.out BK1486.out (by decide)) (fun _ hk => hk.2) (.int .i64 t1476)) (fun _ hk => hk.2) (.slice Ao71 t1477.length co71)) (fun _ hk => hk.2) (.slice Ao72 t1480.length co72)) (fun _ h_ => h_.1))); (case q2 => exact (Kd.R_reads' HO1479.out).2.1); (case q3 => refine (Kd.R_reads' (e := 34) (base := w.heap.size) (ok := fun k_ => True) (n := t1480.length) (c := co72) ?_).2.2; exact (Kd.R_mono (Kd.R_far (p := ⟨gb1486, 2, none⟩) (Kd.R_far (p := ⟨gb1486, 1, none⟩) (Kd.R_far (p := ⟨gb1486, 0, none⟩) (Kd.R_types HO1482.out BK1486.out (by decide)) (fun _ hk => hk.2) (.int .i64 t1476)) (fun _ hk => hk.2) (.slice Ao71 t1477.length co71)) (fun _ hk => hk.2) (.slice Ao72 t1480.length co72)) (fun _ h_ => h_.1))); (case q4 => exact (Kd.R_reads' HO1482.out).2.1); (case q5 => refine (Kd.R_reads' (e := 3) (base := w.heap.size) (ok := fun k_ => some k_ ≠ (.slice Ao71 t1477.length co71 : Value).ownBlock) (n := t1483.length) (c := co73) ?_).2.2; exact (Kd.R_mono (Kd.R_far (p := ⟨gb1486, 2, none⟩) (Kd.R_far (p := ⟨gb1486, 1, none⟩) (Kd.R_far (p := ⟨gb1486, 0, none⟩) (Kd.R_types HO1485.out BK1486.out (by decide)) (fun _ hk => hk.2) (.int .i64 t1476)) (fun _ hk => hk.2) (.slice Ao71 t1477.length co71)) (fun _ hk => hk.2) (.slice Ao72 t1480.length co72)) (fun _ h_ => h_.1))); (case q6 => exact (Kd.R_reads' HO1485.out).2.1); rintro e w74 ⟨v1488, rfl, ho0, hb⟩; refine ⟨_, rfl, ?_⟩; replace HO1482 := Z.k (Kd.R_below (Kd.R_mono (Kd.R_far (p := ⟨gb1486, 2, none⟩) (Kd.R_far (p := ⟨gb1486, 1, none⟩) (Kd.R_far (p := ⟨gb1486, 0, none⟩) (Kd.R_types HO1482.out BK1486.out (by decide)) (fun _ hk => hk.2) (.int .i64 t1476)) (fun _ hk => hk.2) (.slice Ao71 t1477.length co71)) (fun _ hk => hk.2) (.slice Ao72 t1480.length co72)) (fun _ h_ => h_.1)) hb); have HO1489 := Z.k (Kd.R_lower (Kd.R_new' (Kd.R_new' ho0 (Kd.R_lt (Kd.R_mono (Kd.R_far (p := ⟨gb1486, 2, none⟩) (Kd.R_far (p := ⟨gb1486, 1, none⟩) (Kd.R_far (p := ⟨gb1486, 0, none⟩) (Kd.R_types HO1479.out BK1486.out (by decide)) (fun _ hk => hk.2) (.int .i64 t1476)) (fun _ hk => hk.2) (.slice Ao71 t1477.length co71)) (fun _ hk => hk.2) (.slice Ao72 t1480.length co72)) (fun _ h_ => h_.1)))) (Kd.R_lt (Kd.R_mono (Kd.R_far (p := ⟨gb1486, 2, none⟩) (Kd.R_far (p := ⟨gb1486, 1, none⟩) (Kd.R_far (p := ⟨gb1486, 0, none⟩) (Kd.R_types HO1485.out BK1486.out (by decide)) (fun _ hk => hk.2) (.int .i64 t1476)) (fun _ hk => hk.2) (.slice Ao71 t1477.length co71)) (fun _ hk => hk.2) (.slice Ao72 t1480.length co72)) (fun _ h_ => h_.1)))) (below_size (Z.bs HB.out GE1486.out))); replace HO1479 := Z.k (Kd.R_elder' (Kd.R_mono (Kd.R_far (p := ⟨gb1486, 2, none⟩) (Kd.R_far (p := ⟨gb1486, 1, none⟩) (Kd.R_far (p := ⟨gb1486, 0, none⟩) (Kd.R_types HO1479.out BK1486.out (by decide)) (fun _ hk => hk.2) (.int .i64 t1476)) (fun _ hk => hk.2) (.slice Ao71 t1477.length co71)) (fun _ hk => hk.2) (.slice Ao72 t1480.length co72)) (fun _ h_ => h_.1)) (Kd.R_base ho0) hb); replace HO1485 := Z.k (Kd.R_elder' (Kd.R_mono (Kd.R_far (p := ⟨gb1486, 2, none⟩) (Kd.R_far (p := ⟨gb1486, 1, none⟩) (Kd.R_far (p := ⟨gb1486, 0, none⟩) (Kd.R_types HO1485.out BK1486.out (by decide)) (fun _ hk => hk.2) (.int .i64 t1476)) (fun _ hk => hk.2) (.slice Ao71 t1477.length co71)) (fun _ hk => hk.2) (.slice Ao72 t1480.length co72)) (fun _ h_ => h_.1)) (Kd.R_base ho0) hb); replace BK1486 := Z.k (blk_below (g := gb1486) (o := .cells #[.int .i64 t1476, .slice Ao71 t1477.length co71, .slice Ao72 t1480.length co72] 28 (0, 0)) (by refine blk_put (cs := #[.int .i64 t1476, .slice Ao71 t1477.length co71, .slice none 0 0]) ?_ 2 _ rfl; refine blk_put (cs := #[.int .i64 t1476, .slice none 0 0, .slice none 0 0]) ?_ 1 _ rfl; refine blk_put (cs := #[.int .i64 0, .slice none 0 0, .slice none 0 0]) ?_ 0 _ rfl; exact BK1486.out) hb); replace HB := Z.st (Z.bs HB.out GE1486.out) hb; (try clear hb); (try clear ho0); have hcz75 := Z.c3 BK1486.out) | ((with_reducible refine gate_callee (f := 55) rfl ?_); refine goesL_ (some 24) rfl rfl Try.func55 (by kernel_rfl) rfl #[.agg #[.int .i64 t1476, .slice Ao71 t1477.length co71, .slice Ao72 t1480.length co72], .slice Ao73 t1483.length co73] rfl Z.ar ?_; (with_reducible refine (spec_NeverOf.calls k t1476 _ _ t1477 _ _ t1480 _ _ t1483 t1490 _ ?q1 ?q2 ?q3 ?q4 ?q5 ?q6 A5.out).mono ?_); (case q1 => exact (Kd.R_reads' HO1479.out).2.2); (case q2 => exact (Kd.R_reads' HO1479.out).2.1); (case q3 => exact (Kd.R_reads' HO1482.out).2.2); (case q4 => exact (Kd.R_reads' HO1482.out).2.1); (case q5 => exact (Kd.R_reads' HO1485.out).2.2); (case q6 => exact (Kd.R_reads' HO1485.out).2.1); rintro e w76 ⟨v1491, rfl, ho0, hb⟩; refine ⟨_, rfl, ?_⟩; replace HO1482 := Z.rb HO1482 hb; have HO1492 := Z.k (Kd.R_lower (Kd.R_new' (Kd.R_new' (Kd.R_new' ho0 (Kd.R_lt HO1479.out)) (Kd.R_lt HO1485.out)) (Kd.R_lt HO1489.out)) (below_size (Z.bs HB.out GE1486.out))); replace HO1479 := Z.k (Kd.R_elder' HO1479.out (Kd.R_base ho0) hb); replace HO1485 := Z.k (Kd.R_elder' HO1485.out (Kd.R_base ho0) hb); replace HO1489 := Z.k (Kd.R_elder' HO1489.out (Kd.R_base ho0) hb); replace BK1486 := Z.bb BK1486 hb; replace HB := Z.st (Z.bs HB.out GE1486.out) hb; (try clear hb); (try clear ho0); obtain ⟨Ao77, co77, eo77⟩ := Kd.R_slice HO1489.out; subst eo77; obtain ⟨Ao78, co78, eo78⟩ := Kd.R_slice HO1492.out; subst eo78) | ((with_reducible refine gate_callee (f := 34) rfl ?_); refine goesL_ (some 25) rfl rfl Try.func34 (by kernel_rfl) rfl #[.slice Ao77 t1487.length co77, .slice Ao78 t1490.length co78] rfl Z.ar ?_; (with_reducible refine (laws_sameInts.calls k _ _ t1487 _ _ t1490 true _ ?q1 ?q2 ?q3 ?q4 A6.out).mono ?_); (case q1 => exact (Kd.R_reads' HO1489.out).2.2); (case q2 => exact (Kd.R_reads' HO1489.out).2.1); (case q3 => exact (Kd.R_reads' HO1492.out).2.2); (case q4 => exact (Kd.R_reads' HO1492.out).2.1); rintro e w' ⟨rfl, ⟨nd, rfl⟩⟩; refine ⟨_, rfl, ?_⟩; have hcz79 := Z.c3 BK1486.out) | ((with_reducible refine gate_callee (f := 16) rfl ?_); refine goesL_ (some 29) rfl rfl Try.func16 (by kernel_rfl) rfl #[.agg #[.int .i64 t1476, .slice Ao71 t1477.length co71, .slice Ao72 t1480.length co72], .slice Ao73 t1483.length co73] rfl Z.ar ?_; (with_reducible refine (spec_StateOk.calls k t1476 _ _ t1477 _ _ t1480 _ _ t1483 false _ ?q1 ?q2 ?q3 ?q4 ?q5 ?q6 A8.out).mono ?_); (case q1 => exact (Kd.R_reads' HO1479.out).2.2); (case q2 => exact (Kd.R_reads' HO1479.out).2.1); (case q3 => exact (Kd.R_reads' HO1482.out).2.2); (case q4 => exact (Kd.R_reads' HO1482.out).2.1); (case q5 => exact (Kd.R_reads' HO1485.out).2.2); (case q6 => exact (Kd.R_reads' HO1485.out).2.1); rintro e w80 ⟨rfl, hb⟩; refine ⟨_, rfl, ?_⟩; replace HO1479 := Z.rb HO1479 hb; replace HO1482 := Z.rb HO1482 hb; replace HO1485 := Z.rb HO1485 hb; replace HO1489 := Z.rb HO1489 hb; replace HO1492 := Z.rb HO1492 hb; replace BK1486 := Z.bb BK1486 hb; replace HB := Z.st (Z.bs HB.out GE1486.out) hb; (try clear hb)) | (go_at_call 18; (with_reducible refine (laws_alive.calls  t1495 _ A67.out).mono ?_); rintro e w' ⟨rfl, ⟨nd, rfl⟩⟩))
   go_ret
   exact ⟨by rfl, Z.bs HB.out GE1486.out⟩
  rw [if_neg c66] at H
  have c66b0 : ((t1487.length : Int) == 0) = false := beq_eq_false_iff_ne.mpr c66
  have c66b1 : ((t1487.length : Int) != 0) = true := bne_iff_ne.mpr c66
  have c66b2 : ¬ (t1487 = []) := fun h_ => c66 (by rw [h_]; rfl)
  obtain rfl := Option.some.inj H
  go_enter Try.func14, Try.ntmps14
  go_wp2_with (first | ((with_reducible refine gate_callee (f := 53) rfl ?_); refine goesL_ (some 15) rfl rfl Try.func53 (by kernel_rfl) rfl #[.slice A0 l0.length c0] rfl Z.ar ?_; (with_reducible refine (spec_DrawNeverOf.calls k _ _ l0 t1476 t1477 t1480 t1483 _ ?q1 ?q2 A3.out).mono ?_); (case q1 => exact HR0.out); (case q2 => exact HC0.out); rintro e w81 ⟨v1478, v1481, v1484, rfl, ho0, ho1, ho2, hb⟩; refine ⟨_, rfl, ?_⟩; have HO1479 := Z.k (Kd.R_lower ho0 (below_size (Z.bl HB.out))); have HO1482 := Z.k (Kd.R_lower ho1 (below_size (Z.bl HB.out))); have HO1485 := Z.k (Kd.R_lower ho2 (below_size (Z.bl HB.out))); replace HB := Z.st (Z.bl HB.out) hb; (try clear hb ho0 ho1); (try clear ho2)) | ((with_reducible refine gate_dst (N := 3) rfl ?_); (try (refine gate_guard (by rfl) ?_; dsimp only)); refine Z.bx #[.int .i64 0, .slice none 0 0, .slice none 0 0] 28 HB ?_; clear HB; intro gb1486 w82 BK1486 GE1486 HB hg hb; have GW1486 := GE1486; replace HO1479 := Z.rb HO1479 hb; replace HO1482 := Z.rb HO1482 hb; replace HO1485 := Z.rb HO1485 hb; clear hb hg; have hcz83 := Z.c3 BK1486.out; obtain ⟨Ao84, co84, eo84⟩ := Kd.R_slice HO1479.out; subst eo84; obtain ⟨Ao85, co85, eo85⟩ := Kd.R_slice HO1482.out; subst eo85; obtain ⟨Ao86, co86, eo86⟩ := Kd.R_slice HO1485.out; subst eo86) | ((with_reducible refine gate_callee (f := 54) rfl ?_); refine goesL_ (some 20) rfl rfl Try.func54 (by kernel_rfl) rfl #[.agg #[.int .i64 t1476, .slice Ao84 t1477.length co84, .slice Ao85 t1480.length co85], .slice Ao86 t1483.length co86] rfl Z.ar ?_; (with_reducible refine (impl_NeverOf.calls k t1476 _ _ t1477 _ _ t1480 _ _ t1483 t1487 _ ?q1 ?q2 ?q3 ?q4 ?q5 ?q6 A4.out).mono ?_); (case q1 => refine (Kd.R_reads' (e := 3) (base := w.heap.size) (ok := fun k_ => some k_ ≠ (.slice Ao86 t1483.length co86 : Value).ownBlock) (n := t1477.length) (c := co84) ?_).2.2; exact (Kd.R_mono (Kd.R_far (p := ⟨gb1486, 2, none⟩) (Kd.R_far (p := ⟨gb1486, 1, none⟩) (Kd.R_far (p := ⟨gb1486, 0, none⟩) (Kd.R_types HO1479.out BK1486.out (by decide)) (fun _ hk => hk.2) (.int .i64 t1476)) (fun _ hk => hk.2) (.slice Ao84 t1477.length co84)) (fun _ hk => hk.2) (.slice Ao85 t1480.length co85)) (fun _ h_ => h_.1))); (case q2 => exact (Kd.R_reads' HO1479.out).2.1); (case q3 => refine (Kd.R_reads' (e := 34) (base := w.heap.size) (ok := fun k_ => True) (n := t1480.length) (c := co85) ?_).2.2; exact (Kd.R_mono (Kd.R_far (p := ⟨gb1486, 2, none⟩) (Kd.R_far (p := ⟨gb1486, 1, none⟩) (Kd.R_far (p := ⟨gb1486, 0, none⟩) (Kd.R_types HO1482.out BK1486.out (by decide)) (fun _ hk => hk.2) (.int .i64 t1476)) (fun _ hk => hk.2) (.slice Ao84 t1477.length co84)) (fun _ hk => hk.2) (.slice Ao85 t1480.length co85)) (fun _ h_ => h_.1))); (case q4 => exact (Kd.R_reads' HO1482.out).2.1); (case q5 => refine (Kd.R_reads' (e := 3) (base := w.heap.size) (ok := fun k_ => some k_ ≠ (.slice Ao84 t1477.length co84 : Value).ownBlock) (n := t1483.length) (c := co86) ?_).2.2; exact (Kd.R_mono (Kd.R_far (p := ⟨gb1486, 2, none⟩) (Kd.R_far (p := ⟨gb1486, 1, none⟩) (Kd.R_far (p := ⟨gb1486, 0, none⟩) (Kd.R_types HO1485.out BK1486.out (by decide)) (fun _ hk => hk.2) (.int .i64 t1476)) (fun _ hk => hk.2) (.slice Ao84 t1477.length co84)) (fun _ hk => hk.2) (.slice Ao85 t1480.length co85)) (fun _ h_ => h_.1))); (case q6 => exact (Kd.R_reads' HO1485.out).2.1); rintro e w87 ⟨v1488, rfl, ho0, hb⟩; refine ⟨_, rfl, ?_⟩; replace HO1482 := Z.k (Kd.R_below (Kd.R_mono (Kd.R_far (p := ⟨gb1486, 2, none⟩) (Kd.R_far (p := ⟨gb1486, 1, none⟩) (Kd.R_far (p := ⟨gb1486, 0, none⟩) (Kd.R_types HO1482.out BK1486.out (by decide)) (fun _ hk => hk.2) (.int .i64 t1476)) (fun _ hk => hk.2) (.slice Ao84 t1477.length co84)) (fun _ hk => hk.2) (.slice Ao85 t1480.length co85)) (fun _ h_ => h_.1)) hb); have HO1489 := Z.k (Kd.R_lower (Kd.R_new' (Kd.R_new' ho0 (Kd.R_lt (Kd.R_mono (Kd.R_far (p := ⟨gb1486, 2, none⟩) (Kd.R_far (p := ⟨gb1486, 1, none⟩) (Kd.R_far (p := ⟨gb1486, 0, none⟩) (Kd.R_types HO1479.out BK1486.out (by decide)) (fun _ hk => hk.2) (.int .i64 t1476)) (fun _ hk => hk.2) (.slice Ao84 t1477.length co84)) (fun _ hk => hk.2) (.slice Ao85 t1480.length co85)) (fun _ h_ => h_.1)))) (Kd.R_lt (Kd.R_mono (Kd.R_far (p := ⟨gb1486, 2, none⟩) (Kd.R_far (p := ⟨gb1486, 1, none⟩) (Kd.R_far (p := ⟨gb1486, 0, none⟩) (Kd.R_types HO1485.out BK1486.out (by decide)) (fun _ hk => hk.2) (.int .i64 t1476)) (fun _ hk => hk.2) (.slice Ao84 t1477.length co84)) (fun _ hk => hk.2) (.slice Ao85 t1480.length co85)) (fun _ h_ => h_.1)))) (below_size (Z.bs HB.out GE1486.out))); replace HO1479 := Z.k (Kd.R_elder' (Kd.R_mono (Kd.R_far (p := ⟨gb1486, 2, none⟩) (Kd.R_far (p := ⟨gb1486, 1, none⟩) (Kd.R_far (p := ⟨gb1486, 0, none⟩) (Kd.R_types HO1479.out BK1486.out (by decide)) (fun _ hk => hk.2) (.int .i64 t1476)) (fun _ hk => hk.2) (.slice Ao84 t1477.length co84)) (fun _ hk => hk.2) (.slice Ao85 t1480.length co85)) (fun _ h_ => h_.1)) (Kd.R_base ho0) hb); replace HO1485 := Z.k (Kd.R_elder' (Kd.R_mono (Kd.R_far (p := ⟨gb1486, 2, none⟩) (Kd.R_far (p := ⟨gb1486, 1, none⟩) (Kd.R_far (p := ⟨gb1486, 0, none⟩) (Kd.R_types HO1485.out BK1486.out (by decide)) (fun _ hk => hk.2) (.int .i64 t1476)) (fun _ hk => hk.2) (.slice Ao84 t1477.length co84)) (fun _ hk => hk.2) (.slice Ao85 t1480.length co85)) (fun _ h_ => h_.1)) (Kd.R_base ho0) hb); replace BK1486 := Z.k (blk_below (g := gb1486) (o := .cells #[.int .i64 t1476, .slice Ao84 t1477.length co84, .slice Ao85 t1480.length co85] 28 (0, 0)) (by refine blk_put (cs := #[.int .i64 t1476, .slice Ao84 t1477.length co84, .slice none 0 0]) ?_ 2 _ rfl; refine blk_put (cs := #[.int .i64 t1476, .slice none 0 0, .slice none 0 0]) ?_ 1 _ rfl; refine blk_put (cs := #[.int .i64 0, .slice none 0 0, .slice none 0 0]) ?_ 0 _ rfl; exact BK1486.out) hb); replace HB := Z.st (Z.bs HB.out GE1486.out) hb; (try clear hb); (try clear ho0); have hcz88 := Z.c3 BK1486.out) | ((with_reducible refine gate_callee (f := 55) rfl ?_); refine goesL_ (some 24) rfl rfl Try.func55 (by kernel_rfl) rfl #[.agg #[.int .i64 t1476, .slice Ao84 t1477.length co84, .slice Ao85 t1480.length co85], .slice Ao86 t1483.length co86] rfl Z.ar ?_; (with_reducible refine (spec_NeverOf.calls k t1476 _ _ t1477 _ _ t1480 _ _ t1483 t1490 _ ?q1 ?q2 ?q3 ?q4 ?q5 ?q6 A5.out).mono ?_); (case q1 => exact (Kd.R_reads' HO1479.out).2.2); (case q2 => exact (Kd.R_reads' HO1479.out).2.1); (case q3 => exact (Kd.R_reads' HO1482.out).2.2); (case q4 => exact (Kd.R_reads' HO1482.out).2.1); (case q5 => exact (Kd.R_reads' HO1485.out).2.2); (case q6 => exact (Kd.R_reads' HO1485.out).2.1); rintro e w89 ⟨v1491, rfl, ho0, hb⟩; refine ⟨_, rfl, ?_⟩; replace HO1482 := Z.rb HO1482 hb; have HO1492 := Z.k (Kd.R_lower (Kd.R_new' (Kd.R_new' (Kd.R_new' ho0 (Kd.R_lt HO1479.out)) (Kd.R_lt HO1485.out)) (Kd.R_lt HO1489.out)) (below_size (Z.bs HB.out GE1486.out))); replace HO1479 := Z.k (Kd.R_elder' HO1479.out (Kd.R_base ho0) hb); replace HO1485 := Z.k (Kd.R_elder' HO1485.out (Kd.R_base ho0) hb); replace HO1489 := Z.k (Kd.R_elder' HO1489.out (Kd.R_base ho0) hb); replace BK1486 := Z.bb BK1486 hb; replace HB := Z.st (Z.bs HB.out GE1486.out) hb; (try clear hb); (try clear ho0); obtain ⟨Ao90, co90, eo90⟩ := Kd.R_slice HO1489.out; subst eo90; obtain ⟨Ao91, co91, eo91⟩ := Kd.R_slice HO1492.out; subst eo91) | ((with_reducible refine gate_callee (f := 34) rfl ?_); refine goesL_ (some 25) rfl rfl Try.func34 (by kernel_rfl) rfl #[.slice Ao90 t1487.length co90, .slice Ao91 t1490.length co91] rfl Z.ar ?_; (with_reducible refine (laws_sameInts.calls k _ _ t1487 _ _ t1490 true _ ?q1 ?q2 ?q3 ?q4 A6.out).mono ?_); (case q1 => exact (Kd.R_reads' HO1489.out).2.2); (case q2 => exact (Kd.R_reads' HO1489.out).2.1); (case q3 => exact (Kd.R_reads' HO1492.out).2.2); (case q4 => exact (Kd.R_reads' HO1492.out).2.1); rintro e w' ⟨rfl, ⟨nd, rfl⟩⟩; refine ⟨_, rfl, ?_⟩; have hcz92 := Z.c3 BK1486.out) | ((with_reducible refine gate_callee (f := 16) rfl ?_); refine goesL_ (some 29) rfl rfl Try.func16 (by kernel_rfl) rfl #[.agg #[.int .i64 t1476, .slice Ao84 t1477.length co84, .slice Ao85 t1480.length co85], .slice Ao86 t1483.length co86] rfl Z.ar ?_; (with_reducible refine (spec_StateOk.calls k t1476 _ _ t1477 _ _ t1480 _ _ t1483 false _ ?q1 ?q2 ?q3 ?q4 ?q5 ?q6 A8.out).mono ?_); (case q1 => exact (Kd.R_reads' HO1479.out).2.2); (case q2 => exact (Kd.R_reads' HO1479.out).2.1); (case q3 => exact (Kd.R_reads' HO1482.out).2.2); (case q4 => exact (Kd.R_reads' HO1482.out).2.1); (case q5 => exact (Kd.R_reads' HO1485.out).2.2); (case q6 => exact (Kd.R_reads' HO1485.out).2.1); rintro e w93 ⟨rfl, hb⟩; refine ⟨_, rfl, ?_⟩; replace HO1479 := Z.rb HO1479 hb; replace HO1482 := Z.rb HO1482 hb; replace HO1485 := Z.rb HO1485 hb; replace HO1489 := Z.rb HO1489 hb; replace HO1492 := Z.rb HO1492 hb; replace BK1486 := Z.bb BK1486 hb; replace HB := Z.st (Z.bs HB.out GE1486.out) hb; (try clear hb)))
  go_ret
  exact ⟨by rfl, Z.bs HB.out GE1486.out⟩
 subst c9
 rw [if_pos rfl] at H
 have H' := Z.k H
 clear H
 go_enter Try.func14, Try.ntmps14
 go_wp2_with (first | ((with_reducible refine gate_callee (f := 53) rfl ?_); refine goesL_ (some 15) rfl rfl Try.func53 (by kernel_rfl) rfl #[.slice A0 l0.length c0] rfl Z.ar ?_; (with_reducible refine (spec_DrawNeverOf.calls k _ _ l0 t1476 t1477 t1480 t1483 _ ?q1 ?q2 A3.out).mono ?_); (case q1 => exact HR0.out); (case q2 => exact HC0.out); rintro e w10 ⟨v1478, v1481, v1484, rfl, ho0, ho1, ho2, hb⟩; refine ⟨_, rfl, ?_⟩; have HO1479 := Z.k (Kd.R_lower ho0 (below_size (Z.bl HB.out))); have HO1482 := Z.k (Kd.R_lower ho1 (below_size (Z.bl HB.out))); have HO1485 := Z.k (Kd.R_lower ho2 (below_size (Z.bl HB.out))); replace HB := Z.st (Z.bl HB.out) hb; (try clear hb ho0 ho1); (try clear ho2)) | ((with_reducible refine gate_dst (N := 3) rfl ?_); (try (refine gate_guard (by rfl) ?_; dsimp only)); refine Z.bx #[.int .i64 0, .slice none 0 0, .slice none 0 0] 28 HB ?_; clear HB; intro gb1486 w11 BK1486 GE1486 HB hg hb; have GW1486 := GE1486; replace HO1479 := Z.rb HO1479 hb; replace HO1482 := Z.rb HO1482 hb; replace HO1485 := Z.rb HO1485 hb; clear hb hg; have hcz12 := Z.c3 BK1486.out; obtain ⟨Ao13, co13, eo13⟩ := Kd.R_slice HO1479.out; subst eo13; obtain ⟨Ao14, co14, eo14⟩ := Kd.R_slice HO1482.out; subst eo14; obtain ⟨Ao15, co15, eo15⟩ := Kd.R_slice HO1485.out; subst eo15) | ((with_reducible refine gate_callee (f := 54) rfl ?_); refine goesL_ (some 20) rfl rfl Try.func54 (by kernel_rfl) rfl #[.agg #[.int .i64 t1476, .slice Ao13 t1477.length co13, .slice Ao14 t1480.length co14], .slice Ao15 t1483.length co15] rfl Z.ar ?_; (with_reducible refine (impl_NeverOf.calls k t1476 _ _ t1477 _ _ t1480 _ _ t1483 t1487 _ ?q1 ?q2 ?q3 ?q4 ?q5 ?q6 A4.out).mono ?_); (case q1 => refine (Kd.R_reads' (e := 3) (base := w.heap.size) (ok := fun k_ => some k_ ≠ (.slice Ao15 t1483.length co15 : Value).ownBlock) (n := t1477.length) (c := co13) ?_).2.2; exact (Kd.R_mono (Kd.R_far (p := ⟨gb1486, 2, none⟩) (Kd.R_far (p := ⟨gb1486, 1, none⟩) (Kd.R_far (p := ⟨gb1486, 0, none⟩) (Kd.R_types HO1479.out BK1486.out (by decide)) (fun _ hk => hk.2) (.int .i64 t1476)) (fun _ hk => hk.2) (.slice Ao13 t1477.length co13)) (fun _ hk => hk.2) (.slice Ao14 t1480.length co14)) (fun _ h_ => h_.1))); (case q2 => exact (Kd.R_reads' HO1479.out).2.1); (case q3 => refine (Kd.R_reads' (e := 34) (base := w.heap.size) (ok := fun k_ => True) (n := t1480.length) (c := co14) ?_).2.2; exact (Kd.R_mono (Kd.R_far (p := ⟨gb1486, 2, none⟩) (Kd.R_far (p := ⟨gb1486, 1, none⟩) (Kd.R_far (p := ⟨gb1486, 0, none⟩) (Kd.R_types HO1482.out BK1486.out (by decide)) (fun _ hk => hk.2) (.int .i64 t1476)) (fun _ hk => hk.2) (.slice Ao13 t1477.length co13)) (fun _ hk => hk.2) (.slice Ao14 t1480.length co14)) (fun _ h_ => h_.1))); (case q4 => exact (Kd.R_reads' HO1482.out).2.1); (case q5 => refine (Kd.R_reads' (e := 3) (base := w.heap.size) (ok := fun k_ => some k_ ≠ (.slice Ao13 t1477.length co13 : Value).ownBlock) (n := t1483.length) (c := co15) ?_).2.2; exact (Kd.R_mono (Kd.R_far (p := ⟨gb1486, 2, none⟩) (Kd.R_far (p := ⟨gb1486, 1, none⟩) (Kd.R_far (p := ⟨gb1486, 0, none⟩) (Kd.R_types HO1485.out BK1486.out (by decide)) (fun _ hk => hk.2) (.int .i64 t1476)) (fun _ hk => hk.2) (.slice Ao13 t1477.length co13)) (fun _ hk => hk.2) (.slice Ao14 t1480.length co14)) (fun _ h_ => h_.1))); (case q6 => exact (Kd.R_reads' HO1485.out).2.1); rintro e w16 ⟨v1488, rfl, ho0, hb⟩; refine ⟨_, rfl, ?_⟩; replace HO1482 := Z.k (Kd.R_below (Kd.R_mono (Kd.R_far (p := ⟨gb1486, 2, none⟩) (Kd.R_far (p := ⟨gb1486, 1, none⟩) (Kd.R_far (p := ⟨gb1486, 0, none⟩) (Kd.R_types HO1482.out BK1486.out (by decide)) (fun _ hk => hk.2) (.int .i64 t1476)) (fun _ hk => hk.2) (.slice Ao13 t1477.length co13)) (fun _ hk => hk.2) (.slice Ao14 t1480.length co14)) (fun _ h_ => h_.1)) hb); have HO1489 := Z.k (Kd.R_lower (Kd.R_new' (Kd.R_new' ho0 (Kd.R_lt (Kd.R_mono (Kd.R_far (p := ⟨gb1486, 2, none⟩) (Kd.R_far (p := ⟨gb1486, 1, none⟩) (Kd.R_far (p := ⟨gb1486, 0, none⟩) (Kd.R_types HO1479.out BK1486.out (by decide)) (fun _ hk => hk.2) (.int .i64 t1476)) (fun _ hk => hk.2) (.slice Ao13 t1477.length co13)) (fun _ hk => hk.2) (.slice Ao14 t1480.length co14)) (fun _ h_ => h_.1)))) (Kd.R_lt (Kd.R_mono (Kd.R_far (p := ⟨gb1486, 2, none⟩) (Kd.R_far (p := ⟨gb1486, 1, none⟩) (Kd.R_far (p := ⟨gb1486, 0, none⟩) (Kd.R_types HO1485.out BK1486.out (by decide)) (fun _ hk => hk.2) (.int .i64 t1476)) (fun _ hk => hk.2) (.slice Ao13 t1477.length co13)) (fun _ hk => hk.2) (.slice Ao14 t1480.length co14)) (fun _ h_ => h_.1)))) (below_size (Z.bs HB.out GE1486.out))); replace HO1479 := Z.k (Kd.R_elder' (Kd.R_mono (Kd.R_far (p := ⟨gb1486, 2, none⟩) (Kd.R_far (p := ⟨gb1486, 1, none⟩) (Kd.R_far (p := ⟨gb1486, 0, none⟩) (Kd.R_types HO1479.out BK1486.out (by decide)) (fun _ hk => hk.2) (.int .i64 t1476)) (fun _ hk => hk.2) (.slice Ao13 t1477.length co13)) (fun _ hk => hk.2) (.slice Ao14 t1480.length co14)) (fun _ h_ => h_.1)) (Kd.R_base ho0) hb); replace HO1485 := Z.k (Kd.R_elder' (Kd.R_mono (Kd.R_far (p := ⟨gb1486, 2, none⟩) (Kd.R_far (p := ⟨gb1486, 1, none⟩) (Kd.R_far (p := ⟨gb1486, 0, none⟩) (Kd.R_types HO1485.out BK1486.out (by decide)) (fun _ hk => hk.2) (.int .i64 t1476)) (fun _ hk => hk.2) (.slice Ao13 t1477.length co13)) (fun _ hk => hk.2) (.slice Ao14 t1480.length co14)) (fun _ h_ => h_.1)) (Kd.R_base ho0) hb); replace BK1486 := Z.k (blk_below (g := gb1486) (o := .cells #[.int .i64 t1476, .slice Ao13 t1477.length co13, .slice Ao14 t1480.length co14] 28 (0, 0)) (by refine blk_put (cs := #[.int .i64 t1476, .slice Ao13 t1477.length co13, .slice none 0 0]) ?_ 2 _ rfl; refine blk_put (cs := #[.int .i64 t1476, .slice none 0 0, .slice none 0 0]) ?_ 1 _ rfl; refine blk_put (cs := #[.int .i64 0, .slice none 0 0, .slice none 0 0]) ?_ 0 _ rfl; exact BK1486.out) hb); replace HB := Z.st (Z.bs HB.out GE1486.out) hb; (try clear hb); (try clear ho0); have hcz17 := Z.c3 BK1486.out) | ((with_reducible refine gate_callee (f := 55) rfl ?_); refine goesL_ (some 24) rfl rfl Try.func55 (by kernel_rfl) rfl #[.agg #[.int .i64 t1476, .slice Ao13 t1477.length co13, .slice Ao14 t1480.length co14], .slice Ao15 t1483.length co15] rfl Z.ar ?_; (with_reducible refine (spec_NeverOf.calls k t1476 _ _ t1477 _ _ t1480 _ _ t1483 t1490 _ ?q1 ?q2 ?q3 ?q4 ?q5 ?q6 A5.out).mono ?_); (case q1 => exact (Kd.R_reads' HO1479.out).2.2); (case q2 => exact (Kd.R_reads' HO1479.out).2.1); (case q3 => exact (Kd.R_reads' HO1482.out).2.2); (case q4 => exact (Kd.R_reads' HO1482.out).2.1); (case q5 => exact (Kd.R_reads' HO1485.out).2.2); (case q6 => exact (Kd.R_reads' HO1485.out).2.1); rintro e w18 ⟨v1491, rfl, ho0, hb⟩; refine ⟨_, rfl, ?_⟩; replace HO1482 := Z.rb HO1482 hb; have HO1492 := Z.k (Kd.R_lower (Kd.R_new' (Kd.R_new' (Kd.R_new' ho0 (Kd.R_lt HO1479.out)) (Kd.R_lt HO1485.out)) (Kd.R_lt HO1489.out)) (below_size (Z.bs HB.out GE1486.out))); replace HO1479 := Z.k (Kd.R_elder' HO1479.out (Kd.R_base ho0) hb); replace HO1485 := Z.k (Kd.R_elder' HO1485.out (Kd.R_base ho0) hb); replace HO1489 := Z.k (Kd.R_elder' HO1489.out (Kd.R_base ho0) hb); replace BK1486 := Z.bb BK1486 hb; replace HB := Z.st (Z.bs HB.out GE1486.out) hb; (try clear hb); (try clear ho0); obtain ⟨Ao19, co19, eo19⟩ := Kd.R_slice HO1489.out; subst eo19; obtain ⟨Ao20, co20, eo20⟩ := Kd.R_slice HO1492.out; subst eo20) | ((with_reducible refine gate_callee (f := 34) rfl ?_); refine goesL_ (some 25) rfl rfl Try.func34 (by kernel_rfl) rfl #[.slice Ao19 t1487.length co19, .slice Ao20 t1490.length co20] rfl Z.ar ?_; (with_reducible refine (laws_sameInts.calls k _ _ t1487 _ _ t1490 true _ ?q1 ?q2 ?q3 ?q4 A6.out).mono ?_); (case q1 => exact (Kd.R_reads' HO1489.out).2.2); (case q2 => exact (Kd.R_reads' HO1489.out).2.1); (case q3 => exact (Kd.R_reads' HO1492.out).2.2); (case q4 => exact (Kd.R_reads' HO1492.out).2.1); rintro e w' ⟨rfl, ⟨nd, rfl⟩⟩; refine ⟨_, rfl, ?_⟩; have hcz21 := Z.c3 BK1486.out) | ((with_reducible refine gate_callee (f := 16) rfl ?_); refine goesL_ (some 29) rfl rfl Try.func16 (by kernel_rfl) rfl #[.agg #[.int .i64 t1476, .slice Ao13 t1477.length co13, .slice Ao14 t1480.length co14], .slice Ao15 t1483.length co15] rfl Z.ar ?_; (with_reducible refine (spec_StateOk.calls k t1476 _ _ t1477 _ _ t1480 _ _ t1483 true _ ?q1 ?q2 ?q3 ?q4 ?q5 ?q6 A8.out).mono ?_); (case q1 => exact (Kd.R_reads' HO1479.out).2.2); (case q2 => exact (Kd.R_reads' HO1479.out).2.1); (case q3 => exact (Kd.R_reads' HO1482.out).2.2); (case q4 => exact (Kd.R_reads' HO1482.out).2.1); (case q5 => exact (Kd.R_reads' HO1485.out).2.2); (case q6 => exact (Kd.R_reads' HO1485.out).2.1); rintro e w22 ⟨rfl, hb⟩; refine ⟨_, rfl, ?_⟩; replace HO1479 := Z.rb HO1479 hb; replace HO1482 := Z.rb HO1482 hb; replace HO1485 := Z.rb HO1485 hb; replace HO1489 := Z.rb HO1489 hb; replace HO1492 := Z.rb HO1492 hb; replace BK1486 := Z.bb BK1486 hb; replace HB := Z.st (Z.bs HB.out GE1486.out) hb; (try clear hb)))
 go_loopg [6, 7] k (fun kq v6 v7 w' => ∃ (x6_1 : Int) (x7_1 : Int), v6 = .int .i64 x6_1 ∧ v7 = .int .i64 x7_1 ∧ Aside0 (laws_FnNeverOf.l0 kq t1483 t1487 x6_1 x7_1 t1476 t1477 t1480 = some r) ∧ Aside0 (kq ≤ k) ∧ Aside0 (Kd.R (Kd.int .i64) 3 w' w.heap.size (fun k_ => some k_ ≠ ((.slice Ao19 t1487.length co19) : Value).ownBlock ∧ some k_ ≠ ((.slice Ao13 t1477.length co13) : Value).ownBlock) (.slice Ao15 t1483.length co15) t1483) ∧ Aside0 (Kd.R (Kd.int .i64) 3 w' w.heap.size (fun k_ => some k_ ≠ ((.slice Ao15 t1483.length co15) : Value).ownBlock ∧ some k_ ≠ ((.slice Ao13 t1477.length co13) : Value).ownBlock) (.slice Ao19 t1487.length co19) t1487) ∧ Aside0 (Kd.R (Kd.int .i64) 3 w' w.heap.size (fun k_ => some k_ ≠ ((.slice Ao15 t1483.length co15) : Value).ownBlock ∧ some k_ ≠ ((.slice Ao19 t1487.length co19) : Value).ownBlock) (.slice Ao13 t1477.length co13) t1477) ∧ Aside0 (Kd.R (Kd.slice 37 k37) 34 w' w.heap.size (fun _ => True) (.slice Ao14 t1480.length co14) t1480) ∧ Aside0 (w'.heap[gb1486]? = some (.cells #[.int .i64 t1476, (.slice Ao13 t1477.length co13), (.slice Ao14 t1480.length co14)] 28 (0, 0))) ∧ Aside0 (Below w.heap.size w w'))
 case atStart => exact ⟨(1), (0), (by rfl), (by rfl), H', ⟨Nat.le_refl _⟩, ⟨by exact Kd.R_mono HO1485.out (fun _ hk => ⟨hk.1.2, hk.1.1⟩)⟩, ⟨by exact Kd.R_mono HO1489.out (fun _ hk => ⟨hk.1.2, hk.1.1.2⟩)⟩, ⟨by exact Kd.R_mono HO1479.out (fun _ hk => ⟨hk.1.1, hk.1.2⟩)⟩, ⟨by exact HO1482.out⟩, ⟨by exact BK1486.out⟩, ⟨Z.bs HB.out GE1486.out⟩⟩
 clear H'
 try clear c2b0
 try clear c2b1
 obtain ⟨x6_1, x7_1, rfl, rfl, HA, HK1, HO_4, HO_5, HO_1487001, HO_1487002, BK1486, HB⟩ := hrel
 cases gk with
 | zero => exact absurd HA.out (by simp [laws_FnNeverOf.l0])
 | succ k1 =>
  have H := HA.out
  clear HA
  simp only [laws_FnNeverOf.l0] at H
  revert H; refine Z.fc ?_ ?_ <;> intro c23b0 H
  ·obtain ⟨c24b0, H⟩ := Z.fd H
   have H' := Z.k H
   clear H
   have hcz25 := Z.c3 BK1486.out
   have p1496 : 0 ≤ (x7_1 : Int) := Z.od
   have q1496 : x7_1 < (t1480.length : Int) := Z.od
   obtain ⟨ad1496, A1496_0, c1496_0, e1496, hx1496_0, hl1496_0, hi1496_0⟩ := at_L5 (Kd.R_reads' HO_1487002.out).2.2 x7_1 p1496 q1496
   cases e1496
   obtain ⟨ce1496, hce1496, hMe1496, hcc1496⟩ := Kd.R_get HO_1487002.out [] x7_1 p1496 q1496
   obtain ⟨ve1496_0, rfl, ge1496_0⟩ := hMe1496
   have hv1496_0 := hcc1496 0 _ rfl
   rw [Nat.add_zero, show ((Kd.slice 37 k37)).sz = 1 from rfl, Nat.mul_one] at hv1496_0
   replace hv1496_0 := Option.some.inj (hv1496_0.symm.trans hx1496_0)
   rw [hv1496_0] at ge1496_0
   have HL1496_0 := Z.k (show Kd.R k37 37 _ _ _ _ (rd_L5 t1480 x7_1) from ge1496_0)
   clear hv1496_0 ge1496_0
   clear hcc1496 hce1496
   have HR1496_0 := Z.k hi1496_0
   have HC1496_0 := Z.k hl1496_0
   clear hi1496_0 hl1496_0
   replace p1496 := eq_true p1496
   replace q1496 := eq_true q1496
   go_wp2
   go_roundg k1
   case measure => have := HK1.out; omega
   case rel => exact ⟨(wrap64 (x6_1 * ((rd_L5 t1480 x7_1).length : Int))), (wrap64 (x7_1 + 1)), (by rfl), (by rfl), H', ⟨by have := HK1.out; omega⟩, ⟨by exact HO_4.out⟩, ⟨by exact HO_5.out⟩, ⟨by exact HO_1487001.out⟩, ⟨by exact HO_1487002.out⟩, ⟨by exact BK1486.out⟩, ⟨Z.bs HB.out GE1486.out⟩⟩
  obtain ⟨c26, H⟩ := Z.ifp H
  have c26b0 := eq_true c26
  have c26b1 : decide (0 ≤ t1476) = true := decide_eq_true c26
  clear c26
  obtain ⟨ji27, hji27⟩ : ∃ j_ : Int, (shl .i64 1 t1476) = j_ := ⟨_, rfl⟩
  replace H : ((impl_ReachOf.f k1 t1476 t1477 t1480 t1483 (wrap64 ((ji27) - 1))).bind fun t1497 => (laws_FnNeverOf.l1 k1 t1483 t1487 x6_1 t1497 0 t1476 t1477 t1480)) = some r := by (rw [hji27] at H; exact H)
  have hji27_ : (IntKind.i64.wrap (1 * 2 ^ min t1476.toNat 64)) = ji27 := hji27
  have hji27z : t1476 ≤ 64 → (IntKind.i64.wrap (1 * 2 ^ t1476.toNat)) = ji27 := shl_small hji27
  have hji27u : (IntKind.i64.wrap (2 ^ min t1476.toNat 64)) = ji27 := by have h_ := hji27_; rw [Int.one_mul] at h_; exact h_
  have hji27v : t1476 ≤ 64 → (IntKind.i64.wrap (2 ^ t1476.toNat)) = ji27 := fun hle_ => by have h_ := hji27z hle_; rw [Int.one_mul] at h_; exact h_
  have hji27y : (wrap64 (1 * 2 ^ min t1476.toNat 64)) = ji27 := (i64_w _).symm.trans hji27_
  have hji27x : t1476 ≤ 64 → (wrap64 (1 * 2 ^ t1476.toNat)) = ji27 := fun h_ => (i64_w _).symm.trans (hji27z h_)
  revert H; refine Z.bd ?_; rintro t1497 A28 H
  have H' := Z.k H
  clear H
  have hcz29 := Z.c3 BK1486.out
  try go_wp2
  replace HO_4 := Z.k (Kd.R_drew HO_4.out)
  replace HO_5 := Z.k (Kd.R_drew HO_5.out)
  replace HO_1487001 := Z.k (Kd.R_drew HO_1487001.out)
  replace HO_1487002 := Z.k (Kd.R_drew HO_1487002.out)
  replace BK1486 := Z.k (blk_drew BK1486.out)
  replace HB := Z.k (below_drew1 HB.out)
  refine start_ (n := 9) (S := fun w' => w'.cell? ⟨gb1486, 0, none⟩ = some (.int .i64 t1476) ∧ w'.cell? ⟨gb1486, 1, none⟩ = some (.slice Ao13 t1477.length co13) ∧ w'.cell? ⟨gb1486, 2, none⟩ = some (.slice Ao14 t1480.length co14)) (ds := []) (Z.mb 9 0) (by kernel_rfl) rfl rfl ⟨Z.b BK1486 0, Z.b BK1486 1, Z.b BK1486 2⟩ (fun hHeld => ?_); refine with_tabW laws_FnNeverOf.tab14 laws_FnNeverOf.bits14 (fun HT_ HW_ => ?_)
  generalize wr.drew = w30 at HO_4 HO_5 HO_1487001 HO_1487002 BK1486 HB hHeld ⊢
  refine Z.pv 1 53 9 2 HT_.out ?_
  refine Z.pv 2 54 9 6 HT_.out ?_
  refine Z.pv 3 55 9 14 HT_.out ?_
  refine Z.t3 0 52 9 15 HT_.out HW_.out hHeld ?_
  refine Z.t3 4 56 9 31 HT_.out HW_.out hHeld ?_
  refine Z.pv 5 57 9 63 HT_.out ?_
  refine Z.pv 6 58 9 127 HT_.out ?_
  refine one_ (i := 7) (N := some 59) (Z.mb 9 255) rfl rfl (one_of HT_.out (by kernel_rfl)) (by decide) (fun K hK => ?_)
  refine goes_ Try.func19 (by kernel_rfl) rfl #[.agg #[.int .i64 t1476, .slice Ao13 t1477.length co13, .slice Ao14 t1480.length co14], .slice Ao15 t1483.length co15, .int .i64 (wrap64 ((ji27) - 1))] (by rfl) rfl rfl (by (try simp only [List.map_toArray, List.map_cons, List.map_nil]); rfl) ?_
  with_reducible refine (impl_ReachOf.calls k1 t1476 _ _ t1477 _ _ t1480 _ _ t1483 (wrap64 ((ji27) - 1)) t1497 _ ?q1 ?q2 ?q3 ?q4 ?q5 ?q6 A28.out).mono ?_
  (case q1 => exact (Kd.R_reads' HO_1487001.out).2.2)
  (case q2 => exact (Kd.R_reads' HO_1487001.out).2.1)
  (case q3 => exact (Kd.R_reads' HO_1487002.out).2.2)
  (case q4 => exact (Kd.R_reads' HO_1487002.out).2.1)
  (case q5 => exact (Kd.R_reads' HO_4.out).2.2)
  (case q6 => exact (Kd.R_reads' HO_4.out).2.1)
  rintro e w31 ⟨v1498, rfl, ho0, hb⟩
  refine ⟨_, rfl, ?_⟩
  replace HO_1487002 := Z.rb HO_1487002 hb
  have HO1499 := Z.k (Kd.R_lower (Kd.R_new' (Kd.R_new' (Kd.R_new' ho0 (Kd.R_lt HO_4.out)) (Kd.R_lt HO_5.out)) (Kd.R_lt HO_1487001.out)) (below_size (Z.bs HB.out GE1486.out)))
  replace HO_4 := Z.k (Kd.R_elder' HO_4.out (Kd.R_base ho0) hb)
  replace HO_5 := Z.k (Kd.R_elder' HO_5.out (Kd.R_base ho0) hb)
  replace HO_1487001 := Z.k (Kd.R_elder' HO_1487001.out (Kd.R_base ho0) hb)
  replace BK1486 := Z.bb BK1486 hb
  replace HB := Z.st (Z.bs HB.out GE1486.out) hb
  (try clear hb)
  (try clear ho0)
  refine hK.out _ _ ⟨Z.b BK1486 0, Z.b BK1486 1, Z.b BK1486 2⟩ (fun hHeld => ?_)
  clear hK K
  refine Z.nm ?_
  refine Z.pv 8 8 9 511 HT_.out ?_
  refine done_ (done_of HT_.out (by kernel_rfl)) ?_
  try go_wp2
  go_loopg [9] k1 (fun kq v9 w' => ∃ (x9_2 : Int), v9 = .int .i64 x9_2 ∧ Aside0 (laws_FnNeverOf.l1 kq t1483 t1487 x6_1 t1497 x9_2 t1476 t1477 t1480 = some r) ∧ Aside0 (kq ≤ k1) ∧ Aside0 (Kd.R (Kd.int .i64) 3 w' w.heap.size (fun k_ => some k_ ≠ ((.slice Ao19 t1487.length co19) : Value).ownBlock ∧ some k_ ≠ (v1498 : Value).ownBlock ∧ some k_ ≠ ((.slice Ao13 t1477.length co13) : Value).ownBlock) (.slice Ao15 t1483.length co15) t1483) ∧ Aside0 (Kd.R (Kd.int .i64) 3 w' w.heap.size (fun k_ => some k_ ≠ ((.slice Ao15 t1483.length co15) : Value).ownBlock ∧ some k_ ≠ (v1498 : Value).ownBlock ∧ some k_ ≠ ((.slice Ao13 t1477.length co13) : Value).ownBlock) (.slice Ao19 t1487.length co19) t1487) ∧ Aside0 (Kd.R (Kd.int .i64) 3 w' w.heap.size (fun k_ => some k_ ≠ ((.slice Ao15 t1483.length co15) : Value).ownBlock ∧ some k_ ≠ ((.slice Ao19 t1487.length co19) : Value).ownBlock ∧ some k_ ≠ ((.slice Ao13 t1477.length co13) : Value).ownBlock) v1498 t1497) ∧ Aside0 (Kd.R (Kd.int .i64) 3 w' w.heap.size (fun k_ => some k_ ≠ ((.slice Ao15 t1483.length co15) : Value).ownBlock ∧ some k_ ≠ ((.slice Ao19 t1487.length co19) : Value).ownBlock ∧ some k_ ≠ (v1498 : Value).ownBlock) (.slice Ao13 t1477.length co13) t1477) ∧ Aside0 (Kd.R (Kd.slice 37 k37) 34 w' w.heap.size (fun _ => True) (.slice Ao14 t1480.length co14) t1480) ∧ Aside0 (w'.heap[gb1486]? = some (.cells #[.int .i64 t1476, (.slice Ao13 t1477.length co13), (.slice Ao14 t1480.length co14)] 28 (0, 0))) ∧ Aside0 (Below w.heap.size w w'))
  case atStart => exact ⟨(0), (by rfl), H', ⟨Nat.le_refl _⟩, ⟨by exact Kd.R_mono HO_4.out (fun _ hk => ⟨hk.1.1, ⟨hk.2, hk.1.2⟩⟩)⟩, ⟨by exact Kd.R_mono HO_5.out (fun _ hk => ⟨hk.1.1, ⟨hk.2, hk.1.2⟩⟩)⟩, ⟨by exact Kd.R_mono HO1499.out (fun _ hk => ⟨hk.1.1.2, ⟨hk.1.2, hk.2⟩⟩)⟩, ⟨by exact Kd.R_mono HO_1487001.out (fun _ hk => ⟨hk.1.1, ⟨hk.1.2, hk.2⟩⟩)⟩, ⟨by exact HO_1487002.out⟩, ⟨by exact BK1486.out⟩, ⟨Z.bs HB.out GE1486.out⟩⟩
  clear H'
  try clear c23b0
  try clear c26b0
  try clear c26b1
  obtain ⟨x9_2, rfl, HA, HK2, HO_4, HO_5, HO_8, HO_1487001, HO_1487002, BK1486, HB⟩ := hrel
  cases gk with
  | zero => exact absurd HA.out (by simp [laws_FnNeverOf.l1])
  | succ k2 =>
   have H := HA.out
   clear HA
   simp only [laws_FnNeverOf.l1] at H
   revert H; refine Z.fc ?_ ?_ <;> intro c32b0 H
   ·obtain ⟨c33b0, H⟩ := Z.fd H
    revert H; refine Z.bd ?_; rintro t1501 A34 H
    by_cases c35 : t1501 = true
    ·subst c35
     rw [if_pos rfl] at H
     obtain rfl := Option.some.inj H
     have p1500 : 0 ≤ (x9_2 : Int) := Z.od
     have q1500 : x9_2 < (t1487.length : Int) := Z.od
     obtain ⟨ad1500, e1500, hx1500_0⟩ := Kd.at_int (Kd.R_reads' HO_5.out).2.2 x9_2 p1500 q1500
     cases e1500
     replace p1500 := eq_true p1500
     replace q1500 := eq_true q1500
     obtain ⟨Ao36, co36, eo36⟩ := Kd.R_slice HO_8.out
     subst eo36
     go_wp2_with (((with_reducible refine gate_callee (f := 28) rfl ?_); refine goesL_ (some 71) rfl rfl Try.func28 (by kernel_rfl) rfl #[.slice Ao36 t1497.length co36, .int .i64 (rd t1487 x9_2)] rfl Z.ar ?_; (with_reducible refine (laws_hasInt.calls k2 _ _ t1497 (rd t1487 x9_2) true _ ?q1 ?q2 A34.out).mono ?_); (case q1 => exact (Kd.R_reads' HO_8.out).2.2); (case q2 => exact (Kd.R_reads' HO_8.out).2.1); rintro e w' ⟨rfl, ⟨nd, rfl⟩⟩; refine ⟨_, rfl, ?_⟩))
     go_ret
     exact ⟨by rfl, Z.bs HB.out GE1486.out⟩
    replace c35 := Bool.eq_false_iff.mpr c35
    subst c35
    rw [if_neg (show ¬ (false = true) by decide)] at H
    have H' := Z.k H
    clear H
    have p1500 : 0 ≤ (x9_2 : Int) := Z.od
    have q1500 : x9_2 < (t1487.length : Int) := Z.od
    obtain ⟨ad1500, e1500, hx1500_0⟩ := Kd.at_int (Kd.R_reads' HO_5.out).2.2 x9_2 p1500 q1500
    cases e1500
    replace p1500 := eq_true p1500
    replace q1500 := eq_true q1500
    obtain ⟨Ao37, co37, eo37⟩ := Kd.R_slice HO_8.out
    subst eo37
    go_wp2_with (((with_reducible refine gate_callee (f := 28) rfl ?_); refine goesL_ (some 71) rfl rfl Try.func28 (by kernel_rfl) rfl #[.slice Ao37 t1497.length co37, .int .i64 (rd t1487 x9_2)] rfl Z.ar ?_; (with_reducible refine (laws_hasInt.calls k2 _ _ t1497 (rd t1487 x9_2) false _ ?q1 ?q2 A34.out).mono ?_); (case q1 => exact (Kd.R_reads' HO_8.out).2.2); (case q2 => exact (Kd.R_reads' HO_8.out).2.1); rintro e w' ⟨rfl, ⟨nd, rfl⟩⟩; refine ⟨_, rfl, ?_⟩))
    go_roundg k2
    case measure => have := HK1.out; have := HK2.out; omega
    case rel => exact ⟨(wrap64 (x9_2 + 1)), (by rfl), H', ⟨by have := HK1.out; have := HK2.out; omega⟩, ⟨by (with_reducible repeat (apply Kd.R_drewN)); exact HO_4.out⟩, ⟨by (with_reducible repeat (apply Kd.R_drewN)); exact HO_5.out⟩, ⟨by (with_reducible repeat (apply Kd.R_drewN)); exact HO_8.out⟩, ⟨by (with_reducible repeat (apply Kd.R_drewN)); exact HO_1487001.out⟩, ⟨by (with_reducible repeat (apply Kd.R_drewN)); exact HO_1487002.out⟩, ⟨by (with_reducible repeat (refine blk_drewN ?_ _)); exact BK1486.out⟩, ⟨Z.bs HB.out GE1486.out⟩⟩
   by_cases c38 : (t1487.length : Int) > 0
   rotate_left
   ·rw [if_neg c38] at H
    have c38b0 : decide (0 < (t1487.length : Int)) = false := decide_eq_false c38
    have c38b1 : decide (0 < t1487.length) = false := decide_eq_false (by omega)
    clear c38
    revert H; refine Z.bd ?_; rintro t1510 A61 H
    by_cases c62 : t1510 = true
    ·subst c62
     rw [if_pos rfl] at H
     obtain rfl := Option.some.inj H
     try go_wp2
     replace HO_4 := Z.k (Kd.R_drew HO_4.out)
     replace HO_5 := Z.k (Kd.R_drew HO_5.out)
     replace HO_8 := Z.k (Kd.R_drew HO_8.out)
     replace HO_1487001 := Z.k (Kd.R_drew HO_1487001.out)
     replace HO_1487002 := Z.k (Kd.R_drew HO_1487002.out)
     replace BK1486 := Z.k (blk_drew BK1486.out)
     replace HB := Z.k (below_drew1 HB.out)
     refine start_ (n := 15) (S := fun w' => True) (ds := []) (Z.mb 15 0) (by kernel_rfl) rfl rfl trivial (fun hHeld => ?_); refine with_tabW laws_FnNeverOf.tab20 laws_FnNeverOf.bits20 (fun HT_ HW_ => ?_)
     generalize wr.drew = w63 at HO_4 HO_5 HO_8 HO_1487001 HO_1487002 BK1486 HB hHeld ⊢
     refine Z.pv 0 72 15 1 HT_.out ?_
     refine Z.pv 1 73 15 3 HT_.out ?_
     refine Z.pv 2 74 15 7 HT_.out ?_
     refine Z.pv 3 75 15 15 HT_.out ?_
     refine Z.pu 4 76 15 31 HT_.out ?_
     refine Z.pu 5 77 15 63 HT_.out ?_
     refine Z.pu 6 78 15 127 HT_.out ?_
     refine Z.pu 7 79 15 255 HT_.out ?_
     refine Z.pu 8 80 15 511 HT_.out ?_
     refine Z.pu 9 81 15 1023 HT_.out ?_
     refine Z.pu 10 82 15 2047 HT_.out ?_
     refine Z.pu 11 83 15 4095 HT_.out ?_
     refine Z.pu 12 84 15 8191 HT_.out ?_
     refine Z.pu 13 85 15 16383 HT_.out ?_
     refine Z.pv 14 86 15 32767 HT_.out ?_
     refine done_ (done_of HT_.out (by kernel_rfl)) ?_
     try go_wp2_with (((with_reducible refine gate_callee (f := 39) rfl ?_); refine goesL_ (some 88) rfl rfl Try.func39 (by kernel_rfl) rfl #[.slice Ao19 t1487.length co19] rfl Z.ar ?_; (with_reducible refine (laws_ascend.calls k2 _ _ t1487 true _ ?q1 ?q2 A61.out).mono ?_); (case q1 => exact (Kd.R_reads' HO_5.out).2.2); (case q2 => exact (Kd.R_reads' HO_5.out).2.1); rintro e w' ⟨rfl, ⟨nd, rfl⟩⟩; refine ⟨_, rfl, ?_⟩; obtain ⟨Ao64, co64, eo64⟩ := Kd.R_slice HO_8.out; subst eo64))
     go_ret
     exact ⟨by rfl, Z.bs HB.out GE1486.out⟩
    replace c62 := Bool.eq_false_iff.mpr c62
    subst c62
    rw [if_neg (show ¬ (false = true) by decide)] at H
    obtain rfl := Option.some.inj H
    try go_wp2
    replace HO_4 := Z.k (Kd.R_drew HO_4.out)
    replace HO_5 := Z.k (Kd.R_drew HO_5.out)
    replace HO_8 := Z.k (Kd.R_drew HO_8.out)
    replace HO_1487001 := Z.k (Kd.R_drew HO_1487001.out)
    replace HO_1487002 := Z.k (Kd.R_drew HO_1487002.out)
    replace BK1486 := Z.k (blk_drew BK1486.out)
    replace HB := Z.k (below_drew1 HB.out)
    refine start_ (n := 15) (S := fun w' => True) (ds := []) (Z.mb 15 0) (by kernel_rfl) rfl rfl trivial (fun hHeld => ?_); refine with_tabW laws_FnNeverOf.tab20 laws_FnNeverOf.bits20 (fun HT_ HW_ => ?_)
    generalize wr.drew = w65 at HO_4 HO_5 HO_8 HO_1487001 HO_1487002 BK1486 HB hHeld ⊢
    refine Z.pv 0 72 15 1 HT_.out ?_
    refine Z.pv 1 73 15 3 HT_.out ?_
    refine Z.pv 2 74 15 7 HT_.out ?_
    refine Z.pv 3 75 15 15 HT_.out ?_
    refine Z.pu 4 76 15 31 HT_.out ?_
    refine Z.pu 5 77 15 63 HT_.out ?_
    refine Z.pu 6 78 15 127 HT_.out ?_
    refine Z.pu 7 79 15 255 HT_.out ?_
    refine Z.pu 8 80 15 511 HT_.out ?_
    refine Z.pu 9 81 15 1023 HT_.out ?_
    refine Z.pu 10 82 15 2047 HT_.out ?_
    refine Z.pu 11 83 15 4095 HT_.out ?_
    refine Z.pu 12 84 15 8191 HT_.out ?_
    refine Z.pu 13 85 15 16383 HT_.out ?_
    refine Z.pv 14 86 15 32767 HT_.out ?_
    refine done_ (done_of HT_.out (by kernel_rfl)) ?_
    try go_wp2_with (((with_reducible refine gate_callee (f := 39) rfl ?_); refine goesL_ (some 88) rfl rfl Try.func39 (by kernel_rfl) rfl #[.slice Ao19 t1487.length co19] rfl Z.ar ?_; (with_reducible refine (laws_ascend.calls k2 _ _ t1487 false _ ?q1 ?q2 A61.out).mono ?_); (case q1 => exact (Kd.R_reads' HO_5.out).2.2); (case q2 => exact (Kd.R_reads' HO_5.out).2.1); rintro e w' ⟨rfl, ⟨nd, rfl⟩⟩; refine ⟨_, rfl, ?_⟩))
    go_ret
    exact ⟨by rfl, Z.bs HB.out GE1486.out⟩
   rw [if_pos c38] at H
   have c38b0 : decide (0 < (t1487.length : Int)) = true := decide_eq_true c38
   have c38b1 : decide (0 < t1487.length) = true := decide_eq_true (by omega)
   clear c38
   obtain ⟨c39, H⟩ := Z.ifp H
   have c39b0 : decide (0 < (t1487.length : Int)) = true := decide_eq_true c39
   have c39b1 : decide (0 < t1487.length) = true := decide_eq_true (by omega)
   clear c39
   revert H; refine Z.bd ?_; rintro t1503 A40 H
   revert H; refine Z.bd ?_; rintro t1506 A41 H
   by_cases c42 : (t1506.length : Int) > 0
   ·rw [if_pos c42] at H
    have c42b0 : decide (0 < (t1506.length : Int)) = true := decide_eq_true c42
    have c42b1 : decide (0 < t1506.length) = true := decide_eq_true (by omega)
    clear c42
    obtain rfl := Option.some.inj H
    try go_wp2
    replace HO_4 := Z.k (Kd.R_drew HO_4.out)
    replace HO_5 := Z.k (Kd.R_drew HO_5.out)
    replace HO_8 := Z.k (Kd.R_drew HO_8.out)
    replace HO_1487001 := Z.k (Kd.R_drew HO_1487001.out)
    replace HO_1487002 := Z.k (Kd.R_drew HO_1487002.out)
    replace BK1486 := Z.k (blk_drew BK1486.out)
    replace HB := Z.k (below_drew1 HB.out)
    have p1502 : 0 ≤ (0 : Int) := (by omega)
    have q1502 : 0 < (t1487.length : Int) := Z.od
    obtain ⟨ad1502, e1502, hx1502_0⟩ := Kd.at_int (Kd.R_reads' HO_5.out).2.2 0 p1502 q1502
    cases e1502
    have qi1502 : (0 < t1487.length) = True := eq_true (by omega)
    (try rw [show ((0 : Int)).toNat = 0 from rfl] at hx1502_0)
    (try rw [Addr.add_zero'] at hx1502_0)
    replace p1502 := eq_true p1502
    replace q1502 := eq_true q1502
    refine start_ (n := 15) (S := fun w' => w'.cell? ⟨gb1486, 0, none⟩ = some (.int .i64 t1476) ∧ w'.cell? ⟨gb1486, 1, none⟩ = some (.slice Ao13 t1477.length co13) ∧ w'.cell? ⟨gb1486, 2, none⟩ = some (.slice Ao14 t1480.length co14) ∧ w'.cell? ad1502 = some (.int .i64 (rd t1487 0))) (ds := []) (Z.mb 15 0) (by kernel_rfl) rfl rfl ⟨Z.b BK1486 0, Z.b BK1486 1, Z.b BK1486 2, hx1502_0⟩ (fun hHeld => ?_); refine with_tabW laws_FnNeverOf.tab20 laws_FnNeverOf.bits20 (fun HT_ HW_ => ?_)
    generalize wr.drew = w43 at HO_4 HO_5 HO_8 HO_1487001 HO_1487002 BK1486 HB hx1502_0 hHeld ⊢
    refine Z.pv 0 72 15 1 HT_.out ?_
    refine Z.pv 1 73 15 3 HT_.out ?_
    refine Z.pv 2 74 15 7 HT_.out ?_
    refine Z.pv 3 75 15 15 HT_.out ?_
    refine Z.pv 5 77 15 47 HT_.out ?_
    refine Z.pv 7 79 15 175 HT_.out ?_
    refine Z.pv 8 80 15 431 HT_.out ?_
    refine Z.t4 4 76 15 447 HT_.out HW_.out hHeld ?_
    refine Z.t4 6 78 15 511 HT_.out HW_.out hHeld ?_
    refine Z.t4 9 81 15 1023 HT_.out HW_.out hHeld ?_
    refine one_ (i := 10) (N := some 82) (Z.mb 15 2047) rfl rfl (one_of HT_.out (by kernel_rfl)) (by decide) (fun K hK => ?_)
    refine goes_ Try.func38 (by kernel_rfl) rfl #[.agg #[.int .i64 t1476, .slice Ao13 t1477.length co13, .slice Ao14 t1480.length co14], .int .i64 (rd t1487 0)] (by rfl) rfl rfl Z.ar ?_
    with_reducible refine (laws_stateOf.calls k2 t1476 _ _ t1477 _ _ t1480 (rd t1487 0) t1503 _ ?q1 ?q2 ?q3 ?q4 A40.out).mono ?_
    (case q1 => exact (Kd.R_reads' HO_1487001.out).2.2)
    (case q2 => exact (Kd.R_reads' HO_1487001.out).2.1)
    (case q3 => exact (Kd.R_reads' HO_1487002.out).2.2)
    (case q4 => exact (Kd.R_reads' HO_1487002.out).2.1)
    rintro e w44 ⟨v1504, rfl, ho0, hb⟩
    have HS3_ := (hb.cell (World.block_lt_of_cell? _ _ (hHeld.2.2.2))).trans (hHeld.2.2.2)
    refine ⟨_, rfl, ?_⟩
    replace HO_1487002 := Z.rb HO_1487002 hb
    have HO1505 := Z.k (Kd.R_lower (Kd.R_new' (Kd.R_new' (Kd.R_new' (Kd.R_new' ho0 (Kd.R_lt HO_4.out)) (Kd.R_lt HO_5.out)) (Kd.R_lt HO_8.out)) (Kd.R_lt HO_1487001.out)) (below_size (Z.bs HB.out GE1486.out)))
    replace HO_4 := Z.k (Kd.R_elder' HO_4.out (Kd.R_base ho0) hb)
    replace HO_5 := Z.k (Kd.R_elder' HO_5.out (Kd.R_base ho0) hb)
    replace HO_8 := Z.k (Kd.R_elder' HO_8.out (Kd.R_base ho0) hb)
    replace HO_1487001 := Z.k (Kd.R_elder' HO_1487001.out (Kd.R_base ho0) hb)
    replace BK1486 := Z.bb BK1486 hb
    replace HB := Z.st (Z.bs HB.out GE1486.out) hb
    (try clear hb)
    (try clear ho0)
    obtain ⟨Ao45, co45, eo45⟩ := Kd.R_slice HO1505.out
    (subst eo45)
    refine hK.out _ _ ⟨Z.b BK1486 0, Z.b BK1486 1, Z.b BK1486 2, HS3_⟩ (fun hHeld => ?_)
    clear hK K
    refine Z.nm ?_
    refine one_ (i := 11) (N := some 83) (Z.mb 15 4095) rfl rfl (one_of HT_.out (by kernel_rfl)) (by decide) (fun K hK => ?_)
    refine goes_ Try.func48 (by kernel_rfl) rfl #[.agg #[.int .i64 t1476, .slice Ao13 t1477.length co13, .slice Ao14 t1480.length co14], .slice Ao15 t1483.length co15, .slice Ao45 t1503.length co45] (by rfl) rfl rfl Z.ar ?_
    with_reducible refine (impl_AmendersOf.calls k2 t1476 _ _ t1477 _ _ t1480 _ _ t1483 _ _ t1503 t1506 _ ?q1 ?q2 ?q3 ?q4 ?q5 ?q6 ?q7 ?q8 A41.out).mono ?_
    (case q1 => exact (Kd.R_reads' HO_1487001.out).2.2)
    (case q2 => exact (Kd.R_reads' HO_1487001.out).2.1)
    (case q3 => exact (Kd.R_reads' HO_1487002.out).2.2)
    (case q4 => exact (Kd.R_reads' HO_1487002.out).2.1)
    (case q5 => exact (Kd.R_reads' HO_4.out).2.2)
    (case q6 => exact (Kd.R_reads' HO_4.out).2.1)
    (case q7 => exact (Kd.R_reads' HO1505.out).2.2)
    (case q8 => exact (Kd.R_reads' HO1505.out).2.1)
    rintro e w46 ⟨v1507, rfl, ho0, hb⟩
    have HS3_ := (hb.cell (World.block_lt_of_cell? _ _ (hHeld.2.2.2))).trans (hHeld.2.2.2)
    refine ⟨_, rfl, ?_⟩
    replace HO_1487002 := Z.rb HO_1487002 hb
    have HO1508 := Z.k (Kd.R_lower (Kd.R_new' (Kd.R_new' (Kd.R_new' (Kd.R_new' (Kd.R_new' ho0 (Kd.R_lt HO_4.out)) (Kd.R_lt HO_5.out)) (Kd.R_lt HO_8.out)) (Kd.R_lt HO_1487001.out)) (Kd.R_lt HO1505.out)) (below_size (Z.bs HB.out GE1486.out)))
    replace HO_4 := Z.k (Kd.R_elder' HO_4.out (Kd.R_base ho0) hb)
    replace HO_5 := Z.k (Kd.R_elder' HO_5.out (Kd.R_base ho0) hb)
    replace HO_8 := Z.k (Kd.R_elder' HO_8.out (Kd.R_base ho0) hb)
    replace HO_1487001 := Z.k (Kd.R_elder' HO_1487001.out (Kd.R_base ho0) hb)
    replace HO1505 := Z.k (Kd.R_elder' HO1505.out (Kd.R_base ho0) hb)
    replace BK1486 := Z.bb BK1486 hb
    replace HB := Z.st (Z.bs HB.out GE1486.out) hb
    (try clear hb)
    (try clear ho0)
    obtain ⟨Ao47, co47, eo47⟩ := Kd.R_slice HO1508.out
    (subst eo47)
    refine hK.out _ _ ⟨Z.b BK1486 0, Z.b BK1486 1, Z.b BK1486 2, HS3_⟩ (fun hHeld => ?_)
    clear hK K
    refine Z.nm ?_
    refine Z.pv 12 84 15 8191 HT_.out ?_
    refine Z.pv 13 85 15 16383 HT_.out ?_
    refine Z.pv 14 86 15 32767 HT_.out ?_
    refine done_ (done_of HT_.out (by kernel_rfl)) ?_
    try go_wp2
    go_ret
    exact ⟨by rfl, Z.bs HB.out GE1486.out⟩
   rw [if_neg c42] at H
   have c42b0 : decide (0 < (t1506.length : Int)) = false := decide_eq_false c42
   have c42b1 : decide (0 < t1506.length) = false := decide_eq_false (by omega)
   clear c42
   revert H; refine Z.bd ?_; rintro t1509 A48 H
   by_cases c49 : t1509 = true
   ·subst c49
    rw [if_pos rfl] at H
    obtain rfl := Option.some.inj H
    try go_wp2
    replace HO_4 := Z.k (Kd.R_drew HO_4.out)
    replace HO_5 := Z.k (Kd.R_drew HO_5.out)
    replace HO_8 := Z.k (Kd.R_drew HO_8.out)
    replace HO_1487001 := Z.k (Kd.R_drew HO_1487001.out)
    replace HO_1487002 := Z.k (Kd.R_drew HO_1487002.out)
    replace BK1486 := Z.k (blk_drew BK1486.out)
    replace HB := Z.k (below_drew1 HB.out)
    have p1502 : 0 ≤ (0 : Int) := (by omega)
    have q1502 : 0 < (t1487.length : Int) := Z.od
    obtain ⟨ad1502, e1502, hx1502_0⟩ := Kd.at_int (Kd.R_reads' HO_5.out).2.2 0 p1502 q1502
    cases e1502
    have qi1502 : (0 < t1487.length) = True := eq_true (by omega)
    (try rw [show ((0 : Int)).toNat = 0 from rfl] at hx1502_0)
    (try rw [Addr.add_zero'] at hx1502_0)
    replace p1502 := eq_true p1502
    replace q1502 := eq_true q1502
    refine start_ (n := 15) (S := fun w' => w'.cell? ⟨gb1486, 0, none⟩ = some (.int .i64 t1476) ∧ w'.cell? ⟨gb1486, 1, none⟩ = some (.slice Ao13 t1477.length co13) ∧ w'.cell? ⟨gb1486, 2, none⟩ = some (.slice Ao14 t1480.length co14) ∧ w'.cell? ad1502 = some (.int .i64 (rd t1487 0))) (ds := []) (Z.mb 15 0) (by kernel_rfl) rfl rfl ⟨Z.b BK1486 0, Z.b BK1486 1, Z.b BK1486 2, hx1502_0⟩ (fun hHeld => ?_); refine with_tabW laws_FnNeverOf.tab20 laws_FnNeverOf.bits20 (fun HT_ HW_ => ?_)
    generalize wr.drew = w50 at HO_4 HO_5 HO_8 HO_1487001 HO_1487002 BK1486 HB hx1502_0 hHeld ⊢
    refine Z.pv 0 72 15 1 HT_.out ?_
    refine Z.pv 1 73 15 3 HT_.out ?_
    refine Z.pv 2 74 15 7 HT_.out ?_
    refine Z.pv 3 75 15 15 HT_.out ?_
    refine Z.pv 5 77 15 47 HT_.out ?_
    refine Z.pv 7 79 15 175 HT_.out ?_
    refine Z.pv 8 80 15 431 HT_.out ?_
    refine Z.t4 4 76 15 447 HT_.out HW_.out hHeld ?_
    refine Z.t4 6 78 15 511 HT_.out HW_.out hHeld ?_
    refine Z.t4 9 81 15 1023 HT_.out HW_.out hHeld ?_
    refine one_ (i := 10) (N := some 82) (Z.mb 15 2047) rfl rfl (one_of HT_.out (by kernel_rfl)) (by decide) (fun K hK => ?_)
    refine goes_ Try.func38 (by kernel_rfl) rfl #[.agg #[.int .i64 t1476, .slice Ao13 t1477.length co13, .slice Ao14 t1480.length co14], .int .i64 (rd t1487 0)] (by rfl) rfl rfl Z.ar ?_
    with_reducible refine (laws_stateOf.calls k2 t1476 _ _ t1477 _ _ t1480 (rd t1487 0) t1503 _ ?q1 ?q2 ?q3 ?q4 A40.out).mono ?_
    (case q1 => exact (Kd.R_reads' HO_1487001.out).2.2)
    (case q2 => exact (Kd.R_reads' HO_1487001.out).2.1)
    (case q3 => exact (Kd.R_reads' HO_1487002.out).2.2)
    (case q4 => exact (Kd.R_reads' HO_1487002.out).2.1)
    rintro e w51 ⟨v1504, rfl, ho0, hb⟩
    have HS3_ := (hb.cell (World.block_lt_of_cell? _ _ (hHeld.2.2.2))).trans (hHeld.2.2.2)
    refine ⟨_, rfl, ?_⟩
    replace HO_1487002 := Z.rb HO_1487002 hb
    have HO1505 := Z.k (Kd.R_lower (Kd.R_new' (Kd.R_new' (Kd.R_new' (Kd.R_new' ho0 (Kd.R_lt HO_4.out)) (Kd.R_lt HO_5.out)) (Kd.R_lt HO_8.out)) (Kd.R_lt HO_1487001.out)) (below_size (Z.bs HB.out GE1486.out)))
    replace HO_4 := Z.k (Kd.R_elder' HO_4.out (Kd.R_base ho0) hb)
    replace HO_5 := Z.k (Kd.R_elder' HO_5.out (Kd.R_base ho0) hb)
    replace HO_8 := Z.k (Kd.R_elder' HO_8.out (Kd.R_base ho0) hb)
    replace HO_1487001 := Z.k (Kd.R_elder' HO_1487001.out (Kd.R_base ho0) hb)
    replace BK1486 := Z.bb BK1486 hb
    replace HB := Z.st (Z.bs HB.out GE1486.out) hb
    (try clear hb)
    (try clear ho0)
    obtain ⟨Ao52, co52, eo52⟩ := Kd.R_slice HO1505.out
    (subst eo52)
    refine hK.out _ _ ⟨Z.b BK1486 0, Z.b BK1486 1, Z.b BK1486 2, HS3_⟩ (fun hHeld => ?_)
    clear hK K
    refine Z.nm ?_
    refine one_ (i := 11) (N := some 83) (Z.mb 15 4095) rfl rfl (one_of HT_.out (by kernel_rfl)) (by decide) (fun K hK => ?_)
    refine goes_ Try.func48 (by kernel_rfl) rfl #[.agg #[.int .i64 t1476, .slice Ao13 t1477.length co13, .slice Ao14 t1480.length co14], .slice Ao15 t1483.length co15, .slice Ao52 t1503.length co52] (by rfl) rfl rfl Z.ar ?_
    with_reducible refine (impl_AmendersOf.calls k2 t1476 _ _ t1477 _ _ t1480 _ _ t1483 _ _ t1503 t1506 _ ?q1 ?q2 ?q3 ?q4 ?q5 ?q6 ?q7 ?q8 A41.out).mono ?_
    (case q1 => exact (Kd.R_reads' HO_1487001.out).2.2)
    (case q2 => exact (Kd.R_reads' HO_1487001.out).2.1)
    (case q3 => exact (Kd.R_reads' HO_1487002.out).2.2)
    (case q4 => exact (Kd.R_reads' HO_1487002.out).2.1)
    (case q5 => exact (Kd.R_reads' HO_4.out).2.2)
    (case q6 => exact (Kd.R_reads' HO_4.out).2.1)
    (case q7 => exact (Kd.R_reads' HO1505.out).2.2)
    (case q8 => exact (Kd.R_reads' HO1505.out).2.1)
    rintro e w53 ⟨v1507, rfl, ho0, hb⟩
    have HS3_ := (hb.cell (World.block_lt_of_cell? _ _ (hHeld.2.2.2))).trans (hHeld.2.2.2)
    refine ⟨_, rfl, ?_⟩
    replace HO_1487002 := Z.rb HO_1487002 hb
    have HO1508 := Z.k (Kd.R_lower (Kd.R_new' (Kd.R_new' (Kd.R_new' (Kd.R_new' (Kd.R_new' ho0 (Kd.R_lt HO_4.out)) (Kd.R_lt HO_5.out)) (Kd.R_lt HO_8.out)) (Kd.R_lt HO_1487001.out)) (Kd.R_lt HO1505.out)) (below_size (Z.bs HB.out GE1486.out)))
    replace HO_4 := Z.k (Kd.R_elder' HO_4.out (Kd.R_base ho0) hb)
    replace HO_5 := Z.k (Kd.R_elder' HO_5.out (Kd.R_base ho0) hb)
    replace HO_8 := Z.k (Kd.R_elder' HO_8.out (Kd.R_base ho0) hb)
    replace HO_1487001 := Z.k (Kd.R_elder' HO_1487001.out (Kd.R_base ho0) hb)
    replace HO1505 := Z.k (Kd.R_elder' HO1505.out (Kd.R_base ho0) hb)
    replace BK1486 := Z.bb BK1486 hb
    replace HB := Z.st (Z.bs HB.out GE1486.out) hb
    (try clear hb)
    (try clear ho0)
    obtain ⟨Ao54, co54, eo54⟩ := Kd.R_slice HO1508.out
    (subst eo54)
    refine hK.out _ _ ⟨Z.b BK1486 0, Z.b BK1486 1, Z.b BK1486 2, HS3_⟩ (fun hHeld => ?_)
    clear hK K
    refine Z.nm ?_
    refine Z.pv 12 84 15 8191 HT_.out ?_
    refine Z.pv 13 85 15 16383 HT_.out ?_
    refine Z.pv 14 86 15 32767 HT_.out ?_
    refine done_ (done_of HT_.out (by kernel_rfl)) ?_
    try go_wp2_with (((with_reducible refine gate_callee (f := 39) rfl ?_); refine goesL_ (some 88) rfl rfl Try.func39 (by kernel_rfl) rfl #[.slice (some ad1502) t1487.length co19] rfl Z.ar ?_; (with_reducible refine (laws_ascend.calls k2 _ _ t1487 true _ ?q1 ?q2 A48.out).mono ?_); (case q1 => exact (Kd.R_reads' HO_5.out).2.2); (case q2 => exact (Kd.R_reads' HO_5.out).2.1); rintro e w' ⟨rfl, ⟨nd, rfl⟩⟩; refine ⟨_, rfl, ?_⟩; obtain ⟨Ao55, co55, eo55⟩ := Kd.R_slice HO_8.out; subst eo55))
    go_ret
    exact ⟨by rfl, Z.bs HB.out GE1486.out⟩
   replace c49 := Bool.eq_false_iff.mpr c49
   subst c49
   rw [if_neg (show ¬ (false = true) by decide)] at H
   obtain rfl := Option.some.inj H
   try go_wp2
   replace HO_4 := Z.k (Kd.R_drew HO_4.out)
   replace HO_5 := Z.k (Kd.R_drew HO_5.out)
   replace HO_8 := Z.k (Kd.R_drew HO_8.out)
   replace HO_1487001 := Z.k (Kd.R_drew HO_1487001.out)
   replace HO_1487002 := Z.k (Kd.R_drew HO_1487002.out)
   replace BK1486 := Z.k (blk_drew BK1486.out)
   replace HB := Z.k (below_drew1 HB.out)
   have p1502 : 0 ≤ (0 : Int) := (by omega)
   have q1502 : 0 < (t1487.length : Int) := Z.od
   obtain ⟨ad1502, e1502, hx1502_0⟩ := Kd.at_int (Kd.R_reads' HO_5.out).2.2 0 p1502 q1502
   cases e1502
   have qi1502 : (0 < t1487.length) = True := eq_true (by omega)
   (try rw [show ((0 : Int)).toNat = 0 from rfl] at hx1502_0)
   (try rw [Addr.add_zero'] at hx1502_0)
   replace p1502 := eq_true p1502
   replace q1502 := eq_true q1502
   refine start_ (n := 15) (S := fun w' => w'.cell? ⟨gb1486, 0, none⟩ = some (.int .i64 t1476) ∧ w'.cell? ⟨gb1486, 1, none⟩ = some (.slice Ao13 t1477.length co13) ∧ w'.cell? ⟨gb1486, 2, none⟩ = some (.slice Ao14 t1480.length co14) ∧ w'.cell? ad1502 = some (.int .i64 (rd t1487 0))) (ds := []) (Z.mb 15 0) (by kernel_rfl) rfl rfl ⟨Z.b BK1486 0, Z.b BK1486 1, Z.b BK1486 2, hx1502_0⟩ (fun hHeld => ?_); refine with_tabW laws_FnNeverOf.tab20 laws_FnNeverOf.bits20 (fun HT_ HW_ => ?_)
   generalize wr.drew = w56 at HO_4 HO_5 HO_8 HO_1487001 HO_1487002 BK1486 HB hx1502_0 hHeld ⊢
   refine Z.pv 0 72 15 1 HT_.out ?_
   refine Z.pv 1 73 15 3 HT_.out ?_
   refine Z.pv 2 74 15 7 HT_.out ?_
   refine Z.pv 3 75 15 15 HT_.out ?_
   refine Z.pv 5 77 15 47 HT_.out ?_
   refine Z.pv 7 79 15 175 HT_.out ?_
   refine Z.pv 8 80 15 431 HT_.out ?_
   refine Z.t4 4 76 15 447 HT_.out HW_.out hHeld ?_
   refine Z.t4 6 78 15 511 HT_.out HW_.out hHeld ?_
   refine Z.t4 9 81 15 1023 HT_.out HW_.out hHeld ?_
   refine one_ (i := 10) (N := some 82) (Z.mb 15 2047) rfl rfl (one_of HT_.out (by kernel_rfl)) (by decide) (fun K hK => ?_)
   refine goes_ Try.func38 (by kernel_rfl) rfl #[.agg #[.int .i64 t1476, .slice Ao13 t1477.length co13, .slice Ao14 t1480.length co14], .int .i64 (rd t1487 0)] (by rfl) rfl rfl Z.ar ?_
   with_reducible refine (laws_stateOf.calls k2 t1476 _ _ t1477 _ _ t1480 (rd t1487 0) t1503 _ ?q1 ?q2 ?q3 ?q4 A40.out).mono ?_
   (case q1 => exact (Kd.R_reads' HO_1487001.out).2.2)
   (case q2 => exact (Kd.R_reads' HO_1487001.out).2.1)
   (case q3 => exact (Kd.R_reads' HO_1487002.out).2.2)
   (case q4 => exact (Kd.R_reads' HO_1487002.out).2.1)
   rintro e w57 ⟨v1504, rfl, ho0, hb⟩
   have HS3_ := (hb.cell (World.block_lt_of_cell? _ _ (hHeld.2.2.2))).trans (hHeld.2.2.2)
   refine ⟨_, rfl, ?_⟩
   replace HO_1487002 := Z.rb HO_1487002 hb
   have HO1505 := Z.k (Kd.R_lower (Kd.R_new' (Kd.R_new' (Kd.R_new' (Kd.R_new' ho0 (Kd.R_lt HO_4.out)) (Kd.R_lt HO_5.out)) (Kd.R_lt HO_8.out)) (Kd.R_lt HO_1487001.out)) (below_size (Z.bs HB.out GE1486.out)))
   replace HO_4 := Z.k (Kd.R_elder' HO_4.out (Kd.R_base ho0) hb)
   replace HO_5 := Z.k (Kd.R_elder' HO_5.out (Kd.R_base ho0) hb)
   replace HO_8 := Z.k (Kd.R_elder' HO_8.out (Kd.R_base ho0) hb)
   replace HO_1487001 := Z.k (Kd.R_elder' HO_1487001.out (Kd.R_base ho0) hb)
   replace BK1486 := Z.bb BK1486 hb
   replace HB := Z.st (Z.bs HB.out GE1486.out) hb
   (try clear hb)
   (try clear ho0)
   obtain ⟨Ao58, co58, eo58⟩ := Kd.R_slice HO1505.out
   (subst eo58)
   refine hK.out _ _ ⟨Z.b BK1486 0, Z.b BK1486 1, Z.b BK1486 2, HS3_⟩ (fun hHeld => ?_)
   clear hK K
   refine Z.nm ?_
   refine one_ (i := 11) (N := some 83) (Z.mb 15 4095) rfl rfl (one_of HT_.out (by kernel_rfl)) (by decide) (fun K hK => ?_)
   refine goes_ Try.func48 (by kernel_rfl) rfl #[.agg #[.int .i64 t1476, .slice Ao13 t1477.length co13, .slice Ao14 t1480.length co14], .slice Ao15 t1483.length co15, .slice Ao58 t1503.length co58] (by rfl) rfl rfl Z.ar ?_
   with_reducible refine (impl_AmendersOf.calls k2 t1476 _ _ t1477 _ _ t1480 _ _ t1483 _ _ t1503 t1506 _ ?q1 ?q2 ?q3 ?q4 ?q5 ?q6 ?q7 ?q8 A41.out).mono ?_
   (case q1 => exact (Kd.R_reads' HO_1487001.out).2.2)
   (case q2 => exact (Kd.R_reads' HO_1487001.out).2.1)
   (case q3 => exact (Kd.R_reads' HO_1487002.out).2.2)
   (case q4 => exact (Kd.R_reads' HO_1487002.out).2.1)
   (case q5 => exact (Kd.R_reads' HO_4.out).2.2)
   (case q6 => exact (Kd.R_reads' HO_4.out).2.1)
   (case q7 => exact (Kd.R_reads' HO1505.out).2.2)
   (case q8 => exact (Kd.R_reads' HO1505.out).2.1)
   rintro e w59 ⟨v1507, rfl, ho0, hb⟩
   have HS3_ := (hb.cell (World.block_lt_of_cell? _ _ (hHeld.2.2.2))).trans (hHeld.2.2.2)
   refine ⟨_, rfl, ?_⟩
   replace HO_1487002 := Z.rb HO_1487002 hb
   have HO1508 := Z.k (Kd.R_lower (Kd.R_new' (Kd.R_new' (Kd.R_new' (Kd.R_new' (Kd.R_new' ho0 (Kd.R_lt HO_4.out)) (Kd.R_lt HO_5.out)) (Kd.R_lt HO_8.out)) (Kd.R_lt HO_1487001.out)) (Kd.R_lt HO1505.out)) (below_size (Z.bs HB.out GE1486.out)))
   replace HO_4 := Z.k (Kd.R_elder' HO_4.out (Kd.R_base ho0) hb)
   replace HO_5 := Z.k (Kd.R_elder' HO_5.out (Kd.R_base ho0) hb)
   replace HO_8 := Z.k (Kd.R_elder' HO_8.out (Kd.R_base ho0) hb)
   replace HO_1487001 := Z.k (Kd.R_elder' HO_1487001.out (Kd.R_base ho0) hb)
   replace HO1505 := Z.k (Kd.R_elder' HO1505.out (Kd.R_base ho0) hb)
   replace BK1486 := Z.bb BK1486 hb
   replace HB := Z.st (Z.bs HB.out GE1486.out) hb
   (try clear hb)
   (try clear ho0)
   obtain ⟨Ao60, co60, eo60⟩ := Kd.R_slice HO1508.out
   (subst eo60)
   refine hK.out _ _ ⟨Z.b BK1486 0, Z.b BK1486 1, Z.b BK1486 2, HS3_⟩ (fun hHeld => ?_)
   clear hK K
   refine Z.nm ?_
   refine Z.pv 12 84 15 8191 HT_.out ?_
   refine Z.pv 13 85 15 16383 HT_.out ?_
   refine Z.pv 14 86 15 32767 HT_.out ?_
   refine done_ (done_of HT_.out (by kernel_rfl)) ?_
   try go_wp2_with (((with_reducible refine gate_callee (f := 39) rfl ?_); refine goesL_ (some 88) rfl rfl Try.func39 (by kernel_rfl) rfl #[.slice (some ad1502) t1487.length co19] rfl Z.ar ?_; (with_reducible refine (laws_ascend.calls k2 _ _ t1487 false _ ?q1 ?q2 A48.out).mono ?_); (case q1 => exact (Kd.R_reads' HO_5.out).2.2); (case q2 => exact (Kd.R_reads' HO_5.out).2.1); rintro e w' ⟨rfl, ⟨nd, rfl⟩⟩; refine ⟨_, rfl, ?_⟩))
   go_ret
   exact ⟨by rfl, Z.bs HB.out GE1486.out⟩
/-- THE ONE PURE STATEMENT of laws_FnNeverOf: yours. -/
def laws_FnNeverOf.Pure : Prop := ∀ (l0 : List Int), l0.length ≤ maxLen → l0.length * 1 ≤ 140737488351232 → (∀ x ∈ l0, (Lit.int .u8 x).wf = true) → ∃ k, laws_FnNeverOf.f k l0 = some true
theorem laws_FnNeverOf.walk (P : laws_FnNeverOf.Pure) (a0 : Option Addr) (len0 cap0 : Nat) (z0 : List Int) (w : World) (w0 : (a0 = none ∧ len0 = 0 ∧ cap0 = 0 ∧ z0 = []) ∨ ∃ x, a0 = some x ∧ len0 ≤ cap0 ∧ cap0 ≤ maxLen ∧ z0.length = cap0 ∧ (∀ i, i < z0.length → w.cell? (x.add i) = some (.int .u8 (z0.getD i 0))) ∧ ∀ n ∈ z0, (Lit.int .u8 n).wf = true) (y0 : len0 * 1 ≤ 140737488351232) :
  Calls Try.prog 14 #[.slice a0 len0 cap0] w fun e w' => e = .returned (.bool true) ∧ Below w.heap.size w w' := by
 obtain ⟨l0, rfl, hr0, hm0, hw0, hc0⟩ := ReadsInt.ofRowC w0
 obtain ⟨k, h⟩ := P l0 hm0 y0 hw0
 refine (laws_FnNeverOf.calls k _ _ l0 true w (Kd.C_of_reads (d := (0 : Int)) (h1 := fun _ => rfl) hr0) hc0 h).mono ?_
 rintro e w' ⟨rfl, hd⟩
 exact ⟨rfl, hd⟩

end Go.Proofs.Ytkogboechfieeaa.PAll

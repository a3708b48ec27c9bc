/- Walks of functions that laws of this seat reach, in the form of the print. -/
import Derived.Test.YtkogboechfieeaaCAll25
import Derived.Test.YtkogboechfieeaaCAll26
import Derived.Test.YtkogboechfieeaaCAll27
import Derived.Test.YtkogboechfieeaaCAll46
import Derived.Test.YtkogboechfieeaaCAll72
-- PRINTED
namespace Go.Proofs.Ytkogboechfieeaa.PAll
open Go.RowKit Go.Proofs.YtkogboechfieeaaW.PrintWords Go.Proofs.YtkogboechfieeaaW.PrintLast Go.Proofs.YtkogboechfieeaaW.PrintMore
attribute [local go_sem] max2_int min2_int max_two min_two max_three min_three max_four min_four
set_option linter.unusedVariables false
set_option linter.unusedSimpArgs false

/-! ### laws_FnAfterActs: function 6 -/
mutual
def laws_FnAfterActs.j0 : Nat → List Int → List (S59) → List Int → Int → Bool → Int → List Int → List (List (S37)) → Option (Bool)
 | 0, _, _, _, _, _, _, _, _ => none
 | k + 1, x4, x5, x6, x7, x49, x870000, x870001, x870002 => if x49 = true then (some false) else (if x7 < 0 then (if x7 = (-1) then (if (x6.length : Int) = 0 then ((laws_alive.f).bind fun t879 => (some t879)) else (some false)) else (some false)) else (if 0 ≤ (wrap64 ((x5.length : Int) / 2)) then (if (wrap64 ((x5.length : Int) / 2)) ≤ (x5.length : Int) then ((impl_AfterActs.f k x870000 x870001 x870002 x4 (x5.take ((wrap64 ((x5.length : Int) / 2)) : Int).toNat)).bind fun bt884 => ((impl_AfterActs.f k x870000 x870001 x870002 bt884.1 (x5.drop ((wrap64 ((x5.length : Int) / 2)) : Int).toNat)).bind fun bt892 => ((impl_ValidActs.f k x870000 x870001 x870002 x4 x5).bind fun t896 => (laws_FnAfterActs.l0 k x4 x6 x7 bt884.2 bt892.1 bt892.2 t896 0 0 x870000 x870001 x870002)))) else (none)) else (none)))
def laws_FnAfterActs.l0 : Nat → List Int → List Int → Int → Int → List Int → Int → List (S59) → Int → Int → Int → List Int → List (List (S37)) → Option (Bool)
 | 0, _, _, _, _, _, _, _, _, _, _, _, _ => none
 | k + 1, x4, x6, x7, x12, x13, x14, x15, x16, x17, x870000, x870001, x870002 => if x17 < (x15.length : Int) then (if 0 ≤ x17 then (laws_FnAfterActs.l0 k x4 x6 x7 x12 x13 x14 x15 (Go.bits .or .i64 x16 ((rd_T59 x15 x17).f2)) (wrap64 (x17 + 1)) x870000 x870001 x870002) else (none)) else ((impl_StateOk.f k x870000 x870001 x870002 x6).bind fun t900 => (if t900 = true then ((laws_sameInts.f k x13 x6).bind fun t901 => (if t901 = true then (if (wrap64 (x12 + x14)) = x7 then ((impl_ReachOf.f k x870000 x870001 x870002 x4 x16).bind fun t902 => ((impl_StateNumber.f k x870000 x870001 x870002 x6).bind fun t905 => ((laws_hasInt.f k t902 t905).bind fun t906 => (if t906 = true then (some ((x15.length : Int) == x7)) else (some false))))) else (some false)) else (some false))) else (some false)))
end
def laws_FnAfterActs.f (k : Nat) (l0 : List Int) : Option (Bool) := if (l0.length : Int) > 1048576 then (some true) else ((spec_DrawAfterActs.f k l0).bind fun bt856 => ((impl_AfterActs.f k bt856.1 bt856.2.1 bt856.2.2.1 bt856.2.2.2.1 bt856.2.2.2.2).bind fun bt870 => ((spec_AfterActs.f k bt856.1 bt856.2.1 bt856.2.2.1 bt856.2.2.2.1 bt856.2.2.2.2).bind fun bt874 => ((laws_sameInts.f k bt870.1 bt874.1).bind fun t878 => (if t878 = true then (laws_FnAfterActs.j0 k bt856.2.2.2.1 bt856.2.2.2.2 bt870.1 bt870.2 (bt870.2 != bt874.2) bt856.1 bt856.2.1 bt856.2.2.1) else (laws_FnAfterActs.j0 k bt856.2.2.2.1 bt856.2.2.2.2 bt870.1 bt870.2 true bt856.1 bt856.2.1 bt856.2.2.1))))))
def laws_FnAfterActs.T11 : Bool × List (List Nat × List Nat) := (true, [([], []), ([], []), ([], []), ([], []), ([2, 3], [2, 3]), ([0, 1, 4], [0, 1, 4]), ([5], [5]), ([6], [6]), ([6], [6]), ([7, 5, 0, 1, 2, 3, 4, 5, 6, 7], [7]), ([8, 9, 0, 1, 2, 3, 4, 5, 6, 7, 8, 9], [8])])
def laws_FnAfterActs.B11 : List Nat := [0, 0, 0, 0, 12, 31, 63, 127, 127, 255, 1023]
theorem laws_FnAfterActs.tab11 : rtab .any (opsOf Try.f6 11) = laws_FnAfterActs.T11 := by kernel_rfl
theorem laws_FnAfterActs.bits11 : waitsOk laws_FnAfterActs.T11.2 laws_FnAfterActs.B11 = true := by kernel_rfl
def laws_FnAfterActs.T12 : Bool × List (List Nat × List Nat) := (true, [([], []), ([], []), ([], []), ([], []), ([2, 3], [2, 3]), ([0, 1, 4], [0, 1, 4]), ([5], [5]), ([6], [6]), ([6], [6]), ([7, 5, 0, 1, 2, 3, 4, 5, 6, 7], [7]), ([8, 9, 0, 1, 2, 3, 4, 5, 6, 7, 8, 9], [8])])
def laws_FnAfterActs.B12 : List Nat := [0, 0, 0, 0, 12, 31, 63, 127, 127, 255, 1023]
theorem laws_FnAfterActs.tab12 : rtab .any (opsOf Try.f6 12) = laws_FnAfterActs.T12 := by kernel_rfl
theorem laws_FnAfterActs.bits12 : waitsOk laws_FnAfterActs.T12.2 laws_FnAfterActs.B12 = true := by kernel_rfl
def laws_FnAfterActs.T19 : Bool × List (List Nat × List Nat) := (true, [([], []), ([], []), ([0, 1], [0, 1]), ([2, 2], [2]), ([3], [3]), ([3], [3]), ([4, 5, 3, 3], [3, 4, 5]), ([3, 6], [3, 6]), ([7, 6], [7]), ([8], [8]), ([8], [8]), ([9, 10, 8], [8, 9, 10]), ([8], [8]), ([11, 12, 8], [8, 11, 12]), ([8, 13], [8, 13]), ([14, 8], [14]), ([15], [15]), ([15], [15]), ([15], [15]), ([16, 17, 18, 15, 15], [15, 16, 17, 18]), ([15], [15]), ([15], [15]), ([20, 21, 19, 15], [15, 20, 21]), ([19, 22, 22, 15], [15, 19, 22]), ([15, 23], [15, 23]), ([24, 23], [24]), ([25], [25]), ([26, 25], [25, 26]), ([25], [25]), ([27, 28, 25], [25, 27, 28]), ([25, 29], [25, 29]), ([30, 25, 0, 1, 2, 3, 4, 5, 6, 7, 8, 9, 10, 11, 12, 13, 14, 15, 16, 17, 18, 19, 20, 21, 22, 23, 24, 25, 26, 27, 28, 29, 30], [30])])
def laws_FnAfterActs.B19 : List Nat := [0, 0, 3, 7, 15, 15, 63, 127, 255, 511, 511, 2047, 511, 8191, 16383, 32767, 65535, 65535, 65535, 524287, 65535, 65535, 4194303, 8388607, 16777215, 33554431, 67108863, 134217727, 67108863, 536870911, 1073741823, 2147483647]
theorem laws_FnAfterActs.tab19 : rtab .any (opsOf Try.f6 19) = laws_FnAfterActs.T19 := by kernel_rfl
theorem laws_FnAfterActs.bits19 : waitsOk laws_FnAfterActs.T19.2 laws_FnAfterActs.B19 = true := by kernel_rfl
set_option maxHeartbeats 8000000 in
set_option maxRecDepth 100000 in
theorem laws_FnAfterActs.calls (k : Nat) (A0 : Option Addr) (c0 : Nat) (l0 : List Int) (r : Bool) (w : World) (hr0 : Kd.C (Kd.int .u8) w A0 l0.length l0) (hc0 : l0.length ≤ c0) (h : laws_FnAfterActs.f k l0 = some r) :
  Calls Try.prog 6 #[.slice A0 l0.length c0] w fun e w' => e = .returned (.bool r) ∧ Below w.heap.size w w' := by
 have hu28 := Try.underlying28
 have HR0 := Z.k hr0
 have HC0 := Z.k hc0
 clear hr0 hc0
 have HB := Z.k (Below.refl w.heap.size w)
 have H := h
 clear h
 unfold laws_FnAfterActs.f at H
 by_cases c2 : (l0.length : Int) > 1048576
 ·rw [if_pos c2] at H
  have c2b0 : decide (1048576 < (l0.length : Int)) = true := decide_eq_true c2
  have c2b1 : decide (1048576 < l0.length) = true := decide_eq_true (by omega)
  clear c2
  obtain rfl := Option.some.inj H
  go_enter Try.func6, Try.ntmps6
  go_wp2
  go_ret
  exact ⟨by rfl, Z.bl HB.out⟩
 rw [if_neg c2] at H
 have c2b0 : decide (1048576 < (l0.length : Int)) = false := decide_eq_false c2
 have c2b1 : decide (1048576 < l0.length) = false := decide_eq_false (by omega)
 clear c2
 revert H; refine Z.bd ?_; rintro ⟨t856, t857, t860, t863, t866⟩ A3 H
 try dsimp only at H
 revert H; refine Z.bd ?_; rintro ⟨t870, t873⟩ A4 H
 try dsimp only at H
 revert H; refine Z.bd ?_; rintro ⟨t874, t877⟩ A5 H
 try dsimp only at H
 have HC6 := Z.k H
 clear H
 go_enter Try.func6, Try.ntmps6
 go_upto_region 6 with (first | ((with_reducible refine gate_callee (f := 31) rfl ?_); refine goesL_ (some 23) rfl rfl Try.func31 (by kernel_rfl) rfl #[.slice A0 l0.length c0] rfl Z.ar ?_; (with_reducible refine (spec_DrawAfterActs.calls k _ _ l0 t856 t857 t860 t863 t866 _ ?q1 ?q2 A3.out).mono ?_); (case q1 => repeat (exact HR0.out)); (case q2 => exact HC0.out); rintro e w7 ⟨v858, v861, v864, v867, rfl, ho0, ho1, ho2, ho3, hb⟩; refine ⟨_, rfl, ?_⟩; have HO859 := Z.k (Kd.R_lower ho0 (below_size (Z.bl HB.out))); have HO862 := Z.k (Kd.R_lower ho1 (below_size (Z.bl HB.out))); have HO865 := Z.k (Kd.R_lower ho2 (below_size (Z.bl HB.out))); have HO868 := Z.k (Kd.R_lower ho3 (below_size (Z.bl HB.out))); replace HB := Z.st (Z.bl HB.out) hb; (try clear hb); (try clear ho0); (try clear ho1); (try clear ho2); (try clear ho3)) | ((with_reducible refine gate_dst (N := 3) rfl ?_); (try (refine gate_guard (by rfl) ?_; dsimp only)); refine Z.bx #[.int .i64 0, .slice none 0 0, .slice none 0 0] 28 HB ?_; clear HB; intro gb869 w8 BK869 GE869 HB hg hb; have GW869 := GE869; replace HO859 := Z.rb HO859 hb; replace HO862 := Z.rb HO862 hb; replace HO865 := Z.rb HO865 hb; replace HO868 := Z.rb HO868 hb; clear hb hg; have hcz9 := Z.c3 BK869.out; obtain ⟨Ao10, co10, eo10⟩ := Kd.R_slice HO859.out; subst eo10; obtain ⟨Ao11, co11, eo11⟩ := Kd.R_slice HO862.out; subst eo11; obtain ⟨Ao12, co12, eo12⟩ := Kd.R_slice HO865.out; subst eo12; obtain ⟨Ao13, co13, eo13⟩ := Kd.R_slice HO868.out; subst eo13) | ((with_reducible refine gate_callee (f := 32) rfl ?_); refine goesL_ (some 31) rfl rfl Try.func32 (by kernel_rfl) rfl #[.agg #[.int .i64 t856, .slice Ao10 t857.length co10, .slice Ao11 t860.length co11], .slice Ao12 t863.length co12, .slice Ao13 t866.length co13] rfl Z.ar ?_; (with_reducible refine (impl_AfterActs.calls k t856 _ _ t857 _ _ t860 _ _ t863 _ _ t866 t870 t873 _ ?q1 ?q2 ?q3 ?q4 ?q5 ?q6 ?q7 ?q8 A4.out).mono ?_); (case q1 => refine (Kd.R_reads' (e := 3) (base := w.heap.size) (ok := fun k_ => some k_ ≠ (.slice Ao12 t863.length co12 : Value).ownBlock) (n := t857.length) (c := co10) ?_).2.2; exact (by (with_reducible skip); exact (Kd.R_mono (Kd.R_far (p := ⟨gb869, 2, none⟩) (Kd.R_far (p := ⟨gb869, 1, none⟩) (Kd.R_far (p := ⟨gb869, 0, none⟩) (Kd.R_types HO859.out BK869.out (by decide)) (fun _ hk => hk.2) (.int .i64 t856)) (fun _ hk => hk.2) (.slice Ao10 t857.length co10)) (fun _ hk => hk.2) (.slice Ao11 t860.length co11)) (fun _ h_ => h_.1)))); (case q2 => exact (Kd.R_reads' HO859.out).2.1); (case q3 => refine (Kd.R_reads' (e := 34) (base := w.heap.size) (ok := fun k_ => True) (n := t860.length) (c := co11) ?_).2.2; exact (by (with_reducible skip); exact (Kd.R_mono (Kd.R_far (p := ⟨gb869, 2, none⟩) (Kd.R_far (p := ⟨gb869, 1, none⟩) (Kd.R_far (p := ⟨gb869, 0, none⟩) (Kd.R_types HO862.out BK869.out (by decide)) (fun _ hk => hk.2) (.int .i64 t856)) (fun _ hk => hk.2) (.slice Ao10 t857.length co10)) (fun _ hk => hk.2) (.slice Ao11 t860.length co11)) (fun _ h_ => h_.1)))); (case q4 => exact (Kd.R_reads' HO862.out).2.1); (case q5 => refine (Kd.R_reads' (e := 3) (base := w.heap.size) (ok := fun k_ => some k_ ≠ (.slice Ao10 t857.length co10 : Value).ownBlock) (n := t863.length) (c := co12) ?_).2.2; exact (by (with_reducible skip); exact (Kd.R_mono (Kd.R_far (p := ⟨gb869, 2, none⟩) (Kd.R_far (p := ⟨gb869, 1, none⟩) (Kd.R_far (p := ⟨gb869, 0, none⟩) (Kd.R_types HO865.out BK869.out (by decide)) (fun _ hk => hk.2) (.int .i64 t856)) (fun _ hk => hk.2) (.slice Ao10 t857.length co10)) (fun _ hk => hk.2) (.slice Ao11 t860.length co11)) (fun _ h_ => h_.1)))); (case q6 => exact (Kd.R_reads' HO865.out).2.1); (case q7 => refine (Kd.R_reads' (e := 59) (base := w.heap.size) (ok := fun k_ => True) (n := t866.length) (c := co13) ?_).2.2; exact (by (with_reducible skip); exact (Kd.R_mono (Kd.R_far (p := ⟨gb869, 2, none⟩) (Kd.R_far (p := ⟨gb869, 1, none⟩) (Kd.R_far (p := ⟨gb869, 0, none⟩) (Kd.R_types HO868.out BK869.out (by decide)) (fun _ hk => hk.2) (.int .i64 t856)) (fun _ hk => hk.2) (.slice Ao10 t857.length co10)) (fun _ hk => hk.2) (.slice Ao11 t860.length co11)) (fun _ h_ => h_.1)))); (case q8 => exact (Kd.R_reads' HO868.out).2.1); rintro e w14 ⟨v871, rfl, ho0, hb⟩; refine ⟨_, rfl, ?_⟩; replace HO862 := Z.k (Kd.R_below (by (with_reducible skip); exact (Kd.R_mono (Kd.R_far (p := ⟨gb869, 2, none⟩) (Kd.R_far (p := ⟨gb869, 1, none⟩) (Kd.R_far (p := ⟨gb869, 0, none⟩) (Kd.R_types HO862.out BK869.out (by decide)) (fun _ hk => hk.2) (.int .i64 t856)) (fun _ hk => hk.2) (.slice Ao10 t857.length co10)) (fun _ hk => hk.2) (.slice Ao11 t860.length co11)) (fun _ h_ => h_.1))) hb); replace HO868 := Z.k (Kd.R_below (by (with_reducible skip); exact (Kd.R_mono (Kd.R_far (p := ⟨gb869, 2, none⟩) (Kd.R_far (p := ⟨gb869, 1, none⟩) (Kd.R_far (p := ⟨gb869, 0, none⟩) (Kd.R_types HO868.out BK869.out (by decide)) (fun _ hk => hk.2) (.int .i64 t856)) (fun _ hk => hk.2) (.slice Ao10 t857.length co10)) (fun _ hk => hk.2) (.slice Ao11 t860.length co11)) (fun _ h_ => h_.1))) hb); have HO872 := Z.k (Kd.R_lower (Kd.R_new' (Kd.R_new' ho0 (Kd.R_lt (by (with_reducible skip); exact (Kd.R_mono (Kd.R_far (p := ⟨gb869, 2, none⟩) (Kd.R_far (p := ⟨gb869, 1, none⟩) (Kd.R_far (p := ⟨gb869, 0, none⟩) (Kd.R_types HO859.out BK869.out (by decide)) (fun _ hk => hk.2) (.int .i64 t856)) (fun _ hk => hk.2) (.slice Ao10 t857.length co10)) (fun _ hk => hk.2) (.slice Ao11 t860.length co11)) (fun _ h_ => h_.1))))) (Kd.R_lt (by (with_reducible skip); exact (Kd.R_mono (Kd.R_far (p := ⟨gb869, 2, none⟩) (Kd.R_far (p := ⟨gb869, 1, none⟩) (Kd.R_far (p := ⟨gb869, 0, none⟩) (Kd.R_types HO865.out BK869.out (by decide)) (fun _ hk => hk.2) (.int .i64 t856)) (fun _ hk => hk.2) (.slice Ao10 t857.length co10)) (fun _ hk => hk.2) (.slice Ao11 t860.length co11)) (fun _ h_ => h_.1))))) (below_size (Z.bs HB.out GE869.out))); replace HO859 := Z.k (Kd.R_elder' (by (with_reducible skip); exact (Kd.R_mono (Kd.R_far (p := ⟨gb869, 2, none⟩) (Kd.R_far (p := ⟨gb869, 1, none⟩) (Kd.R_far (p := ⟨gb869, 0, none⟩) (Kd.R_types HO859.out BK869.out (by decide)) (fun _ hk => hk.2) (.int .i64 t856)) (fun _ hk => hk.2) (.slice Ao10 t857.length co10)) (fun _ hk => hk.2) (.slice Ao11 t860.length co11)) (fun _ h_ => h_.1))) (Kd.R_base ho0) hb); replace HO865 := Z.k (Kd.R_elder' (by (with_reducible skip); exact (Kd.R_mono (Kd.R_far (p := ⟨gb869, 2, none⟩) (Kd.R_far (p := ⟨gb869, 1, none⟩) (Kd.R_far (p := ⟨gb869, 0, none⟩) (Kd.R_types HO865.out BK869.out (by decide)) (fun _ hk => hk.2) (.int .i64 t856)) (fun _ hk => hk.2) (.slice Ao10 t857.length co10)) (fun _ hk => hk.2) (.slice Ao11 t860.length co11)) (fun _ h_ => h_.1))) (Kd.R_base ho0) hb); replace BK869 := Z.k (blk_below (g := gb869) (o := .cells #[.int .i64 t856, .slice Ao10 t857.length co10, .slice Ao11 t860.length co11] 28 (0, 0)) (by (with_reducible skip); refine blk_put (cs := #[.int .i64 t856, .slice Ao10 t857.length co10, .slice none 0 0]) ?_ 2 _ rfl; (with_reducible skip); refine blk_put (cs := #[.int .i64 t856, .slice none 0 0, .slice none 0 0]) ?_ 1 _ rfl; (with_reducible skip); refine blk_put (cs := #[.int .i64 0, .slice none 0 0, .slice none 0 0]) ?_ 0 _ rfl; (with_reducible skip); exact BK869.out) hb); replace HB := Z.st (Z.bs HB.out GE869.out) hb; (try clear hb); (try clear ho0); have hcz15 := Z.c3 BK869.out) | ((with_reducible refine gate_callee (f := 33) rfl ?_); refine goesL_ (some 38) rfl rfl Try.func33 (by kernel_rfl) rfl #[.agg #[.int .i64 t856, .slice Ao10 t857.length co10, .slice Ao11 t860.length co11], .slice Ao12 t863.length co12, .slice Ao13 t866.length co13] rfl Z.ar ?_; (with_reducible refine (spec_AfterActs.calls k t856 _ _ t857 _ _ t860 _ _ t863 _ _ t866 t874 t877 _ ?q1 ?q2 ?q3 ?q4 ?q5 ?q6 ?q7 ?q8 A5.out).mono ?_); (case q1 => repeat (exact (Kd.R_reads' HO859.out).2.2)); (case q2 => exact (Kd.R_reads' HO859.out).2.1); (case q3 => repeat (exact (Kd.R_reads' HO862.out).2.2)); (case q4 => exact (Kd.R_reads' HO862.out).2.1); (case q5 => repeat (exact (Kd.R_reads' HO865.out).2.2)); (case q6 => exact (Kd.R_reads' HO865.out).2.1); (case q7 => repeat (exact (Kd.R_reads' HO868.out).2.2)); (case q8 => exact (Kd.R_reads' HO868.out).2.1); rintro e w16 ⟨v875, rfl, ho0, hb⟩; refine ⟨_, rfl, ?_⟩; replace HO862 := Z.rb HO862 hb; replace HO868 := Z.rb HO868 hb; have HO876 := Z.k (Kd.R_lower (Kd.R_new' (Kd.R_new' (Kd.R_new' ho0 (Kd.R_lt (by (with_reducible skip); exact HO859.out))) (Kd.R_lt (by (with_reducible skip); exact HO865.out))) (Kd.R_lt (by (with_reducible skip); exact HO872.out))) (below_size (Z.bs HB.out GE869.out))); replace HO859 := Z.k (Kd.R_elder' (by (with_reducible skip); exact HO859.out) (Kd.R_base ho0) hb); replace HO865 := Z.k (Kd.R_elder' (by (with_reducible skip); exact HO865.out) (Kd.R_base ho0) hb); replace HO872 := Z.k (Kd.R_elder' (by (with_reducible skip); exact HO872.out) (Kd.R_base ho0) hb); replace BK869 := Z.bb BK869 hb; replace HB := Z.st (Z.bs HB.out GE869.out) hb; (try clear hb); (try clear ho0)))
 go_cut [49] (fun v49 wc => ∃ (kq : Nat) (x49_5 : Bool), v49 = .bool x49_5 ∧ Aside0 (laws_FnAfterActs.j0 kq t863 t866 t870 t873 x49_5 t856 t857 t860 = some r) ∧ Aside0 (kq ≤ k) ∧ Aside0 (Kd.R (Kd.int .i64) 3 wc w.heap.size (fun k_ => some k_ ≠ (v871 : Value).ownBlock ∧ some k_ ≠ ((.slice Ao10 t857.length co10) : Value).ownBlock) (.slice Ao12 t863.length co12) t863) ∧ Aside0 (Kd.R k59 59 wc w.heap.size (fun _ => True) (.slice Ao13 t866.length co13) t866) ∧ Aside0 (Kd.R (Kd.int .i64) 3 wc w.heap.size (fun k_ => some k_ ≠ ((.slice Ao12 t863.length co12) : Value).ownBlock ∧ some k_ ≠ ((.slice Ao10 t857.length co10) : Value).ownBlock) v871 t870) ∧ Aside0 (Kd.R (Kd.int .i64) 3 wc w.heap.size (fun k_ => some k_ ≠ ((.slice Ao12 t863.length co12) : Value).ownBlock ∧ some k_ ≠ (v871 : Value).ownBlock) (.slice Ao10 t857.length co10) t857) ∧ Aside0 (Kd.R (Kd.slice 37 k37) 34 wc w.heap.size (fun _ => True) (.slice Ao11 t860.length co11) t860) ∧ Aside0 (wc.heap[gb869]? = some (.cells #[.int .i64 t856, (.slice Ao10 t857.length co10), (.slice Ao11 t860.length co11)] 28 (0, 0))) ∧ Aside0 (Below w.heap.size w wc))
 case first =>
  have H := HC6.out
  clear HC6
  revert H; refine Z.bd ?_; rintro t878 A17 H
  by_cases c18 : t878 = true
  ·subst c18
   rw [if_pos rfl] at H
   have H' := Z.k H
   clear H
   obtain ⟨Ao19, co19, eo19⟩ := Kd.R_slice HO872.out
   subst eo19
   obtain ⟨Ao20, co20, eo20⟩ := Kd.R_slice HO876.out
   subst eo20
   go_wp2_with (((with_reducible refine gate_callee (f := 34) rfl ?_); refine goesL_ (some 43) rfl rfl Try.func34 (by kernel_rfl) rfl #[.slice Ao19 t870.length co19, .slice Ao20 t874.length co20] rfl Z.ar ?_; (with_reducible refine (laws_sameInts.calls k _ _ t870 _ _ t874 true _ ?q1 ?q2 ?q3 ?q4 A17.out).mono ?_); (case q1 => repeat (exact (Kd.R_reads' HO872.out).2.2)); (case q2 => exact (Kd.R_reads' HO872.out).2.1); (case q3 => repeat (exact (Kd.R_reads' HO876.out).2.2)); (case q4 => exact (Kd.R_reads' HO876.out).2.1); rintro e w' ⟨rfl, ⟨nd, rfl⟩⟩; refine ⟨_, rfl, ?_⟩))
   go_meet
   case rel => exact ⟨_, ((t873 != t877)), (by rfl), H', ⟨by omega⟩, ⟨by (with_reducible repeat (apply Kd.R_drewN)); exact Kd.R_mono HO865.out (fun _ hk => ⟨hk.1.2, hk.1.1⟩)⟩, ⟨by (with_reducible repeat (apply Kd.R_drewN)); exact HO868.out⟩, ⟨by (with_reducible repeat (apply Kd.R_drewN)); exact Kd.R_mono HO872.out (fun _ hk => ⟨hk.1.2, hk.1.1.2⟩)⟩, ⟨by (with_reducible repeat (apply Kd.R_drewN)); exact Kd.R_mono HO859.out (fun _ hk => ⟨hk.1.1, hk.1.2⟩)⟩, ⟨by (with_reducible repeat (apply Kd.R_drewN)); exact HO862.out⟩, ⟨by (with_reducible repeat (refine blk_drewN ?_ _)); exact BK869.out⟩, ⟨Z.bs HB.out GE869.out⟩⟩
  replace c18 := Bool.eq_false_iff.mpr c18
  subst c18
  rw [if_neg (show ¬ (false = true) by decide)] at H
  have H' := Z.k H
  clear H
  obtain ⟨Ao21, co21, eo21⟩ := Kd.R_slice HO872.out
  subst eo21
  obtain ⟨Ao22, co22, eo22⟩ := Kd.R_slice HO876.out
  subst eo22
  go_wp2_with (((with_reducible refine gate_callee (f := 34) rfl ?_); refine goesL_ (some 43) rfl rfl Try.func34 (by kernel_rfl) rfl #[.slice Ao21 t870.length co21, .slice Ao22 t874.length co22] rfl Z.ar ?_; (with_reducible refine (laws_sameInts.calls k _ _ t870 _ _ t874 false _ ?q1 ?q2 ?q3 ?q4 A17.out).mono ?_); (case q1 => repeat (exact (Kd.R_reads' HO872.out).2.2)); (case q2 => exact (Kd.R_reads' HO872.out).2.1); (case q3 => repeat (exact (Kd.R_reads' HO876.out).2.2)); (case q4 => exact (Kd.R_reads' HO876.out).2.1); rintro e w' ⟨rfl, ⟨nd, rfl⟩⟩; refine ⟨_, rfl, ?_⟩))
  go_meet
  case rel => exact ⟨_, (true), (by rfl), H', ⟨by omega⟩, ⟨by (with_reducible repeat (apply Kd.R_drewN)); exact Kd.R_mono HO865.out (fun _ hk => ⟨hk.1.2, hk.1.1⟩)⟩, ⟨by (with_reducible repeat (apply Kd.R_drewN)); exact HO868.out⟩, ⟨by (with_reducible repeat (apply Kd.R_drewN)); exact Kd.R_mono HO872.out (fun _ hk => ⟨hk.1.2, hk.1.1.2⟩)⟩, ⟨by (with_reducible repeat (apply Kd.R_drewN)); exact Kd.R_mono HO859.out (fun _ hk => ⟨hk.1.1, hk.1.2⟩)⟩, ⟨by (with_reducible repeat (apply Kd.R_drewN)); exact HO862.out⟩, ⟨by (with_reducible repeat (refine blk_drewN ?_ _)); exact BK869.out⟩, ⟨Z.bs HB.out GE869.out⟩⟩
 case rest =>
  clear HC6
  try clear c2b0
  try clear c2b1
  obtain ⟨kq, x49_5, rfl, HA, HJ5, HO_4, HO_5, HO_6, HO_870001, HO_870002, BK869, HB⟩ := hcut
  cases kq with
  | zero => exact absurd HA.out (by simp [laws_FnAfterActs.j0])
  | succ kj5 =>
   have H := HA.out
   clear HA
   simp only [laws_FnAfterActs.j0] at H
   by_cases c23 : x49_5 = true
   ·subst c23
    rw [if_pos rfl] at H
    obtain rfl := Option.some.inj H
    go_wp2
    go_ret
    exact ⟨by rfl, Z.bs HB.out GE869.out⟩
   replace c23 := Bool.eq_false_iff.mpr c23
   subst c23
   rw [if_neg (show ¬ (false = true) by decide)] at H
   revert H; refine Z.fc ?_ ?_ <;> intro c24b0 H
   ·by_cases c25 : t873 = (-1)
    ·rw [if_pos c25] at H
     have c25b0 : (t873 == (-1)) = true := beq_iff_eq.mpr c25
     have c25b1 : (t873 != (-1)) = false := bne_eq_false_iff_eq.mpr c25
     clear c25
     by_cases c26 : (t870.length : Int) = 0
     ·rw [if_pos c26] at H
      have c26b0 : ((t870.length : Int) == 0) = true := beq_iff_eq.mpr c26
      have c26b1 : ((t870.length : Int) != 0) = false := bne_eq_false_iff_eq.mpr c26
      clear c26
      revert H; refine Z.bd ?_; rintro t879 A27 H
      obtain rfl := Option.some.inj H
      obtain ⟨Ao28, co28, eo28⟩ := Kd.R_slice HO_6.out
      subst eo28
      go_wp2_with ((go_at_call 18; (with_reducible refine (laws_alive.calls  t879 _ A27.out).mono ?_); rintro e w' ⟨rfl, ⟨nd, rfl⟩⟩))
      go_ret
      exact ⟨by rfl, Z.bs HB.out GE869.out⟩
     rw [if_neg c26] at H
     have c26b0 : ((t870.length : Int) == 0) = false := beq_eq_false_iff_ne.mpr c26
     have c26b1 : ((t870.length : Int) != 0) = true := bne_iff_ne.mpr c26
     have c26b2 : ¬ (t870 = []) := fun h_ => c26 (by rw [h_]; rfl)
     obtain rfl := Option.some.inj H
     obtain ⟨Ao29, co29, eo29⟩ := Kd.R_slice HO_6.out
     subst eo29
     go_wp2
     go_ret
     exact ⟨by rfl, Z.bs HB.out GE869.out⟩
    rw [if_neg c25] at H
    have c25b0 : (t873 == (-1)) = false := beq_eq_false_iff_ne.mpr c25
    have c25b1 : (t873 != (-1)) = true := bne_iff_ne.mpr c25
    obtain rfl := Option.some.inj H
    go_wp2
    go_ret
    exact ⟨by rfl, Z.bs HB.out GE869.out⟩
   obtain ⟨ji30, hji30⟩ : ∃ j_ : Int, (wrap64 ((t866.length : Int) / 2)) = j_ := ⟨_, rfl⟩
   replace H : (if 0 ≤ (ji30) then (if (ji30) ≤ (t866.length : Int) then ((impl_AfterActs.f kj5 t856 t857 t860 t863 (t866.take ((ji30) : Int).toNat)).bind fun bt884 => ((impl_AfterActs.f kj5 t856 t857 t860 bt884.1 (t866.drop ((ji30) : Int).toNat)).bind fun bt892 => ((impl_ValidActs.f kj5 t856 t857 t860 t863 t866).bind fun t896 => (laws_FnAfterActs.l0 kj5 t863 t870 t873 bt884.2 bt892.1 bt892.2 t896 0 0 t856 t857 t860)))) else (none)) else (none)) = some r := by (rw [hji30] at H; exact H)
   have hji30w : (IntKind.i64.wrap ((t866.length : Int) / 2)) = ji30 := (i64_w _).trans hji30
   obtain ⟨c31, H⟩ := Z.ifp H
   have c31b0 := eq_true c31
   have c31b1 : decide (0 ≤ (ji30)) = true := decide_eq_true c31
   clear c31
   obtain ⟨c32, H⟩ := Z.ifp H
   have c32b0 := eq_true c32
   have c32b1 : decide ((ji30) ≤ (t866.length : Int)) = true := decide_eq_true c32
   clear c32
   obtain ⟨y880, hy880⟩ : ∃ y_ : List (S59), y_ = (t866.take ((ji30) : Int).toNat) := ⟨_, rfl⟩
   replace H : ((impl_AfterActs.f kj5 t856 t857 t860 t863 y880).bind fun bt884 => ((impl_AfterActs.f kj5 t856 t857 t860 bt884.1 (t866.drop ((ji30) : Int).toNat)).bind fun bt892 => ((impl_ValidActs.f kj5 t856 t857 t860 t863 t866).bind fun t896 => (laws_FnAfterActs.l0 kj5 t863 t870 t873 bt884.2 bt892.1 bt892.2 t896 0 0 t856 t857 t860)))) = some r := by (rw [hy880]; with_reducible exact H)
   have Ny880 := Z.k hy880
   clear hy880
   revert H; refine Z.bd ?_; rintro ⟨t884, t887⟩ A33 H
   try dsimp only at H
   have c34b0 := eq_true (Z.od : 0 ≤ (ji30))
   have c35b0 := eq_true (Z.od : (ji30) ≤ (t866.length : Int))
   obtain ⟨y888, hy888⟩ : ∃ y_ : List (S59), y_ = (t866.drop ((ji30) : Int).toNat) := ⟨_, rfl⟩
   replace H : ((impl_AfterActs.f kj5 t856 t857 t860 t884 y888).bind fun bt892 => ((impl_ValidActs.f kj5 t856 t857 t860 t863 t866).bind fun t896 => (laws_FnAfterActs.l0 kj5 t863 t870 t873 t887 bt892.1 bt892.2 t896 0 0 t856 t857 t860))) = some r := by (rw [hy888]; with_reducible exact H)
   have Ny888 := Z.k hy888
   clear hy888
   revert H; refine Z.bd ?_; rintro ⟨t892, t895⟩ A36 H
   try dsimp only at H
   revert H; refine Z.bd ?_; rintro t896 A37 H
   have H' := Z.k H
   clear H
   try go_wp2
   replace HO_4 := Z.k (Kd.R_drew HO_4.out)
   replace HO_5 := Z.k (Kd.R_drew HO_5.out)
   replace HO_6 := Z.k (Kd.R_drew HO_6.out)
   replace HO_870001 := Z.k (Kd.R_drew HO_870001.out)
   replace HO_870002 := Z.k (Kd.R_drew HO_870002.out)
   replace BK869 := Z.k (blk_drew BK869.out)
   replace HB := Z.k (below_drew1 HB.out)
   have q39 : ((ji30) : Int) ≤ ((t866.length : Int) : Int) := Z.od
   obtain ⟨i039, hi039, _, hsz39, _⟩ := info_parts info59
   have hroom39 : t866.length ≤ co13 := (Kd.R_reads' HO_5.out).2.1
   have hC39 : Kd.C k59 _ Ao13 t866.length t866 := (Kd.R_reads' HO_5.out).2.2
   have hcut39 := cut_to (P := Try.prog) 51 59 .i64 Try.underlying51 hi039 Ao13 t866.length co13 (ji30) (Z.od) q39 hroom39
   have hr39 := Kd.C_take (m := ((ji30) : Int).toNat) hC39 (by omega)
   have hy39 : y880.length = ((ji30) : Int).toNat := (by rw [Ny880.out, List.length_take]; omega)
   rw [← Ny880.out] at hr39
   rw [← hy39] at hcut39
   have HR883 := Z.k hr39
   have HC883 := Z.k (show y880.length ≤ co13 from by omega)
   clear hr39 hC39 hroom39 hi039 hsz39
   have KY39 := Z.k hy39
   clear hy39
   have KL39 := Z.k (show ((ji30) : Int).toNat ≤ t866.length from by omega)
   replace q39 := eq_true q39
   refine start_ (n := 11) (S := fun w' => w'.cell? ⟨gb869, 0, none⟩ = some (.int .i64 t856) ∧ w'.cell? ⟨gb869, 1, none⟩ = some (.slice Ao10 t857.length co10) ∧ w'.cell? ⟨gb869, 2, none⟩ = some (.slice Ao11 t860.length co11)) (ds := []) (Z.mb 11 0) (by kernel_rfl) rfl rfl ⟨Z.b BK869 0, Z.b BK869 1, Z.b BK869 2⟩ (fun hHeld => ?_); refine with_tabW laws_FnAfterActs.tab11 laws_FnAfterActs.bits11 (fun HT_ HW_ => ?_)
   generalize wc.drew = w38 at HO_4 HO_5 HO_6 HO_870001 HO_870002 BK869 HB HR883 hHeld ⊢
   refine Z.pv 1 67 11 2 HT_.out ?_
   refine Z.pv 2 68 11 6 HT_.out ?_
   refine Z.pv 3 69 11 14 HT_.out ?_
   refine Z.pv 4 70 11 30 HT_.out ?_
   refine Z.t3 0 66 11 31 HT_.out HW_.out hHeld ?_
   refine one_ (i := 5) (N := some 71) (Z.mb 11 63) rfl rfl (one_of HT_.out (by kernel_rfl)) (by decide) (fun K hK => ?_)
   refine goes_ Try.func32 (by kernel_rfl) rfl #[.agg #[.int .i64 t856, .slice Ao10 t857.length co10, .slice Ao11 t860.length co11], .slice Ao12 t863.length co12, .slice Ao13 y880.length co13] (by rfl) rfl rfl Z.ar ?_
   with_reducible refine (impl_AfterActs.calls kj5 t856 _ _ t857 _ _ t860 _ _ t863 _ _ y880 t884 t887 _ ?q1 ?q2 ?q3 ?q4 ?q5 ?q6 ?q7 ?q8 A33.out).mono ?_
   (case q1 => repeat (exact (Kd.R_reads' HO_870001.out).2.2))
   (case q2 => exact (Kd.R_reads' HO_870001.out).2.1)
   (case q3 => repeat (exact (Kd.R_reads' HO_870002.out).2.2))
   (case q4 => exact (Kd.R_reads' HO_870002.out).2.1)
   (case q5 => repeat (exact (Kd.R_reads' HO_4.out).2.2))
   (case q6 => exact (Kd.R_reads' HO_4.out).2.1)
   (case q7 => repeat (exact (by repeat ((with_reducible exact HR883.out)))))
   (case q8 => exact HC883.out)
   rintro e w40 ⟨v885, rfl, ho0, hb⟩
   refine ⟨_, rfl, ?_⟩
   replace HO_5 := Z.rb HO_5 hb
   replace HO_870002 := Z.rb HO_870002 hb
   have HO886 := Z.k (Kd.R_lower (Kd.R_new' (Kd.R_new' (Kd.R_new' ho0 (Kd.R_lt (by (with_reducible skip); exact HO_4.out))) (Kd.R_lt (by (with_reducible skip); exact HO_6.out))) (Kd.R_lt (by (with_reducible skip); exact HO_870001.out))) (below_size (Z.bs HB.out GE869.out)))
   replace HO_4 := Z.k (Kd.R_elder' (by (with_reducible skip); exact HO_4.out) (Kd.R_base ho0) hb)
   replace HO_6 := Z.k (Kd.R_elder' (by (with_reducible skip); exact HO_6.out) (Kd.R_base ho0) hb)
   replace HO_870001 := Z.k (Kd.R_elder' (by (with_reducible skip); exact HO_870001.out) (Kd.R_base ho0) hb)
   replace BK869 := Z.bb BK869 hb
   replace HR883 := Z.k (Kd.C_below (by repeat ((with_reducible exact HR883.out))) hb)
   replace HB := Z.st (Z.bs HB.out GE869.out) hb
   (try clear hb)
   (try clear ho0)
   refine hK.out _ _ ⟨Z.b BK869 0, Z.b BK869 1, Z.b BK869 2⟩ (fun hHeld => ?_)
   clear hK K
   refine Z.nm ?_
   refine Z.pv 6 65 11 127 HT_.out ?_
   refine Z.pv 7 72 11 255 HT_.out ?_
   refine Z.pv 8 73 11 511 HT_.out ?_
   refine Z.pv 9 11 11 1023 HT_.out ?_
   refine Z.pv 10 12 11 2047 HT_.out ?_
   refine done_ (done_of HT_.out (by kernel_rfl)) ?_
   try go_wp2
   replace HO_4 := Z.k (Kd.R_drew HO_4.out)
   replace HO_5 := Z.k (Kd.R_drew HO_5.out)
   replace HO_6 := Z.k (Kd.R_drew HO_6.out)
   replace HO_870001 := Z.k (Kd.R_drew HO_870001.out)
   replace HO_870002 := Z.k (Kd.R_drew HO_870002.out)
   replace HO886 := Z.k (Kd.R_drew HO886.out)
   replace BK869 := Z.k (blk_drew BK869.out)
   replace HR883 := Z.k (Kd.C_drew HR883.out)
   replace HB := Z.k (below_drew1 HB.out)
   have q42 : ((ji30) : Int) ≤ ((t866.length : Int) : Int) := Z.od
   obtain ⟨i042, hi042, _, hsz42, _⟩ := info_parts info59
   have hroom42 : t866.length ≤ co13 := (Kd.R_reads' HO_5.out).2.1
   have hC42 : Kd.C k59 _ Ao13 t866.length t866 := (Kd.R_reads' HO_5.out).2.2
   have q042 : (0 : Int) ≤ ((ji30) : Int) := Z.od
   have hcut42 := cut_from (P := Try.prog) 51 59 .i64 Try.underlying51 hi042 3 hsz42 Ao13 t866.length co13 (ji30) q042 q42
   have hr42 := Kd.C_drop (m := ((ji30) : Int).toNat) (c := co13) hC42 (by omega) hroom42
   obtain ⟨A42, hA42⟩ : ∃ A1, A1 = (if co13 = ((ji30) : Int).toNat then Ao13 else (Ao13 : Option Addr).map (·.add (((ji30) : Int).toNat * 3))) := ⟨_, rfl⟩
   obtain ⟨c42, hc42⟩ : ∃ c1, c1 = co13 - ((ji30) : Int).toNat := ⟨_, rfl⟩
   have hy42 : y888.length = t866.length - ((ji30) : Int).toNat := (by rw [Ny888.out, List.length_drop] <;> omega)
   rw [show (t866).drop ((ji30) : Int).toNat = y888 from Ny888.out.symm] at hr42
   replace hr42 : Kd.C k59 _ A42 y888.length y888 := (by rw [hA42]; exact hr42)
   rw [← hy42, ← hA42, ← hc42] at hcut42
   have HR891 := Z.k hr42
   have HC891 := Z.k (show y888.length ≤ c42 from by rw [hy42, hc42]; exact Nat.sub_le_sub_right hroom42 _)
   clear hr42 hC42 hroom42 hi042 hsz42 hc42
   have KY42 := Z.k hy42
   have KA42 := Z.k hA42
   clear hy42 hA42
   have KL42 := Z.k (show ((ji30) : Int).toNat ≤ t866.length from by omega)
   replace q42 := eq_true q42
   obtain ⟨Ao43, co43, eo43⟩ := Kd.R_slice HO886.out
   (subst eo43)
   refine start_ (n := 11) (S := fun w' => w'.cell? ⟨gb869, 0, none⟩ = some (.int .i64 t856) ∧ w'.cell? ⟨gb869, 1, none⟩ = some (.slice Ao10 t857.length co10) ∧ w'.cell? ⟨gb869, 2, none⟩ = some (.slice Ao11 t860.length co11)) (ds := []) (Z.mb 11 0) (by kernel_rfl) rfl rfl ⟨Z.b BK869 0, Z.b BK869 1, Z.b BK869 2⟩ (fun hHeld => ?_); refine with_tabW laws_FnAfterActs.tab12 laws_FnAfterActs.bits12 (fun HT_ HW_ => ?_)
   generalize w40.drew = w41 at HO_4 HO_5 HO_6 HO_870001 HO_870002 HO886 BK869 HR883 HB HR891 hHeld ⊢
   refine Z.pv 1 76 11 2 HT_.out ?_
   refine Z.pv 2 77 11 6 HT_.out ?_
   refine Z.pv 3 78 11 14 HT_.out ?_
   refine Z.pv 4 79 11 30 HT_.out ?_
   refine Z.t3 0 75 11 31 HT_.out HW_.out hHeld ?_
   refine one_ (i := 5) (N := some 80) (Z.mb 11 63) rfl rfl (one_of HT_.out (by kernel_rfl)) (by decide) (fun K hK => ?_)
   refine goes_ Try.func32 (by kernel_rfl) rfl #[.agg #[.int .i64 t856, .slice Ao10 t857.length co10, .slice Ao11 t860.length co11], .slice Ao43 t884.length co43, .slice A42 y888.length c42] (by rfl) rfl rfl Z.ar ?_
   with_reducible refine (impl_AfterActs.calls kj5 t856 _ _ t857 _ _ t860 _ _ t884 _ _ y888 t892 t895 _ ?q1 ?q2 ?q3 ?q4 ?q5 ?q6 ?q7 ?q8 A36.out).mono ?_
   (case q1 => repeat (exact (Kd.R_reads' HO_870001.out).2.2))
   (case q2 => exact (Kd.R_reads' HO_870001.out).2.1)
   (case q3 => repeat (exact (Kd.R_reads' HO_870002.out).2.2))
   (case q4 => exact (Kd.R_reads' HO_870002.out).2.1)
   (case q5 => repeat (exact (Kd.R_reads' HO886.out).2.2))
   (case q6 => exact (Kd.R_reads' HO886.out).2.1)
   (case q7 => repeat (exact (by repeat ((with_reducible exact HR891.out)))))
   (case q8 => exact HC891.out)
   rintro e w44 ⟨v893, rfl, ho0, hb⟩
   refine ⟨_, rfl, ?_⟩
   replace HO_5 := Z.rb HO_5 hb
   replace HO_870002 := Z.rb HO_870002 hb
   have HO894 := Z.k (Kd.R_lower (Kd.R_new' (Kd.R_new' (Kd.R_new' (Kd.R_new' ho0 (Kd.R_lt (by (with_reducible skip); exact HO_4.out))) (Kd.R_lt (by (with_reducible skip); exact HO_6.out))) (Kd.R_lt (by (with_reducible skip); exact HO_870001.out))) (Kd.R_lt (by (with_reducible skip); exact HO886.out))) (below_size (Z.bs HB.out GE869.out)))
   replace HO_4 := Z.k (Kd.R_elder' (by (with_reducible skip); exact HO_4.out) (Kd.R_base ho0) hb)
   replace HO_6 := Z.k (Kd.R_elder' (by (with_reducible skip); exact HO_6.out) (Kd.R_base ho0) hb)
   replace HO_870001 := Z.k (Kd.R_elder' (by (with_reducible skip); exact HO_870001.out) (Kd.R_base ho0) hb)
   replace HO886 := Z.k (Kd.R_elder' (by (with_reducible skip); exact HO886.out) (Kd.R_base ho0) hb)
   replace BK869 := Z.bb BK869 hb
   replace HR883 := Z.k (Kd.C_below (by repeat ((with_reducible exact HR883.out))) hb)
   replace HR891 := Z.k (Kd.C_below (by repeat ((with_reducible exact HR891.out))) hb)
   replace HB := Z.st (Z.bs HB.out GE869.out) hb
   (try clear hb)
   (try clear ho0)
   refine hK.out _ _ ⟨Z.b BK869 0, Z.b BK869 1, Z.b BK869 2⟩ (fun hHeld => ?_)
   clear hK K
   refine Z.nm ?_
   refine Z.pv 6 74 11 127 HT_.out ?_
   refine Z.pv 7 81 11 255 HT_.out ?_
   refine Z.pv 8 82 11 511 HT_.out ?_
   refine Z.pv 9 13 11 1023 HT_.out ?_
   refine Z.pv 10 14 11 2047 HT_.out ?_
   refine done_ (done_of HT_.out (by kernel_rfl)) ?_
   have hcz45 := Z.c3 BK869.out
   try go_wp2_with (((with_reducible refine gate_callee (f := 35) rfl ?_); refine goesL_ (some 86) rfl rfl Try.func35 (by kernel_rfl) rfl #[.agg #[.int .i64 t856, .slice Ao10 t857.length co10, .slice Ao11 t860.length co11], .slice Ao12 t863.length co12, .slice Ao13 t866.length co13] rfl Z.ar ?_; (with_reducible refine (impl_ValidActs.calls kj5 t856 _ _ t857 _ _ t860 _ _ t863 _ _ t866 t896 _ ?q1 ?q2 ?q3 ?q4 ?q5 ?q6 ?q7 ?q8 A37.out).mono ?_); (case q1 => repeat (exact (Kd.R_reads' HO_870001.out).2.2)); (case q2 => exact (Kd.R_reads' HO_870001.out).2.1); (case q3 => repeat (exact (Kd.R_reads' HO_870002.out).2.2)); (case q4 => exact (Kd.R_reads' HO_870002.out).2.1); (case q5 => repeat (exact (Kd.R_reads' HO_4.out).2.2)); (case q6 => exact (Kd.R_reads' HO_4.out).2.1); (case q7 => repeat (exact (Kd.R_reads' HO_5.out).2.2)); (case q8 => exact (Kd.R_reads' HO_5.out).2.1); rintro e w46 ⟨v897, rfl, ho0, hb⟩; refine ⟨_, rfl, ?_⟩; replace HO_4 := Z.rb HO_4 hb; replace HO_6 := Z.rb HO_6 hb; replace HO_870001 := Z.rb HO_870001 hb; replace HO_870002 := Z.rb HO_870002 hb; replace HO886 := Z.rb HO886 hb; replace HO894 := Z.rb HO894 hb; have HO898 := Z.k (Kd.R_lower (Kd.R_new' ho0 (Kd.R_lt (by (with_reducible skip); exact HO_5.out))) (below_size (Z.bs HB.out GE869.out))); replace HO_5 := Z.k (Kd.R_elder' (by (with_reducible skip); exact HO_5.out) (Kd.R_base ho0) hb); replace BK869 := Z.bb BK869 hb; replace HR883 := Z.k (Kd.C_below (by repeat ((with_reducible exact HR883.out))) hb); replace HR891 := Z.k (Kd.C_below (by repeat ((with_reducible exact HR891.out))) hb); replace HB := Z.st (Z.bs HB.out GE869.out) hb; (try clear hb); (try clear ho0)))
   go_loopg [16, 17] kj5 (fun kq v16 v17 w' => ∃ (x16_2 : Int) (x17_2 : Int), v16 = .int .i64 x16_2 ∧ v17 = .int .i64 x17_2 ∧ Aside0 (laws_FnAfterActs.l0 kq t863 t870 t873 t887 t892 t895 t896 x16_2 x17_2 t856 t857 t860 = some r) ∧ Aside0 (kq ≤ kj5) ∧ Aside0 (Kd.R (Kd.int .i64) 3 w' w.heap.size (fun k_ => some k_ ≠ (v871 : Value).ownBlock ∧ some k_ ≠ (v893 : Value).ownBlock ∧ some k_ ≠ ((.slice Ao10 t857.length co10) : Value).ownBlock) (.slice Ao12 t863.length co12) t863) ∧ Aside0 (Kd.R (Kd.int .i64) 3 w' w.heap.size (fun k_ => some k_ ≠ ((.slice Ao12 t863.length co12) : Value).ownBlock ∧ some k_ ≠ (v893 : Value).ownBlock ∧ some k_ ≠ ((.slice Ao10 t857.length co10) : Value).ownBlock) v871 t870) ∧ Aside0 (Kd.R (Kd.int .i64) 3 w' w.heap.size (fun k_ => some k_ ≠ ((.slice Ao12 t863.length co12) : Value).ownBlock ∧ some k_ ≠ (v871 : Value).ownBlock ∧ some k_ ≠ ((.slice Ao10 t857.length co10) : Value).ownBlock) v893 t892) ∧ Aside0 (Kd.R k59 59 w' w.heap.size (fun _ => True) v897 t896) ∧ Aside0 (Kd.R (Kd.int .i64) 3 w' w.heap.size (fun k_ => some k_ ≠ ((.slice Ao12 t863.length co12) : Value).ownBlock ∧ some k_ ≠ (v871 : Value).ownBlock ∧ some k_ ≠ (v893 : Value).ownBlock) (.slice Ao10 t857.length co10) t857) ∧ Aside0 (Kd.R (Kd.slice 37 k37) 34 w' w.heap.size (fun _ => True) (.slice Ao11 t860.length co11) t860) ∧ Aside0 (w'.heap[gb869]? = some (.cells #[.int .i64 t856, (.slice Ao10 t857.length co10), (.slice Ao11 t860.length co11)] 28 (0, 0))) ∧ Aside0 (Kd.C k59 w' Ao13 y880.length y880) ∧ Aside0 (Below w.heap.size w w'))
   case atStart => exact ⟨(0), (0), (by rfl), (by rfl), H', ⟨Nat.le_refl _⟩, ⟨by (with_reducible skip); exact Kd.R_mono HO_4.out (fun _ hk => ⟨hk.1.1.1, ⟨hk.2, hk.1.1.2⟩⟩)⟩, ⟨by (with_reducible skip); exact Kd.R_mono HO_6.out (fun _ hk => ⟨hk.1.1.1, ⟨hk.2, hk.1.1.2⟩⟩)⟩, ⟨by (with_reducible skip); exact Kd.R_mono HO894.out (fun _ hk => ⟨hk.1.1.1.2, ⟨hk.1.1.2, hk.1.2⟩⟩)⟩, ⟨by (with_reducible skip); exact Kd.R_mono HO898.out (fun _ hk => trivial)⟩, ⟨by (with_reducible skip); exact Kd.R_mono HO_870001.out (fun _ hk => ⟨hk.1.1.1, ⟨hk.1.1.2, hk.2⟩⟩)⟩, ⟨by (with_reducible skip); exact HO_870002.out⟩, ⟨by (with_reducible skip); exact BK869.out⟩, ⟨by repeat ((with_reducible exact HR883.out))⟩, ⟨Z.bs HB.out GE869.out⟩⟩
   clear H'
   try clear c24b0
   try clear c31b0
   try clear c31b1
   try clear c32b0
   try clear c32b1
   try clear c34b0
   try clear c35b0
   try clear q39
   try clear q42
   try clear q042
   obtain ⟨x16_2, x17_2, rfl, rfl, HA, HK2, HO_4, HO_6, HO_13, HO_15, HO_870001, HO_870002, BK869, HR883, HB⟩ := hrel
   cases gk with
   | zero => exact absurd HA.out (by simp [laws_FnAfterActs.l0])
   | succ k2 =>
    have H := HA.out
    clear HA
    simp only [laws_FnAfterActs.l0] at H
    revert H; refine Z.fc ?_ ?_ <;> intro c47b0 H
    ·obtain ⟨c48b0, H⟩ := Z.fd H
     have H' := Z.k H
     clear H
     obtain ⟨Ao49, co49, eo49⟩ := Kd.R_slice HO_15.out
     subst eo49
     have p899 : 0 ≤ (x17_2 : Int) := Z.od
     have q899 : x17_2 < (t896.length : Int) := Z.od
     obtain ⟨ad899, e899, hx899_0, hx899_1, hx899_2⟩ := at_T59 (Kd.R_reads' HO_15.out).2.2 x17_2 p899 q899
     cases e899
     replace p899 := eq_true p899
     replace q899 := eq_true q899
     go_wp2
     go_roundg k2
     case measure => have := HJ5.out; have := HK2.out; omega
     case rel => exact ⟨(Go.bits .or .i64 x16_2 ((rd_T59 t896 x17_2).f2)), (wrap64 (x17_2 + 1)), (by rfl), (by rfl), H', ⟨by have := HJ5.out; have := HK2.out; omega⟩, ⟨by (with_reducible skip); exact HO_4.out⟩, ⟨by (with_reducible skip); exact HO_6.out⟩, ⟨by (with_reducible skip); exact HO_13.out⟩, ⟨by (with_reducible skip); exact HO_15.out⟩, ⟨by (with_reducible skip); exact HO_870001.out⟩, ⟨by (with_reducible skip); exact HO_870002.out⟩, ⟨by (with_reducible skip); exact BK869.out⟩, ⟨by repeat ((with_reducible exact HR883.out))⟩, ⟨Z.bs HB.out GE869.out⟩⟩
    revert H; refine Z.bd ?_; rintro t900 A50 H
    by_cases c51 : t900 = true
    rotate_left
    ·replace c51 := Bool.eq_false_iff.mpr c51
     subst c51
     rw [if_neg (show ¬ (false = true) by decide)] at H
     obtain rfl := Option.some.inj H
     obtain ⟨Ao85, co85, eo85⟩ := Kd.R_slice HO_15.out
     subst eo85
     try go_wp2
     replace HO_4 := Z.k (Kd.R_drew HO_4.out)
     replace HO_6 := Z.k (Kd.R_drew HO_6.out)
     replace HO_13 := Z.k (Kd.R_drew HO_13.out)
     replace HO_15 := Z.k (Kd.R_drew HO_15.out)
     replace HO_870001 := Z.k (Kd.R_drew HO_870001.out)
     replace HO_870002 := Z.k (Kd.R_drew HO_870002.out)
     replace BK869 := Z.k (blk_drew BK869.out)
     replace HR883 := Z.k (Kd.C_drew HR883.out)
     replace HB := Z.k (below_drew1 HB.out)
     obtain ⟨Ao87, co87, eo87⟩ := Kd.R_slice HO_6.out
     (subst eo87)
     refine start_ (n := 32) (S := fun w' => w'.cell? ⟨gb869, 0, none⟩ = some (.int .i64 t856) ∧ w'.cell? ⟨gb869, 1, none⟩ = some (.slice Ao10 t857.length co10) ∧ w'.cell? ⟨gb869, 2, none⟩ = some (.slice Ao11 t860.length co11)) (ds := []) (Z.mb 32 0) (by kernel_rfl) rfl rfl ⟨Z.b BK869 0, Z.b BK869 1, Z.b BK869 2⟩ (fun hHeld => ?_); refine with_tabW laws_FnAfterActs.tab19 laws_FnAfterActs.bits19 (fun HT_ HW_ => ?_)
     generalize wr.drew = w86 at HO_4 HO_6 HO_13 HO_15 HO_870001 HO_870002 BK869 HR883 HB hHeld ⊢
     refine Z.pv 1 101 32 2 HT_.out ?_
     refine Z.t3 0 100 32 3 HT_.out HW_.out hHeld ?_
     refine one_ (i := 2) (N := some 102) (Z.mb 32 7) rfl rfl (one_of HT_.out (by kernel_rfl)) (by decide) (fun K hK => ?_)
     refine goes_ Try.func36 (by kernel_rfl) rfl #[.agg #[.int .i64 t856, .slice Ao10 t857.length co10, .slice Ao11 t860.length co11], .slice Ao87 t870.length co87] (by rfl) rfl rfl Z.ar ?_
     with_reducible refine (impl_StateOk.calls k2 t856 _ _ t857 _ _ t860 _ _ t870 false _ ?q1 ?q2 ?q3 ?q4 ?q5 ?q6 A50.out).mono ?_
     (case q1 => repeat (exact (Kd.R_reads' HO_870001.out).2.2))
     (case q2 => exact (Kd.R_reads' HO_870001.out).2.1)
     (case q3 => repeat (exact (Kd.R_reads' HO_870002.out).2.2))
     (case q4 => exact (Kd.R_reads' HO_870002.out).2.1)
     (case q5 => repeat (exact (Kd.R_reads' HO_6.out).2.2))
     (case q6 => exact (Kd.R_reads' HO_6.out).2.1)
     rintro e w88 ⟨rfl, hb⟩
     refine ⟨_, rfl, ?_⟩
     replace HO_4 := Z.rb HO_4 hb
     replace HO_6 := Z.rb HO_6 hb
     replace HO_13 := Z.rb HO_13 hb
     replace HO_15 := Z.rb HO_15 hb
     replace HO_870001 := Z.rb HO_870001 hb
     replace HO_870002 := Z.rb HO_870002 hb
     replace BK869 := Z.bb BK869 hb
     replace HR883 := Z.k (Kd.C_below (by repeat ((with_reducible exact HR883.out))) hb)
     replace HB := Z.st (Z.bs HB.out GE869.out) hb
     (try clear hb)
     refine hK.out _ _ ⟨Z.b BK869 0, Z.b BK869 1, Z.b BK869 2⟩ (fun hHeld => ?_)
     clear hK K
     refine Z.nm ?_
     refine Z.pv 3 103 32 15 HT_.out ?_
     refine Z.pu 4 104 32 31 HT_.out ?_
     refine Z.pu 5 105 32 63 HT_.out ?_
     refine Z.pu 6 106 32 127 HT_.out ?_
     refine Z.pv 7 107 32 255 HT_.out ?_
     refine Z.pv 8 108 32 511 HT_.out ?_
     refine Z.pu 9 109 32 1023 HT_.out ?_
     refine Z.pu 10 110 32 2047 HT_.out ?_
     refine Z.pu 11 111 32 4095 HT_.out ?_
     refine Z.pu 12 112 32 8191 HT_.out ?_
     refine Z.pu 13 113 32 16383 HT_.out ?_
     refine Z.pv 14 114 32 32767 HT_.out ?_
     refine Z.pv 15 115 32 65535 HT_.out ?_
     refine Z.pu 16 116 32 131071 HT_.out ?_
     refine Z.pu 17 117 32 262143 HT_.out ?_
     refine Z.pu 18 118 32 524287 HT_.out ?_
     refine Z.pu 19 119 32 1048575 HT_.out ?_
     refine Z.pu 20 120 32 2097151 HT_.out ?_
     refine Z.pu 21 121 32 4194303 HT_.out ?_
     refine Z.pu 22 122 32 8388607 HT_.out ?_
     refine Z.pu 23 123 32 16777215 HT_.out ?_
     refine Z.pv 24 124 32 33554431 HT_.out ?_
     refine Z.pv 25 125 32 67108863 HT_.out ?_
     refine Z.pu 26 126 32 134217727 HT_.out ?_
     refine Z.pu 27 127 32 268435455 HT_.out ?_
     refine Z.pu 28 128 32 536870911 HT_.out ?_
     refine Z.pu 29 129 32 1073741823 HT_.out ?_
     refine Z.pv 30 130 32 2147483647 HT_.out ?_
     refine Z.pv 31 2 32 4294967295 HT_.out ?_
     refine done_ (done_of HT_.out (by kernel_rfl)) ?_
     try go_wp2
     go_ret
     exact ⟨by rfl, Z.bs HB.out GE869.out⟩
    subst c51
    rw [if_pos rfl] at H
    revert H; refine Z.bd ?_; rintro t901 A52 H
    by_cases c53 : t901 = true
    rotate_left
    ·replace c53 := Bool.eq_false_iff.mpr c53
     subst c53
     rw [if_neg (show ¬ (false = true) by decide)] at H
     obtain rfl := Option.some.inj H
     obtain ⟨Ao80, co80, eo80⟩ := Kd.R_slice HO_15.out
     subst eo80
     try go_wp2
     replace HO_4 := Z.k (Kd.R_drew HO_4.out)
     replace HO_6 := Z.k (Kd.R_drew HO_6.out)
     replace HO_13 := Z.k (Kd.R_drew HO_13.out)
     replace HO_15 := Z.k (Kd.R_drew HO_15.out)
     replace HO_870001 := Z.k (Kd.R_drew HO_870001.out)
     replace HO_870002 := Z.k (Kd.R_drew HO_870002.out)
     replace BK869 := Z.k (blk_drew BK869.out)
     replace HR883 := Z.k (Kd.C_drew HR883.out)
     replace HB := Z.k (below_drew1 HB.out)
     obtain ⟨Ao82, co82, eo82⟩ := Kd.R_slice HO_6.out
     (subst eo82)
     refine start_ (n := 32) (S := fun w' => w'.cell? ⟨gb869, 0, none⟩ = some (.int .i64 t856) ∧ w'.cell? ⟨gb869, 1, none⟩ = some (.slice Ao10 t857.length co10) ∧ w'.cell? ⟨gb869, 2, none⟩ = some (.slice Ao11 t860.length co11)) (ds := []) (Z.mb 32 0) (by kernel_rfl) rfl rfl ⟨Z.b BK869 0, Z.b BK869 1, Z.b BK869 2⟩ (fun hHeld => ?_); refine with_tabW laws_FnAfterActs.tab19 laws_FnAfterActs.bits19 (fun HT_ HW_ => ?_)
     generalize wr.drew = w81 at HO_4 HO_6 HO_13 HO_15 HO_870001 HO_870002 BK869 HR883 HB hHeld ⊢
     refine Z.pv 1 101 32 2 HT_.out ?_
     refine Z.t3 0 100 32 3 HT_.out HW_.out hHeld ?_
     refine one_ (i := 2) (N := some 102) (Z.mb 32 7) rfl rfl (one_of HT_.out (by kernel_rfl)) (by decide) (fun K hK => ?_)
     refine goes_ Try.func36 (by kernel_rfl) rfl #[.agg #[.int .i64 t856, .slice Ao10 t857.length co10, .slice Ao11 t860.length co11], .slice Ao82 t870.length co82] (by rfl) rfl rfl Z.ar ?_
     with_reducible refine (impl_StateOk.calls k2 t856 _ _ t857 _ _ t860 _ _ t870 true _ ?q1 ?q2 ?q3 ?q4 ?q5 ?q6 A50.out).mono ?_
     (case q1 => repeat (exact (Kd.R_reads' HO_870001.out).2.2))
     (case q2 => exact (Kd.R_reads' HO_870001.out).2.1)
     (case q3 => repeat (exact (Kd.R_reads' HO_870002.out).2.2))
     (case q4 => exact (Kd.R_reads' HO_870002.out).2.1)
     (case q5 => repeat (exact (Kd.R_reads' HO_6.out).2.2))
     (case q6 => exact (Kd.R_reads' HO_6.out).2.1)
     rintro e w83 ⟨rfl, hb⟩
     refine ⟨_, rfl, ?_⟩
     replace HO_4 := Z.rb HO_4 hb
     replace HO_6 := Z.rb HO_6 hb
     replace HO_13 := Z.rb HO_13 hb
     replace HO_15 := Z.rb HO_15 hb
     replace HO_870001 := Z.rb HO_870001 hb
     replace HO_870002 := Z.rb HO_870002 hb
     replace BK869 := Z.bb BK869 hb
     replace HR883 := Z.k (Kd.C_below (by repeat ((with_reducible exact HR883.out))) hb)
     replace HB := Z.st (Z.bs HB.out GE869.out) hb
     (try clear hb)
     obtain ⟨Ao84, co84, eo84⟩ := Kd.R_slice HO_13.out
     (subst eo84)
     refine hK.out _ _ ⟨Z.b BK869 0, Z.b BK869 1, Z.b BK869 2⟩ (fun hHeld => ?_)
     clear hK K
     refine Z.nm ?_
     refine Z.pv 3 103 32 15 HT_.out ?_
     refine Z.pv 4 104 32 31 HT_.out ?_
     refine Z.pv 5 105 32 63 HT_.out ?_
     refine one_ (i := 6) (N := some 106) (Z.mb 32 127) rfl rfl (one_of HT_.out (by kernel_rfl)) (by decide) (fun K hK => ?_)
     refine goes_ Try.func34 (by kernel_rfl) rfl #[.slice Ao84 t892.length co84, .slice Ao82 t870.length co82] (by rfl) rfl rfl Z.ar ?_
     with_reducible refine (laws_sameInts.calls k2 _ _ t892 _ _ t870 false _ ?q1 ?q2 ?q3 ?q4 A52.out).mono ?_
     (case q1 => repeat (exact (Kd.R_reads' HO_13.out).2.2))
     (case q2 => exact (Kd.R_reads' HO_13.out).2.1)
     (case q3 => repeat (exact (Kd.R_reads' HO_6.out).2.2))
     (case q4 => exact (Kd.R_reads' HO_6.out).2.1)
     rintro e w' ⟨rfl, ⟨nd, rfl⟩⟩
     refine ⟨_, rfl, ?_⟩
     refine hK.out _ _ ⟨Z.b BK869 0, Z.b BK869 1, Z.b BK869 2⟩ (fun hHeld => ?_)
     clear hK K
     refine Z.nm ?_
     refine Z.pv 7 107 32 255 HT_.out ?_
     refine Z.pv 8 108 32 511 HT_.out ?_
     refine Z.pu 9 109 32 1023 HT_.out ?_
     refine Z.pu 10 110 32 2047 HT_.out ?_
     refine Z.pu 11 111 32 4095 HT_.out ?_
     refine Z.pu 12 112 32 8191 HT_.out ?_
     refine Z.pu 13 113 32 16383 HT_.out ?_
     refine Z.pv 14 114 32 32767 HT_.out ?_
     refine Z.pv 15 115 32 65535 HT_.out ?_
     refine Z.pu 16 116 32 131071 HT_.out ?_
     refine Z.pu 17 117 32 262143 HT_.out ?_
     refine Z.pu 18 118 32 524287 HT_.out ?_
     refine Z.pu 19 119 32 1048575 HT_.out ?_
     refine Z.pu 20 120 32 2097151 HT_.out ?_
     refine Z.pu 21 121 32 4194303 HT_.out ?_
     refine Z.pu 22 122 32 8388607 HT_.out ?_
     refine Z.pu 23 123 32 16777215 HT_.out ?_
     refine Z.pv 24 124 32 33554431 HT_.out ?_
     refine Z.pv 25 125 32 67108863 HT_.out ?_
     refine Z.pu 26 126 32 134217727 HT_.out ?_
     refine Z.pu 27 127 32 268435455 HT_.out ?_
     refine Z.pu 28 128 32 536870911 HT_.out ?_
     refine Z.pu 29 129 32 1073741823 HT_.out ?_
     refine Z.pv 30 130 32 2147483647 HT_.out ?_
     refine Z.pv 31 2 32 4294967295 HT_.out ?_
     refine done_ (done_of HT_.out (by kernel_rfl)) ?_
     try go_wp2
     go_ret
     exact ⟨by rfl, Z.bs HB.out GE869.out⟩
    subst c53
    rw [if_pos rfl] at H
    by_cases c54 : (wrap64 (t887 + t895)) = t873
    rotate_left
    ·rw [if_neg c54] at H
     have c54b0 : ((wrap64 (t887 + t895)) == t873) = false := beq_eq_false_iff_ne.mpr c54
     have c54b1 : ((wrap64 (t887 + t895)) != t873) = true := bne_iff_ne.mpr c54
     obtain rfl := Option.some.inj H
     obtain ⟨Ao75, co75, eo75⟩ := Kd.R_slice HO_15.out
     subst eo75
     try go_wp2
     replace HO_4 := Z.k (Kd.R_drew HO_4.out)
     replace HO_6 := Z.k (Kd.R_drew HO_6.out)
     replace HO_13 := Z.k (Kd.R_drew HO_13.out)
     replace HO_15 := Z.k (Kd.R_drew HO_15.out)
     replace HO_870001 := Z.k (Kd.R_drew HO_870001.out)
     replace HO_870002 := Z.k (Kd.R_drew HO_870002.out)
     replace BK869 := Z.k (blk_drew BK869.out)
     replace HR883 := Z.k (Kd.C_drew HR883.out)
     replace HB := Z.k (below_drew1 HB.out)
     obtain ⟨Ao77, co77, eo77⟩ := Kd.R_slice HO_6.out
     (subst eo77)
     refine start_ (n := 32) (S := fun w' => w'.cell? ⟨gb869, 0, none⟩ = some (.int .i64 t856) ∧ w'.cell? ⟨gb869, 1, none⟩ = some (.slice Ao10 t857.length co10) ∧ w'.cell? ⟨gb869, 2, none⟩ = some (.slice Ao11 t860.length co11)) (ds := []) (Z.mb 32 0) (by kernel_rfl) rfl rfl ⟨Z.b BK869 0, Z.b BK869 1, Z.b BK869 2⟩ (fun hHeld => ?_); refine with_tabW laws_FnAfterActs.tab19 laws_FnAfterActs.bits19 (fun HT_ HW_ => ?_)
     generalize wr.drew = w76 at HO_4 HO_6 HO_13 HO_15 HO_870001 HO_870002 BK869 HR883 HB hHeld ⊢
     refine Z.pv 1 101 32 2 HT_.out ?_
     refine Z.t3 0 100 32 3 HT_.out HW_.out hHeld ?_
     refine one_ (i := 2) (N := some 102) (Z.mb 32 7) rfl rfl (one_of HT_.out (by kernel_rfl)) (by decide) (fun K hK => ?_)
     refine goes_ Try.func36 (by kernel_rfl) rfl #[.agg #[.int .i64 t856, .slice Ao10 t857.length co10, .slice Ao11 t860.length co11], .slice Ao77 t870.length co77] (by rfl) rfl rfl Z.ar ?_
     with_reducible refine (impl_StateOk.calls k2 t856 _ _ t857 _ _ t860 _ _ t870 true _ ?q1 ?q2 ?q3 ?q4 ?q5 ?q6 A50.out).mono ?_
     (case q1 => repeat (exact (Kd.R_reads' HO_870001.out).2.2))
     (case q2 => exact (Kd.R_reads' HO_870001.out).2.1)
     (case q3 => repeat (exact (Kd.R_reads' HO_870002.out).2.2))
     (case q4 => exact (Kd.R_reads' HO_870002.out).2.1)
     (case q5 => repeat (exact (Kd.R_reads' HO_6.out).2.2))
     (case q6 => exact (Kd.R_reads' HO_6.out).2.1)
     rintro e w78 ⟨rfl, hb⟩
     refine ⟨_, rfl, ?_⟩
     replace HO_4 := Z.rb HO_4 hb
     replace HO_6 := Z.rb HO_6 hb
     replace HO_13 := Z.rb HO_13 hb
     replace HO_15 := Z.rb HO_15 hb
     replace HO_870001 := Z.rb HO_870001 hb
     replace HO_870002 := Z.rb HO_870002 hb
     replace BK869 := Z.bb BK869 hb
     replace HR883 := Z.k (Kd.C_below (by repeat ((with_reducible exact HR883.out))) hb)
     replace HB := Z.st (Z.bs HB.out GE869.out) hb
     (try clear hb)
     obtain ⟨Ao79, co79, eo79⟩ := Kd.R_slice HO_13.out
     (subst eo79)
     refine hK.out _ _ ⟨Z.b BK869 0, Z.b BK869 1, Z.b BK869 2⟩ (fun hHeld => ?_)
     clear hK K
     refine Z.nm ?_
     refine Z.pv 3 103 32 15 HT_.out ?_
     refine Z.pv 4 104 32 31 HT_.out ?_
     refine Z.pv 5 105 32 63 HT_.out ?_
     refine one_ (i := 6) (N := some 106) (Z.mb 32 127) rfl rfl (one_of HT_.out (by kernel_rfl)) (by decide) (fun K hK => ?_)
     refine goes_ Try.func34 (by kernel_rfl) rfl #[.slice Ao79 t892.length co79, .slice Ao77 t870.length co77] (by rfl) rfl rfl Z.ar ?_
     with_reducible refine (laws_sameInts.calls k2 _ _ t892 _ _ t870 true _ ?q1 ?q2 ?q3 ?q4 A52.out).mono ?_
     (case q1 => repeat (exact (Kd.R_reads' HO_13.out).2.2))
     (case q2 => exact (Kd.R_reads' HO_13.out).2.1)
     (case q3 => repeat (exact (Kd.R_reads' HO_6.out).2.2))
     (case q4 => exact (Kd.R_reads' HO_6.out).2.1)
     rintro e w' ⟨rfl, ⟨nd, rfl⟩⟩
     refine ⟨_, rfl, ?_⟩
     refine hK.out _ _ ⟨Z.b BK869 0, Z.b BK869 1, Z.b BK869 2⟩ (fun hHeld => ?_)
     clear hK K
     refine Z.nm ?_
     refine Z.pv 7 107 32 255 HT_.out ?_
     refine Z.pv 8 108 32 511 HT_.out ?_
     refine Z.pv 9 109 32 1023 HT_.out ?_
     refine Z.pv 10 110 32 2047 HT_.out ?_
     refine Z.pv 11 111 32 4095 HT_.out ?_
     refine Z.pv 12 112 32 8191 HT_.out ?_
     refine Z.pv 13 113 32 16383 HT_.out ?_
     refine Z.pv 14 114 32 32767 HT_.out ?_
     refine Z.pv 15 115 32 65535 HT_.out ?_
     refine Z.pu 16 116 32 131071 HT_.out ?_
     refine Z.pu 17 117 32 262143 HT_.out ?_
     refine Z.pu 18 118 32 524287 HT_.out ?_
     refine Z.pu 19 119 32 1048575 HT_.out ?_
     refine Z.pu 20 120 32 2097151 HT_.out ?_
     refine Z.pu 21 121 32 4194303 HT_.out ?_
     refine Z.pu 22 122 32 8388607 HT_.out ?_
     refine Z.pu 23 123 32 16777215 HT_.out ?_
     refine Z.pv 24 124 32 33554431 HT_.out ?_
     refine Z.pv 25 125 32 67108863 HT_.out ?_
     refine Z.pu 26 126 32 134217727 HT_.out ?_
     refine Z.pu 27 127 32 268435455 HT_.out ?_
     refine Z.pu 28 128 32 536870911 HT_.out ?_
     refine Z.pu 29 129 32 1073741823 HT_.out ?_
     refine Z.pv 30 130 32 2147483647 HT_.out ?_
     refine Z.pv 31 2 32 4294967295 HT_.out ?_
     refine done_ (done_of HT_.out (by kernel_rfl)) ?_
     try go_wp2
     go_ret
     exact ⟨by rfl, Z.bs HB.out GE869.out⟩
    rw [if_pos c54] at H
    have c54b0 : ((wrap64 (t887 + t895)) == t873) = true := beq_iff_eq.mpr c54
    have c54b1 : ((wrap64 (t887 + t895)) != t873) = false := bne_eq_false_iff_eq.mpr c54
    clear c54
    revert H; refine Z.bd ?_; rintro t902 A55 H
    revert H; refine Z.bd ?_; rintro t905 A56 H
    revert H; refine Z.bd ?_; rintro t906 A57 H
    by_cases c58 : t906 = true
    ·subst c58
     rw [if_pos rfl] at H
     obtain rfl := Option.some.inj H
     obtain ⟨Ao59, co59, eo59⟩ := Kd.R_slice HO_15.out
     subst eo59
     try go_wp2
     replace HO_4 := Z.k (Kd.R_drew HO_4.out)
     replace HO_6 := Z.k (Kd.R_drew HO_6.out)
     replace HO_13 := Z.k (Kd.R_drew HO_13.out)
     replace HO_15 := Z.k (Kd.R_drew HO_15.out)
     replace HO_870001 := Z.k (Kd.R_drew HO_870001.out)
     replace HO_870002 := Z.k (Kd.R_drew HO_870002.out)
     replace BK869 := Z.k (blk_drew BK869.out)
     replace HR883 := Z.k (Kd.C_drew HR883.out)
     replace HB := Z.k (below_drew1 HB.out)
     obtain ⟨Ao61, co61, eo61⟩ := Kd.R_slice HO_6.out
     (subst eo61)
     refine start_ (n := 32) (S := fun w' => w'.cell? ⟨gb869, 0, none⟩ = some (.int .i64 t856) ∧ w'.cell? ⟨gb869, 1, none⟩ = some (.slice Ao10 t857.length co10) ∧ w'.cell? ⟨gb869, 2, none⟩ = some (.slice Ao11 t860.length co11)) (ds := []) (Z.mb 32 0) (by kernel_rfl) rfl rfl ⟨Z.b BK869 0, Z.b BK869 1, Z.b BK869 2⟩ (fun hHeld => ?_); refine with_tabW laws_FnAfterActs.tab19 laws_FnAfterActs.bits19 (fun HT_ HW_ => ?_)
     generalize wr.drew = w60 at HO_4 HO_6 HO_13 HO_15 HO_870001 HO_870002 BK869 HR883 HB hHeld ⊢
     refine Z.pv 1 101 32 2 HT_.out ?_
     refine Z.t3 0 100 32 3 HT_.out HW_.out hHeld ?_
     refine one_ (i := 2) (N := some 102) (Z.mb 32 7) rfl rfl (one_of HT_.out (by kernel_rfl)) (by decide) (fun K hK => ?_)
     refine goes_ Try.func36 (by kernel_rfl) rfl #[.agg #[.int .i64 t856, .slice Ao10 t857.length co10, .slice Ao11 t860.length co11], .slice Ao61 t870.length co61] (by rfl) rfl rfl Z.ar ?_
     with_reducible refine (impl_StateOk.calls k2 t856 _ _ t857 _ _ t860 _ _ t870 true _ ?q1 ?q2 ?q3 ?q4 ?q5 ?q6 A50.out).mono ?_
     (case q1 => repeat (exact (Kd.R_reads' HO_870001.out).2.2))
     (case q2 => exact (Kd.R_reads' HO_870001.out).2.1)
     (case q3 => repeat (exact (Kd.R_reads' HO_870002.out).2.2))
     (case q4 => exact (Kd.R_reads' HO_870002.out).2.1)
     (case q5 => repeat (exact (Kd.R_reads' HO_6.out).2.2))
     (case q6 => exact (Kd.R_reads' HO_6.out).2.1)
     rintro e w62 ⟨rfl, hb⟩
     refine ⟨_, rfl, ?_⟩
     replace HO_4 := Z.rb HO_4 hb
     replace HO_6 := Z.rb HO_6 hb
     replace HO_13 := Z.rb HO_13 hb
     replace HO_15 := Z.rb HO_15 hb
     replace HO_870001 := Z.rb HO_870001 hb
     replace HO_870002 := Z.rb HO_870002 hb
     replace BK869 := Z.bb BK869 hb
     replace HR883 := Z.k (Kd.C_below (by repeat ((with_reducible exact HR883.out))) hb)
     replace HB := Z.st (Z.bs HB.out GE869.out) hb
     (try clear hb)
     obtain ⟨Ao63, co63, eo63⟩ := Kd.R_slice HO_13.out
     (subst eo63)
     refine hK.out _ _ ⟨Z.b BK869 0, Z.b BK869 1, Z.b BK869 2⟩ (fun hHeld => ?_)
     clear hK K
     refine Z.nm ?_
     refine Z.pv 3 103 32 15 HT_.out ?_
     refine Z.pv 4 104 32 31 HT_.out ?_
     refine Z.pv 5 105 32 63 HT_.out ?_
     refine one_ (i := 6) (N := some 106) (Z.mb 32 127) rfl rfl (one_of HT_.out (by kernel_rfl)) (by decide) (fun K hK => ?_)
     refine goes_ Try.func34 (by kernel_rfl) rfl #[.slice Ao63 t892.length co63, .slice Ao61 t870.length co61] (by rfl) rfl rfl Z.ar ?_
     with_reducible refine (laws_sameInts.calls k2 _ _ t892 _ _ t870 true _ ?q1 ?q2 ?q3 ?q4 A52.out).mono ?_
     (case q1 => repeat (exact (Kd.R_reads' HO_13.out).2.2))
     (case q2 => exact (Kd.R_reads' HO_13.out).2.1)
     (case q3 => repeat (exact (Kd.R_reads' HO_6.out).2.2))
     (case q4 => exact (Kd.R_reads' HO_6.out).2.1)
     rintro e w' ⟨rfl, ⟨nd, rfl⟩⟩
     refine ⟨_, rfl, ?_⟩
     refine hK.out _ _ ⟨Z.b BK869 0, Z.b BK869 1, Z.b BK869 2⟩ (fun hHeld => ?_)
     clear hK K
     refine Z.nm ?_
     refine Z.pv 7 107 32 255 HT_.out ?_
     refine Z.pv 8 108 32 511 HT_.out ?_
     refine Z.pv 9 109 32 1023 HT_.out ?_
     refine Z.pv 10 110 32 2047 HT_.out ?_
     refine Z.pv 11 111 32 4095 HT_.out ?_
     refine Z.pv 12 112 32 8191 HT_.out ?_
     refine Z.pv 13 113 32 16383 HT_.out ?_
     refine Z.pv 14 114 32 32767 HT_.out ?_
     refine Z.pv 15 115 32 65535 HT_.out ?_
     refine Z.pv 17 117 32 196607 HT_.out ?_
     refine Z.pv 18 118 32 458751 HT_.out ?_
     refine Z.pv 21 121 32 2555903 HT_.out ?_
     refine Z.t3 16 116 32 2621439 HT_.out HW_.out hHeld ?_
     refine Z.t3 20 120 32 3670015 HT_.out HW_.out hHeld ?_
     refine one_ (i := 19) (N := some 119) (Z.mb 32 4194303) rfl rfl (one_of HT_.out (by kernel_rfl)) (by decide) (fun K hK => ?_)
     refine goes_ Try.func19 (by kernel_rfl) rfl #[.agg #[.int .i64 t856, .slice Ao10 t857.length co10, .slice Ao11 t860.length co11], .slice Ao12 t863.length co12, .int .i64 x16_2] (by rfl) rfl rfl Z.ar ?_
     with_reducible refine (impl_ReachOf.calls k2 t856 _ _ t857 _ _ t860 _ _ t863 x16_2 t902 _ ?q1 ?q2 ?q3 ?q4 ?q5 ?q6 A55.out).mono ?_
     (case q1 => repeat (exact (Kd.R_reads' HO_870001.out).2.2))
     (case q2 => exact (Kd.R_reads' HO_870001.out).2.1)
     (case q3 => repeat (exact (Kd.R_reads' HO_870002.out).2.2))
     (case q4 => exact (Kd.R_reads' HO_870002.out).2.1)
     (case q5 => repeat (exact (Kd.R_reads' HO_4.out).2.2))
     (case q6 => exact (Kd.R_reads' HO_4.out).2.1)
     rintro e w64 ⟨v903, rfl, ho0, hb⟩
     refine ⟨_, rfl, ?_⟩
     replace HO_15 := Z.rb HO_15 hb
     replace HO_870002 := Z.rb HO_870002 hb
     have HO904 := Z.k (Kd.R_lower (Kd.R_new' (Kd.R_new' (Kd.R_new' (Kd.R_new' ho0 (Kd.R_lt (by (with_reducible repeat (apply Kd.R_drewN)); exact HO_4.out))) (Kd.R_lt (by (with_reducible repeat (apply Kd.R_drewN)); exact HO_6.out))) (Kd.R_lt (by (with_reducible repeat (apply Kd.R_drewN)); exact HO_13.out))) (Kd.R_lt (by (with_reducible repeat (apply Kd.R_drewN)); exact HO_870001.out))) (below_size (Z.bs HB.out GE869.out)))
     replace HO_4 := Z.k (Kd.R_elder' (by (with_reducible repeat (apply Kd.R_drewN)); exact HO_4.out) (Kd.R_base ho0) hb)
     replace HO_6 := Z.k (Kd.R_elder' (by (with_reducible repeat (apply Kd.R_drewN)); exact HO_6.out) (Kd.R_base ho0) hb)
     replace HO_13 := Z.k (Kd.R_elder' (by (with_reducible repeat (apply Kd.R_drewN)); exact HO_13.out) (Kd.R_base ho0) hb)
     replace HO_870001 := Z.k (Kd.R_elder' (by (with_reducible repeat (apply Kd.R_drewN)); exact HO_870001.out) (Kd.R_base ho0) hb)
     replace BK869 := Z.bb BK869 hb
     replace HR883 := Z.k (Kd.C_below (by repeat (exact HR883.out)) hb)
     replace HB := Z.st (Z.bs HB.out GE869.out) hb
     (try clear hb)
     (try clear ho0)
     refine hK.out _ _ ⟨Z.b BK869 0, Z.b BK869 1, Z.b BK869 2⟩ (fun hHeld => ?_)
     clear hK K
     refine Z.nm ?_
     refine one_ (i := 22) (N := some 122) (Z.mb 32 8388607) rfl rfl (one_of HT_.out (by kernel_rfl)) (by decide) (fun K hK => ?_)
     refine goes_ Try.func29 (by kernel_rfl) rfl #[.agg #[.int .i64 t856, .slice Ao10 t857.length co10, .slice Ao11 t860.length co11], .slice Ao61 t870.length co61] (by rfl) rfl rfl Z.ar ?_
     with_reducible refine (impl_StateNumber.calls k2 t856 _ _ t857 _ _ t860 _ _ t870 t905 _ ?q1 ?q2 ?q3 ?q4 ?q5 ?q6 A56.out).mono ?_
     (case q1 => repeat (exact (Kd.R_reads' HO_870001.out).2.2))
     (case q2 => exact (Kd.R_reads' HO_870001.out).2.1)
     (case q3 => repeat (exact (Kd.R_reads' HO_870002.out).2.2))
     (case q4 => exact (Kd.R_reads' HO_870002.out).2.1)
     (case q5 => repeat (exact (Kd.R_reads' HO_6.out).2.2))
     (case q6 => exact (Kd.R_reads' HO_6.out).2.1)
     rintro e w65 ⟨rfl, hb⟩
     refine ⟨_, rfl, ?_⟩
     replace HO_4 := Z.rb HO_4 hb
     replace HO_6 := Z.rb HO_6 hb
     replace HO_13 := Z.rb HO_13 hb
     replace HO_15 := Z.rb HO_15 hb
     replace HO_870001 := Z.rb HO_870001 hb
     replace HO_870002 := Z.rb HO_870002 hb
     replace HO904 := Z.rb HO904 hb
     replace BK869 := Z.bb BK869 hb
     replace HR883 := Z.k (Kd.C_below (by repeat ((with_reducible exact HR883.out))) hb)
     replace HB := Z.st (Z.bs HB.out GE869.out) hb
     (try clear hb)
     obtain ⟨Ao66, co66, eo66⟩ := Kd.R_slice HO904.out
     (subst eo66)
     refine hK.out _ _ ⟨Z.b BK869 0, Z.b BK869 1, Z.b BK869 2⟩ (fun hHeld => ?_)
     clear hK K
     refine Z.nm ?_
     refine one_ (i := 23) (N := some 123) (Z.mb 32 16777215) rfl rfl (one_of HT_.out (by kernel_rfl)) (by decide) (fun K hK => ?_)
     refine goes_ Try.func28 (by kernel_rfl) rfl #[.slice Ao66 t902.length co66, .int .i64 t905] (by rfl) rfl rfl Z.ar ?_
     with_reducible refine (laws_hasInt.calls k2 _ _ t902 t905 true _ ?q1 ?q2 A57.out).mono ?_
     (case q1 => repeat (exact (Kd.R_reads' HO904.out).2.2))
     (case q2 => exact (Kd.R_reads' HO904.out).2.1)
     rintro e w' ⟨rfl, ⟨nd, rfl⟩⟩
     refine ⟨_, rfl, ?_⟩
     refine hK.out _ _ ⟨Z.b BK869 0, Z.b BK869 1, Z.b BK869 2⟩ (fun hHeld => ?_)
     clear hK K
     refine Z.nm ?_
     refine Z.pv 24 124 32 33554431 HT_.out ?_
     refine Z.pv 25 125 32 67108863 HT_.out ?_
     refine Z.pv 26 126 32 134217727 HT_.out ?_
     refine Z.pv 27 127 32 268435455 HT_.out ?_
     refine Z.pv 28 128 32 536870911 HT_.out ?_
     refine Z.pv 29 129 32 1073741823 HT_.out ?_
     refine Z.pv 30 130 32 2147483647 HT_.out ?_
     refine Z.pv 31 2 32 4294967295 HT_.out ?_
     refine done_ (done_of HT_.out (by kernel_rfl)) ?_
     try go_wp2
     go_ret
     exact ⟨by rfl, Z.bs HB.out GE869.out⟩
    replace c58 := Bool.eq_false_iff.mpr c58
    subst c58
    rw [if_neg (show ¬ (false = true) by decide)] at H
    obtain rfl := Option.some.inj H
    obtain ⟨Ao67, co67, eo67⟩ := Kd.R_slice HO_15.out
    subst eo67
    try go_wp2
    replace HO_4 := Z.k (Kd.R_drew HO_4.out)
    replace HO_6 := Z.k (Kd.R_drew HO_6.out)
    replace HO_13 := Z.k (Kd.R_drew HO_13.out)
    replace HO_15 := Z.k (Kd.R_drew HO_15.out)
    replace HO_870001 := Z.k (Kd.R_drew HO_870001.out)
    replace HO_870002 := Z.k (Kd.R_drew HO_870002.out)
    replace BK869 := Z.k (blk_drew BK869.out)
    replace HR883 := Z.k (Kd.C_drew HR883.out)
    replace HB := Z.k (below_drew1 HB.out)
    obtain ⟨Ao69, co69, eo69⟩ := Kd.R_slice HO_6.out
    (subst eo69)
    refine start_ (n := 32) (S := fun w' => w'.cell? ⟨gb869, 0, none⟩ = some (.int .i64 t856) ∧ w'.cell? ⟨gb869, 1, none⟩ = some (.slice Ao10 t857.length co10) ∧ w'.cell? ⟨gb869, 2, none⟩ = some (.slice Ao11 t860.length co11)) (ds := []) (Z.mb 32 0) (by kernel_rfl) rfl rfl ⟨Z.b BK869 0, Z.b BK869 1, Z.b BK869 2⟩ (fun hHeld => ?_); refine with_tabW laws_FnAfterActs.tab19 laws_FnAfterActs.bits19 (fun HT_ HW_ => ?_)
    generalize wr.drew = w68 at HO_4 HO_6 HO_13 HO_15 HO_870001 HO_870002 BK869 HR883 HB hHeld ⊢
    refine Z.pv 1 101 32 2 HT_.out ?_
    refine Z.t3 0 100 32 3 HT_.out HW_.out hHeld ?_
    refine one_ (i := 2) (N := some 102) (Z.mb 32 7) rfl rfl (one_of HT_.out (by kernel_rfl)) (by decide) (fun K hK => ?_)
    refine goes_ Try.func36 (by kernel_rfl) rfl #[.agg #[.int .i64 t856, .slice Ao10 t857.length co10, .slice Ao11 t860.length co11], .slice Ao69 t870.length co69] (by rfl) rfl rfl Z.ar ?_
    with_reducible refine (impl_StateOk.calls k2 t856 _ _ t857 _ _ t860 _ _ t870 true _ ?q1 ?q2 ?q3 ?q4 ?q5 ?q6 A50.out).mono ?_
    (case q1 => repeat (exact (Kd.R_reads' HO_870001.out).2.2))
    (case q2 => exact (Kd.R_reads' HO_870001.out).2.1)
    (case q3 => repeat (exact (Kd.R_reads' HO_870002.out).2.2))
    (case q4 => exact (Kd.R_reads' HO_870002.out).2.1)
    (case q5 => repeat (exact (Kd.R_reads' HO_6.out).2.2))
    (case q6 => exact (Kd.R_reads' HO_6.out).2.1)
    rintro e w70 ⟨rfl, hb⟩
    refine ⟨_, rfl, ?_⟩
    replace HO_4 := Z.rb HO_4 hb
    replace HO_6 := Z.rb HO_6 hb
    replace HO_13 := Z.rb HO_13 hb
    replace HO_15 := Z.rb HO_15 hb
    replace HO_870001 := Z.rb HO_870001 hb
    replace HO_870002 := Z.rb HO_870002 hb
    replace BK869 := Z.bb BK869 hb
    replace HR883 := Z.k (Kd.C_below (by repeat ((with_reducible exact HR883.out))) hb)
    replace HB := Z.st (Z.bs HB.out GE869.out) hb
    (try clear hb)
    obtain ⟨Ao71, co71, eo71⟩ := Kd.R_slice HO_13.out
    (subst eo71)
    refine hK.out _ _ ⟨Z.b BK869 0, Z.b BK869 1, Z.b BK869 2⟩ (fun hHeld => ?_)
    clear hK K
    refine Z.nm ?_
    refine Z.pv 3 103 32 15 HT_.out ?_
    refine Z.pv 4 104 32 31 HT_.out ?_
    refine Z.pv 5 105 32 63 HT_.out ?_
    refine one_ (i := 6) (N := some 106) (Z.mb 32 127) rfl rfl (one_of HT_.out (by kernel_rfl)) (by decide) (fun K hK => ?_)
    refine goes_ Try.func34 (by kernel_rfl) rfl #[.slice Ao71 t892.length co71, .slice Ao69 t870.length co69] (by rfl) rfl rfl Z.ar ?_
    with_reducible refine (laws_sameInts.calls k2 _ _ t892 _ _ t870 true _ ?q1 ?q2 ?q3 ?q4 A52.out).mono ?_
    (case q1 => repeat (exact (Kd.R_reads' HO_13.out).2.2))
    (case q2 => exact (Kd.R_reads' HO_13.out).2.1)
    (case q3 => repeat (exact (Kd.R_reads' HO_6.out).2.2))
    (case q4 => exact (Kd.R_reads' HO_6.out).2.1)
    rintro e w' ⟨rfl, ⟨nd, rfl⟩⟩
    refine ⟨_, rfl, ?_⟩
    refine hK.out _ _ ⟨Z.b BK869 0, Z.b BK869 1, Z.b BK869 2⟩ (fun hHeld => ?_)
    clear hK K
    refine Z.nm ?_
    refine Z.pv 7 107 32 255 HT_.out ?_
    refine Z.pv 8 108 32 511 HT_.out ?_
    refine Z.pv 9 109 32 1023 HT_.out ?_
    refine Z.pv 10 110 32 2047 HT_.out ?_
    refine Z.pv 11 111 32 4095 HT_.out ?_
    refine Z.pv 12 112 32 8191 HT_.out ?_
    refine Z.pv 13 113 32 16383 HT_.out ?_
    refine Z.pv 14 114 32 32767 HT_.out ?_
    refine Z.pv 15 115 32 65535 HT_.out ?_
    refine Z.pv 17 117 32 196607 HT_.out ?_
    refine Z.pv 18 118 32 458751 HT_.out ?_
    refine Z.pv 21 121 32 2555903 HT_.out ?_
    refine Z.t3 16 116 32 2621439 HT_.out HW_.out hHeld ?_
    refine Z.t3 20 120 32 3670015 HT_.out HW_.out hHeld ?_
    refine one_ (i := 19) (N := some 119) (Z.mb 32 4194303) rfl rfl (one_of HT_.out (by kernel_rfl)) (by decide) (fun K hK => ?_)
    refine goes_ Try.func19 (by kernel_rfl) rfl #[.agg #[.int .i64 t856, .slice Ao10 t857.length co10, .slice Ao11 t860.length co11], .slice Ao12 t863.length co12, .int .i64 x16_2] (by rfl) rfl rfl Z.ar ?_
    with_reducible refine (impl_ReachOf.calls k2 t856 _ _ t857 _ _ t860 _ _ t863 x16_2 t902 _ ?q1 ?q2 ?q3 ?q4 ?q5 ?q6 A55.out).mono ?_
    (case q1 => repeat (exact (Kd.R_reads' HO_870001.out).2.2))
    (case q2 => exact (Kd.R_reads' HO_870001.out).2.1)
    (case q3 => repeat (exact (Kd.R_reads' HO_870002.out).2.2))
    (case q4 => exact (Kd.R_reads' HO_870002.out).2.1)
    (case q5 => repeat (exact (Kd.R_reads' HO_4.out).2.2))
    (case q6 => exact (Kd.R_reads' HO_4.out).2.1)
    rintro e w72 ⟨v903, rfl, ho0, hb⟩
    refine ⟨_, rfl, ?_⟩
    replace HO_15 := Z.rb HO_15 hb
    replace HO_870002 := Z.rb HO_870002 hb
    have HO904 := Z.k (Kd.R_lower (Kd.R_new' (Kd.R_new' (Kd.R_new' (Kd.R_new' ho0 (Kd.R_lt (by (with_reducible repeat (apply Kd.R_drewN)); exact HO_4.out))) (Kd.R_lt (by (with_reducible repeat (apply Kd.R_drewN)); exact HO_6.out))) (Kd.R_lt (by (with_reducible repeat (apply Kd.R_drewN)); exact HO_13.out))) (Kd.R_lt (by (with_reducible repeat (apply Kd.R_drewN)); exact HO_870001.out))) (below_size (Z.bs HB.out GE869.out)))
    replace HO_4 := Z.k (Kd.R_elder' (by (with_reducible repeat (apply Kd.R_drewN)); exact HO_4.out) (Kd.R_base ho0) hb)
    replace HO_6 := Z.k (Kd.R_elder' (by (with_reducible repeat (apply Kd.R_drewN)); exact HO_6.out) (Kd.R_base ho0) hb)
    replace HO_13 := Z.k (Kd.R_elder' (by (with_reducible repeat (apply Kd.R_drewN)); exact HO_13.out) (Kd.R_base ho0) hb)
    replace HO_870001 := Z.k (Kd.R_elder' (by (with_reducible repeat (apply Kd.R_drewN)); exact HO_870001.out) (Kd.R_base ho0) hb)
    replace BK869 := Z.bb BK869 hb
    replace HR883 := Z.k (Kd.C_below (by repeat (exact HR883.out)) hb)
    replace HB := Z.st (Z.bs HB.out GE869.out) hb
    (try clear hb)
    (try clear ho0)
    refine hK.out _ _ ⟨Z.b BK869 0, Z.b BK869 1, Z.b BK869 2⟩ (fun hHeld => ?_)
    clear hK K
    refine Z.nm ?_
    refine one_ (i := 22) (N := some 122) (Z.mb 32 8388607) rfl rfl (one_of HT_.out (by kernel_rfl)) (by decide) (fun K hK => ?_)
    refine goes_ Try.func29 (by kernel_rfl) rfl #[.agg #[.int .i64 t856, .slice Ao10 t857.length co10, .slice Ao11 t860.length co11], .slice Ao69 t870.length co69] (by rfl) rfl rfl Z.ar ?_
    with_reducible refine (impl_StateNumber.calls k2 t856 _ _ t857 _ _ t860 _ _ t870 t905 _ ?q1 ?q2 ?q3 ?q4 ?q5 ?q6 A56.out).mono ?_
    (case q1 => repeat (exact (Kd.R_reads' HO_870001.out).2.2))
    (case q2 => exact (Kd.R_reads' HO_870001.out).2.1)
    (case q3 => repeat (exact (Kd.R_reads' HO_870002.out).2.2))
    (case q4 => exact (Kd.R_reads' HO_870002.out).2.1)
    (case q5 => repeat (exact (Kd.R_reads' HO_6.out).2.2))
    (case q6 => exact (Kd.R_reads' HO_6.out).2.1)
    rintro e w73 ⟨rfl, hb⟩
    refine ⟨_, rfl, ?_⟩
    replace HO_4 := Z.rb HO_4 hb
    replace HO_6 := Z.rb HO_6 hb
    replace HO_13 := Z.rb HO_13 hb
    replace HO_15 := Z.rb HO_15 hb
    replace HO_870001 := Z.rb HO_870001 hb
    replace HO_870002 := Z.rb HO_870002 hb
    replace HO904 := Z.rb HO904 hb
    replace BK869 := Z.bb BK869 hb
    replace HR883 := Z.k (Kd.C_below (by repeat ((with_reducible exact HR883.out))) hb)
    replace HB := Z.st (Z.bs HB.out GE869.out) hb
    (try clear hb)
    obtain ⟨Ao74, co74, eo74⟩ := Kd.R_slice HO904.out
    (subst eo74)
    refine hK.out _ _ ⟨Z.b BK869 0, Z.b BK869 1, Z.b BK869 2⟩ (fun hHeld => ?_)
    clear hK K
    refine Z.nm ?_
    refine one_ (i := 23) (N := some 123) (Z.mb 32 16777215) rfl rfl (one_of HT_.out (by kernel_rfl)) (by decide) (fun K hK => ?_)
    refine goes_ Try.func28 (by kernel_rfl) rfl #[.slice Ao74 t902.length co74, .int .i64 t905] (by rfl) rfl rfl Z.ar ?_
    with_reducible refine (laws_hasInt.calls k2 _ _ t902 t905 false _ ?q1 ?q2 A57.out).mono ?_
    (case q1 => repeat (exact (Kd.R_reads' HO904.out).2.2))
    (case q2 => exact (Kd.R_reads' HO904.out).2.1)
    rintro e w' ⟨rfl, ⟨nd, rfl⟩⟩
    refine ⟨_, rfl, ?_⟩
    refine hK.out _ _ ⟨Z.b BK869 0, Z.b BK869 1, Z.b BK869 2⟩ (fun hHeld => ?_)
    clear hK K
    refine Z.nm ?_
    refine Z.pv 24 124 32 33554431 HT_.out ?_
    refine Z.pv 25 125 32 67108863 HT_.out ?_
    refine Z.pu 26 126 32 134217727 HT_.out ?_
    refine Z.pu 27 127 32 268435455 HT_.out ?_
    refine Z.pu 28 128 32 536870911 HT_.out ?_
    refine Z.pu 29 129 32 1073741823 HT_.out ?_
    refine Z.pv 30 130 32 2147483647 HT_.out ?_
    refine Z.pv 31 2 32 4294967295 HT_.out ?_
    refine done_ (done_of HT_.out (by kernel_rfl)) ?_
    try go_wp2
    go_ret
    exact ⟨by rfl, Z.bs HB.out GE869.out⟩
/-- THE ONE PURE STATEMENT of laws_FnAfterActs: yours. -/
def laws_FnAfterActs.Pure : Prop := ∀ (l0 : List Int), l0.length ≤ maxLen → l0.length * 1 ≤ 140737488351232 → (∀ x ∈ l0, (Lit.int .u8 x).wf = true) → ∃ k, laws_FnAfterActs.f k l0 = some true
theorem laws_FnAfterActs.walk (P : laws_FnAfterActs.Pure) (a0 : Option Addr) (len0 cap0 : Nat) (z0 : List Int) (w : World) (w0 : (a0 = none ∧ len0 = 0 ∧ cap0 = 0 ∧ z0 = []) ∨ ∃ x, a0 = some x ∧ len0 ≤ cap0 ∧ cap0 ≤ maxLen ∧ z0.length = cap0 ∧ (∀ i, i < z0.length → w.cell? (x.add i) = some (.int .u8 (z0.getD i 0))) ∧ ∀ n ∈ z0, (Lit.int .u8 n).wf = true) (y0 : len0 * 1 ≤ 140737488351232) :
  Calls Try.prog 6 #[.slice a0 len0 cap0] w fun e w' => e = .returned (.bool true) ∧ Below w.heap.size w w' := by
 obtain ⟨l0, rfl, hr0, hm0, hw0, hc0⟩ := ReadsInt.ofRowC w0
 obtain ⟨k, h⟩ := P l0 hm0 y0 hw0
 refine (laws_FnAfterActs.calls k _ _ l0 true w (Kd.C_of_reads (d := (0 : Int)) (h1 := fun _ => rfl) hr0) hc0 h).mono ?_
 rintro e w' ⟨rfl, hd⟩
 exact ⟨rfl, hd⟩

end Go.Proofs.Ytkogboechfieeaa.PAll

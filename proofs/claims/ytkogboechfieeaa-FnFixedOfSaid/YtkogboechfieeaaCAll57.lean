/- Walks of functions that laws of this seat reach, in the form of the print. -/
import Derived.Test.YtkogboechfieeaaCAll22
import Derived.Test.YtkogboechfieeaaCAll26
import Derived.Test.YtkogboechfieeaaCAll29
import Derived.Test.YtkogboechfieeaaCAll32
import Derived.Test.YtkogboechfieeaaCAll48
import Derived.Test.YtkogboechfieeaaCAll72
import Derived.Test.YtkogboechfieeaaCAll77
-- PRINTED
namespace Go.Proofs.Ytkogboechfieeaa.PAll
open Go.RowKit Go.Proofs.YtkogboechfieeaaW.PrintWords Go.Proofs.YtkogboechfieeaaW.PrintLast Go.Proofs.YtkogboechfieeaaW.PrintMore
attribute [local go_sem] max2_int min2_int max_two min_two max_three min_three max_four min_four
set_option linter.unusedVariables false
set_option linter.unusedSimpArgs false

/-! ### laws_FnFixedOf: function 10 -/
mutual
def laws_FnFixedOf.l0 : Nat → List Int → List Int → List Int → Int → Int → List Int → List (List (S37)) → Option (Bool)
 | 0, _, _, _, _, _, _, _ => none
 | k + 1, x4, x5, x6, x7, x1215000, x1215001, x1215002 => if x7 < (x1215002.length : Int) then (laws_FnFixedOf.l1 k x4 x5 x6 x7 false 0 x1215000 x1215001 x1215002) else ((laws_ascend.f k x5).bind fun t1227 => (if t1227 = true then ((laws_alive.f).bind fun t1228 => (some t1228)) else (some false)))
def laws_FnFixedOf.l1 : Nat → List Int → List Int → List Int → Int → Bool → Int → Int → List Int → List (List (S37)) → Option (Bool)
 | 0, _, _, _, _, _, _, _, _, _ => none
 | k + 1, x4, x5, x6, x7, x8, x9, x1215000, x1215001, x1215002 => if x9 < (x6.length : Int) then (if x8 = true then (laws_FnFixedOf.l1 k x4 x5 x6 x7 true (wrap64 (x9 + 1)) x1215000 x1215001 x1215002) else (if 0 ≤ x9 then ((laws_stateOf.f k x1215000 x1215001 x1215002 (rd x6 x9)).bind fun t1230 => (if 0 ≤ x7 then (if x7 < (t1230.length : Int) then (if x7 < (x4.length : Int) then (laws_FnFixedOf.l1 k x4 x5 x6 x7 ((rd t1230 x7) != (rd x4 x7)) (wrap64 (x9 + 1)) x1215000 x1215001 x1215002) else (none)) else (none)) else (none))) else (none))) else ((laws_hasInt.f k x5 x7).bind fun t1235 => (if (x8 == t1235) = true then (some false) else (if 0 ≤ x7 then (if x7 < (x1215002.length : Int) then (if ((rd_L5 x1215002 x7).length : Int) = 1 then ((laws_hasInt.f k x5 x7).bind fun t1237 => (if t1237 = true then (laws_FnFixedOf.l0 k x4 x5 x6 (wrap64 (x7 + 1)) x1215000 x1215001 x1215002) else (some false))) else (laws_FnFixedOf.l0 k x4 x5 x6 (wrap64 (x7 + 1)) x1215000 x1215001 x1215002)) else (none)) else (none))))
end
def laws_FnFixedOf.f (k : Nat) (l0 : List Int) : Option (Bool) := if (l0.length : Int) > 1048576 then (some true) else ((spec_DrawFixedOf.f k l0).bind fun bt1204 => ((impl_FixedOf.f k bt1204.1 bt1204.2.1 bt1204.2.2.1 bt1204.2.2.2).bind fun t1215 => ((spec_FixedOf.f k bt1204.1 bt1204.2.1 bt1204.2.2.1 bt1204.2.2.2).bind fun t1218 => ((laws_sameInts.f k t1215 t1218).bind fun t1221 => (if t1221 = true then ((spec_StateOk.f k bt1204.1 bt1204.2.1 bt1204.2.2.1 bt1204.2.2.2).bind fun t1222 => (if t1222 = true then (if 0 ≤ bt1204.1 then ((impl_ReachOf.f k bt1204.1 bt1204.2.1 bt1204.2.2.1 bt1204.2.2.2 (wrap64 ((shl .i64 1 bt1204.1) - 1))).bind fun t1224 => (laws_FnFixedOf.l0 k bt1204.2.2.2 t1215 t1224 0 bt1204.1 bt1204.2.1 bt1204.2.2.1)) else (none)) else (if (t1215.length : Int) = 0 then ((laws_alive.f).bind fun t1223 => (some t1223)) else (some false)))) else (some false))))))
def laws_FnFixedOf.T9 : Bool × List (List Nat × List Nat) := (true, [([], []), ([], []), ([], []), ([2], [2]), ([3], [3]), ([4], [4]), ([5], [5]), ([0, 1, 6], [0, 1, 6]), ([7, 7, 0, 1, 2, 3, 4, 5, 6, 7], [7])])
def laws_FnFixedOf.B9 : List Nat := [0, 0, 0, 4, 12, 28, 60, 127, 255]
theorem laws_FnFixedOf.tab9 : rtab .any (opsOf Try.f10 9) = laws_FnFixedOf.T9 := by kernel_rfl
theorem laws_FnFixedOf.bits9 : waitsOk laws_FnFixedOf.T9.2 laws_FnFixedOf.B9 = true := by kernel_rfl
def laws_FnFixedOf.T17 : Bool × List (List Nat × List Nat) := (true, [([], []), ([0], [0]), ([1], [1]), ([1], [1]), ([1], [1]), ([3, 4, 1], [1, 3, 4]), ([5, 1], [1, 5]), ([2, 6, 1, 1], [1, 2, 6]), ([1], [1]), ([7, 8, 1], [1, 7, 8]), ([9, 1], [1, 9]), ([1], [1]), ([1], [1]), ([11, 12, 1], [1, 11, 12]), ([13, 1], [1, 13]), ([10, 14, 1], [1, 10, 14]), ([1, 15], [1, 15]), ([16, 7, 0, 1, 2, 3, 4, 5, 6, 7, 8, 9, 10, 11, 12, 13, 14, 15, 16], [0, 16])])
def laws_FnFixedOf.B17 : List Nat := [0, 1, 3, 3, 3, 27, 59, 127, 3, 511, 1023, 3, 3, 6147, 14339, 32767, 65535, 131071]
theorem laws_FnFixedOf.tab17 : rtab .any (opsOf Try.f10 17) = laws_FnFixedOf.T17 := by kernel_rfl
theorem laws_FnFixedOf.bits17 : waitsOk laws_FnFixedOf.T17.2 laws_FnFixedOf.B17 = true := by kernel_rfl
set_option maxHeartbeats 8000000 in
set_option maxRecDepth 100000 in
theorem laws_FnFixedOf.calls (k : Nat) (A0 : Option Addr) (c0 : Nat) (l0 : List Int) (r : Bool) (w : World) (hr0 : Kd.C (Kd.int .u8) w A0 l0.length l0) (hc0 : l0.length ≤ c0) (h : laws_FnFixedOf.f k l0 = some r) :
  Calls Try.prog 10 #[.slice A0 l0.length c0] w fun e w' => e = .returned (.bool r) ∧ Below w.heap.size w w' := by
 have hu28 := Try.underlying28
 have HR0 := Z.k hr0
 have HC0 := Z.k hc0
 clear hr0 hc0
 have HB := Z.k (Below.refl w.heap.size w)
 have H := h
 clear h
 unfold laws_FnFixedOf.f at H
 by_cases c2 : (l0.length : Int) > 1048576
 ·rw [if_pos c2] at H
  have c2b0 : decide (1048576 < (l0.length : Int)) = true := decide_eq_true c2
  have c2b1 : decide (1048576 < l0.length) = true := decide_eq_true (by omega)
  clear c2
  obtain rfl := Option.some.inj H
  go_enter Try.func10, Try.ntmps10
  go_wp2
  go_ret
  exact ⟨by rfl, Z.bl HB.out⟩
 rw [if_neg c2] at H
 have c2b0 : decide (1048576 < (l0.length : Int)) = false := decide_eq_false c2
 have c2b1 : decide (1048576 < l0.length) = false := decide_eq_false (by omega)
 clear c2
 revert H; refine Z.bd ?_; rintro ⟨t1204, t1205, t1208, t1211⟩ A3 H
 try dsimp only at H
 revert H; refine Z.bd ?_; rintro t1215 A4 H
 revert H; refine Z.bd ?_; rintro t1218 A5 H
 revert H; refine Z.bd ?_; rintro t1221 A6 H
 by_cases c7 : t1221 = true
 rotate_left
 ·replace c7 := Bool.eq_false_iff.mpr c7
  subst c7
  rw [if_neg (show ¬ (false = true) by decide)] at H
  obtain rfl := Option.some.inj H
  go_enter Try.func10, Try.ntmps10
  go_wp2_with (first | ((with_reducible refine gate_callee (f := 44) rfl ?_); refine goesL_ (some 15) rfl rfl Try.func44 (by kernel_rfl) rfl #[.slice A0 l0.length c0] rfl Z.ar ?_; (with_reducible refine (spec_DrawFixedOf.calls k _ _ l0 t1204 t1205 t1208 t1211 _ ?q1 ?q2 A3.out).mono ?_); (case q1 => exact HR0.out); (case q2 => exact HC0.out); rintro e w90 ⟨v1206, v1209, v1212, rfl, ho0, ho1, ho2, hb⟩; refine ⟨_, rfl, ?_⟩; have HO1207 := Z.k (Kd.R_lower ho0 (below_size (Z.bl HB.out))); have HO1210 := Z.k (Kd.R_lower ho1 (below_size (Z.bl HB.out))); have HO1213 := Z.k (Kd.R_lower ho2 (below_size (Z.bl HB.out))); replace HB := Z.st (Z.bl HB.out) hb; (try clear hb ho0 ho1); (try clear ho2)) | ((with_reducible refine gate_dst (N := 3) rfl ?_); (try (refine gate_guard (by rfl) ?_; dsimp only)); refine Z.bx #[.int .i64 0, .slice none 0 0, .slice none 0 0] 28 HB ?_; clear HB; intro gb1214 w91 BK1214 GE1214 HB hg hb; have GW1214 := GE1214; replace HO1207 := Z.rb HO1207 hb; replace HO1210 := Z.rb HO1210 hb; replace HO1213 := Z.rb HO1213 hb; clear hb hg; have hcz92 := Z.c3 BK1214.out; obtain ⟨Ao93, co93, eo93⟩ := Kd.R_slice HO1207.out; subst eo93; obtain ⟨Ao94, co94, eo94⟩ := Kd.R_slice HO1210.out; subst eo94; obtain ⟨Ao95, co95, eo95⟩ := Kd.R_slice HO1213.out; subst eo95) | ((with_reducible refine gate_callee (f := 45) rfl ?_); refine goesL_ (some 20) rfl rfl Try.func45 (by kernel_rfl) rfl #[.agg #[.int .i64 t1204, .slice Ao93 t1205.length co93, .slice Ao94 t1208.length co94], .slice Ao95 t1211.length co95] rfl Z.ar ?_; (with_reducible refine (impl_FixedOf.calls k t1204 _ _ t1205 _ _ t1208 _ _ t1211 t1215 _ ?q1 ?q2 ?q3 ?q4 ?q5 ?q6 A4.out).mono ?_); (case q1 => refine (Kd.R_reads' (e := 3) (base := w.heap.size) (ok := fun k_ => some k_ ≠ (.slice Ao95 t1211.length co95 : Value).ownBlock) (n := t1205.length) (c := co93) ?_).2.2; exact (Kd.R_mono (Kd.R_far (p := ⟨gb1214, 2, none⟩) (Kd.R_far (p := ⟨gb1214, 1, none⟩) (Kd.R_far (p := ⟨gb1214, 0, none⟩) (Kd.R_types HO1207.out BK1214.out (by decide)) (fun _ hk => hk.2) (.int .i64 t1204)) (fun _ hk => hk.2) (.slice Ao93 t1205.length co93)) (fun _ hk => hk.2) (.slice Ao94 t1208.length co94)) (fun _ h_ => h_.1))); (case q2 => exact (Kd.R_reads' HO1207.out).2.1); (case q3 => refine (Kd.R_reads' (e := 34) (base := w.heap.size) (ok := fun k_ => True) (n := t1208.length) (c := co94) ?_).2.2; exact (Kd.R_mono (Kd.R_far (p := ⟨gb1214, 2, none⟩) (Kd.R_far (p := ⟨gb1214, 1, none⟩) (Kd.R_far (p := ⟨gb1214, 0, none⟩) (Kd.R_types HO1210.out BK1214.out (by decide)) (fun _ hk => hk.2) (.int .i64 t1204)) (fun _ hk => hk.2) (.slice Ao93 t1205.length co93)) (fun _ hk => hk.2) (.slice Ao94 t1208.length co94)) (fun _ h_ => h_.1))); (case q4 => exact (Kd.R_reads' HO1210.out).2.1); (case q5 => refine (Kd.R_reads' (e := 3) (base := w.heap.size) (ok := fun k_ => some k_ ≠ (.slice Ao93 t1205.length co93 : Value).ownBlock) (n := t1211.length) (c := co95) ?_).2.2; exact (Kd.R_mono (Kd.R_far (p := ⟨gb1214, 2, none⟩) (Kd.R_far (p := ⟨gb1214, 1, none⟩) (Kd.R_far (p := ⟨gb1214, 0, none⟩) (Kd.R_types HO1213.out BK1214.out (by decide)) (fun _ hk => hk.2) (.int .i64 t1204)) (fun _ hk => hk.2) (.slice Ao93 t1205.length co93)) (fun _ hk => hk.2) (.slice Ao94 t1208.length co94)) (fun _ h_ => h_.1))); (case q6 => exact (Kd.R_reads' HO1213.out).2.1); rintro e w96 ⟨v1216, rfl, ho0, hb⟩; refine ⟨_, rfl, ?_⟩; replace HO1210 := Z.k (Kd.R_below (Kd.R_mono (Kd.R_far (p := ⟨gb1214, 2, none⟩) (Kd.R_far (p := ⟨gb1214, 1, none⟩) (Kd.R_far (p := ⟨gb1214, 0, none⟩) (Kd.R_types HO1210.out BK1214.out (by decide)) (fun _ hk => hk.2) (.int .i64 t1204)) (fun _ hk => hk.2) (.slice Ao93 t1205.length co93)) (fun _ hk => hk.2) (.slice Ao94 t1208.length co94)) (fun _ h_ => h_.1)) hb); have HO1217 := Z.k (Kd.R_lower (Kd.R_new' (Kd.R_new' ho0 (Kd.R_lt (Kd.R_mono (Kd.R_far (p := ⟨gb1214, 2, none⟩) (Kd.R_far (p := ⟨gb1214, 1, none⟩) (Kd.R_far (p := ⟨gb1214, 0, none⟩) (Kd.R_types HO1207.out BK1214.out (by decide)) (fun _ hk => hk.2) (.int .i64 t1204)) (fun _ hk => hk.2) (.slice Ao93 t1205.length co93)) (fun _ hk => hk.2) (.slice Ao94 t1208.length co94)) (fun _ h_ => h_.1)))) (Kd.R_lt (Kd.R_mono (Kd.R_far (p := ⟨gb1214, 2, none⟩) (Kd.R_far (p := ⟨gb1214, 1, none⟩) (Kd.R_far (p := ⟨gb1214, 0, none⟩) (Kd.R_types HO1213.out BK1214.out (by decide)) (fun _ hk => hk.2) (.int .i64 t1204)) (fun _ hk => hk.2) (.slice Ao93 t1205.length co93)) (fun _ hk => hk.2) (.slice Ao94 t1208.length co94)) (fun _ h_ => h_.1)))) (below_size (Z.bs HB.out GE1214.out))); replace HO1207 := Z.k (Kd.R_elder' (Kd.R_mono (Kd.R_far (p := ⟨gb1214, 2, none⟩) (Kd.R_far (p := ⟨gb1214, 1, none⟩) (Kd.R_far (p := ⟨gb1214, 0, none⟩) (Kd.R_types HO1207.out BK1214.out (by decide)) (fun _ hk => hk.2) (.int .i64 t1204)) (fun _ hk => hk.2) (.slice Ao93 t1205.length co93)) (fun _ hk => hk.2) (.slice Ao94 t1208.length co94)) (fun _ h_ => h_.1)) (Kd.R_base ho0) hb); replace HO1213 := Z.k (Kd.R_elder' (Kd.R_mono (Kd.R_far (p := ⟨gb1214, 2, none⟩) (Kd.R_far (p := ⟨gb1214, 1, none⟩) (Kd.R_far (p := ⟨gb1214, 0, none⟩) (Kd.R_types HO1213.out BK1214.out (by decide)) (fun _ hk => hk.2) (.int .i64 t1204)) (fun _ hk => hk.2) (.slice Ao93 t1205.length co93)) (fun _ hk => hk.2) (.slice Ao94 t1208.length co94)) (fun _ h_ => h_.1)) (Kd.R_base ho0) hb); replace BK1214 := Z.k (blk_below (g := gb1214) (o := .cells #[.int .i64 t1204, .slice Ao93 t1205.length co93, .slice Ao94 t1208.length co94] 28 (0, 0)) (by refine blk_put (cs := #[.int .i64 t1204, .slice Ao93 t1205.length co93, .slice none 0 0]) ?_ 2 _ rfl; refine blk_put (cs := #[.int .i64 t1204, .slice none 0 0, .slice none 0 0]) ?_ 1 _ rfl; refine blk_put (cs := #[.int .i64 0, .slice none 0 0, .slice none 0 0]) ?_ 0 _ rfl; exact BK1214.out) hb); replace HB := Z.st (Z.bs HB.out GE1214.out) hb; (try clear hb); (try clear ho0); have hcz97 := Z.c3 BK1214.out) | ((with_reducible refine gate_callee (f := 46) rfl ?_); refine goesL_ (some 24) rfl rfl Try.func46 (by kernel_rfl) rfl #[.agg #[.int .i64 t1204, .slice Ao93 t1205.length co93, .slice Ao94 t1208.length co94], .slice Ao95 t1211.length co95] rfl Z.ar ?_; (with_reducible refine (spec_FixedOf.calls k t1204 _ _ t1205 _ _ t1208 _ _ t1211 t1218 _ ?q1 ?q2 ?q3 ?q4 ?q5 ?q6 A5.out).mono ?_); (case q1 => exact (Kd.R_reads' HO1207.out).2.2); (case q2 => exact (Kd.R_reads' HO1207.out).2.1); (case q3 => exact (Kd.R_reads' HO1210.out).2.2); (case q4 => exact (Kd.R_reads' HO1210.out).2.1); (case q5 => exact (Kd.R_reads' HO1213.out).2.2); (case q6 => exact (Kd.R_reads' HO1213.out).2.1); rintro e w98 ⟨v1219, rfl, ho0, hb⟩; refine ⟨_, rfl, ?_⟩; replace HO1210 := Z.rb HO1210 hb; have HO1220 := Z.k (Kd.R_lower (Kd.R_new' (Kd.R_new' (Kd.R_new' ho0 (Kd.R_lt HO1207.out)) (Kd.R_lt HO1213.out)) (Kd.R_lt HO1217.out)) (below_size (Z.bs HB.out GE1214.out))); replace HO1207 := Z.k (Kd.R_elder' HO1207.out (Kd.R_base ho0) hb); replace HO1213 := Z.k (Kd.R_elder' HO1213.out (Kd.R_base ho0) hb); replace HO1217 := Z.k (Kd.R_elder' HO1217.out (Kd.R_base ho0) hb); replace BK1214 := Z.bb BK1214 hb; replace HB := Z.st (Z.bs HB.out GE1214.out) hb; (try clear hb); (try clear ho0); obtain ⟨Ao99, co99, eo99⟩ := Kd.R_slice HO1217.out; subst eo99; obtain ⟨Ao100, co100, eo100⟩ := Kd.R_slice HO1220.out; subst eo100) | ((with_reducible refine gate_callee (f := 34) rfl ?_); refine goesL_ (some 25) rfl rfl Try.func34 (by kernel_rfl) rfl #[.slice Ao99 t1215.length co99, .slice Ao100 t1218.length co100] rfl Z.ar ?_; (with_reducible refine (laws_sameInts.calls k _ _ t1215 _ _ t1218 false _ ?q1 ?q2 ?q3 ?q4 A6.out).mono ?_); (case q1 => exact (Kd.R_reads' HO1217.out).2.2); (case q2 => exact (Kd.R_reads' HO1217.out).2.1); (case q3 => exact (Kd.R_reads' HO1220.out).2.2); (case q4 => exact (Kd.R_reads' HO1220.out).2.1); rintro e w' ⟨rfl, ⟨nd, rfl⟩⟩; refine ⟨_, rfl, ?_⟩))
  go_ret
  exact ⟨by rfl, Z.bs HB.out GE1214.out⟩

 subst c7
 rw [if_pos rfl] at H
 revert H; refine Z.bd ?_; rintro t1222 A8 H
 by_cases c9 : t1222 = true
 rotate_left
 ·replace c9 := Bool.eq_false_iff.mpr c9
  subst c9
  rw [if_neg (show ¬ (false = true) by decide)] at H
  by_cases c62 : (t1215.length : Int) = 0
  ·rw [if_pos c62] at H
   have c62b0 : ((t1215.length : Int) == 0) = true := beq_iff_eq.mpr c62
   have c62b1 : ((t1215.length : Int) != 0) = false := bne_eq_false_iff_eq.mpr c62
   clear c62
   revert H; refine Z.bd ?_; rintro t1223 A63 H
   obtain rfl := Option.some.inj H
   go_enter Try.func10, Try.ntmps10
   go_wp2_with (first | ((with_reducible refine gate_callee (f := 44) rfl ?_); refine goesL_ (some 15) rfl rfl Try.func44 (by kernel_rfl) rfl #[.slice A0 l0.length c0] rfl Z.ar ?_; (with_reducible refine (spec_DrawFixedOf.calls k _ _ l0 t1204 t1205 t1208 t1211 _ ?q1 ?q2 A3.out).mono ?_); (case q1 => exact HR0.out); (case q2 => exact HC0.out); rintro e w64 ⟨v1206, v1209, v1212, rfl, ho0, ho1, ho2, hb⟩; refine ⟨_, rfl, ?_⟩; have HO1207 := Z.k (Kd.R_lower ho0 (below_size (Z.bl HB.out))); have HO1210 := Z.k (Kd.R_lower ho1 (below_size (Z.bl HB.out))); have HO1213 := Z.k (Kd.R_lower ho2 (below_size (Z.bl HB.out))); replace HB := Z.st (Z.bl HB.out) hb; (try clear hb ho0 ho1); (try clear ho2)) | ((with_reducible refine gate_dst (N := 3) rfl ?_); (try (refine gate_guard (by rfl) ?_; dsimp only)); refine Z.bx #[.int .i64 0, .slice none 0 0, .slice none 0 0] 28 HB ?_; clear HB; intro gb1214 w65 BK1214 GE1214 HB hg hb; have GW1214 := GE1214; replace HO1207 := Z.rb HO1207 hb; replace HO1210 := Z.rb HO1210 hb; replace HO1213 := Z.rb HO1213 hb; clear hb hg; have hcz66 := Z.c3 BK1214.out; obtain ⟨Ao67, co67, eo67⟩ := Kd.R_slice HO1207.out; subst eo67; obtain ⟨Ao68, co68, eo68⟩ := Kd.R_slice HO1210.out; subst eo68; obtain ⟨Ao69, co69, eo69⟩ := Kd.R_slice HO1213.out; subst eo69) | ((with_reducible refine gate_callee (f := 45) rfl ?_); refine goesL_ (some 20) rfl rfl Try.func45 (by kernel_rfl) rfl #[.agg #[.int .i64 t1204, .slice Ao67 t1205.length co67, .slice Ao68 t1208.length co68], .slice Ao69 t1211.length co69] rfl Z.ar ?_; (with_reducible refine (impl_FixedOf.calls k t1204 _ _ t1205 _ _ t1208 _ _ t1211 t1215 _ ?q1 ?q2 ?q3 ?q4 ?q5 ?q6 A4.out).mono ?_); (case q1 => refine (Kd.R_reads' (e := 3) (base := w.heap.size) (ok := fun k_ => some k_ ≠ (.slice Ao69 t1211.length co69 : Value).ownBlock) (n := t1205.length) (c := co67) ?_).2.2; exact (Kd.R_mono (Kd.R_far (p := ⟨gb1214, 2, none⟩) (Kd.R_far (p := ⟨gb1214, 1, none⟩) (Kd.R_far (p := ⟨gb1214, 0, none⟩) (Kd.R_types HO1207.out BK1214.out (by decide)) (fun _ hk => hk.2) (.int .i64 t1204)) (fun _ hk => hk.2) (.slice Ao67 t1205.length co67)) (fun _ hk => hk.2) (.slice Ao68 t1208.length co68)) (fun _ h_ => h_.1))); (case q2 => exact (Kd.R_reads' HO1207.out).2.1); (case q3 => refine (Kd.R_reads' (e := 34) (base := w.heap.size) (ok := fun k_ => True) (n := t1208.length) (c := co68) ?_).2.2; exact (Kd.R_mono (Kd.R_far (p := ⟨gb1214, 2, none⟩) (Kd.R_far (p := ⟨gb1214, 1, none⟩) (Kd.R_far (p := ⟨gb1214, 0, none⟩) (Kd.R_types HO1210.out BK1214.out (by decide)) (fun _ hk => hk.2) (.int .i64 t1204)) (fun _ hk => hk.2) (.slice Ao67 t1205.length co67)) (fun _ hk => hk.2) (.slice Ao68 t1208.length co68)) (fun _ h_ => h_.1))); (case q4 => exact (Kd.R_reads' HO1210.out).2.1); (case q5 => refine (Kd.R_reads' (e := 3) (base := w.heap.size) (ok := fun k_ => some k_ ≠ (.slice Ao67 t1205.length co67 : Value).ownBlock) (n := t1211.length) (c := co69) ?_).2.2; exact (Kd.R_mono (Kd.R_far (p := ⟨gb1214, 2, none⟩) (Kd.R_far (p := ⟨gb1214, 1, none⟩) (Kd.R_far (p := ⟨gb1214, 0, none⟩) (Kd.R_types HO1213.out BK1214.out (by decide)) (fun _ hk => hk.2) (.int .i64 t1204)) (fun _ hk => hk.2) (.slice Ao67 t1205.length co67)) (fun _ hk => hk.2) (.slice Ao68 t1208.length co68)) (fun _ h_ => h_.1))); (case q6 => exact (Kd.R_reads' HO1213.out).2.1); rintro e w70 ⟨v1216, rfl, ho0, hb⟩; refine ⟨_, rfl, ?_⟩; replace HO1210 := Z.k (Kd.R_below (Kd.R_mono (Kd.R_far (p := ⟨gb1214, 2, none⟩) (Kd.R_far (p := ⟨gb1214, 1, none⟩) (Kd.R_far (p := ⟨gb1214, 0, none⟩) (Kd.R_types HO1210.out BK1214.out (by decide)) (fun _ hk => hk.2) (.int .i64 t1204)) (fun _ hk => hk.2) (.slice Ao67 t1205.length co67)) (fun _ hk => hk.2) (.slice Ao68 t1208.length co68)) (fun _ h_ => h_.1)) hb); have HO1217 := Z.k (Kd.R_lower (Kd.R_new' (Kd.R_new' ho0 (Kd.R_lt (Kd.R_mono (Kd.R_far (p := ⟨gb1214, 2, none⟩) (Kd.R_far (p := ⟨gb1214, 1, none⟩) (Kd.R_far (p := ⟨gb1214, 0, none⟩) (Kd.R_types HO1207.out BK1214.out (by decide)) (fun _ hk => hk.2) (.int .i64 t1204)) (fun _ hk => hk.2) (.slice Ao67 t1205.length co67)) (fun _ hk => hk.2) (.slice Ao68 t1208.length co68)) (fun _ h_ => h_.1)))) (Kd.R_lt (Kd.R_mono (Kd.R_far (p := ⟨gb1214, 2, none⟩) (Kd.R_far (p := ⟨gb1214, 1, none⟩) (Kd.R_far (p := ⟨gb1214, 0, none⟩) (Kd.R_types HO1213.out BK1214.out (by decide)) (fun _ hk => hk.2) (.int .i64 t1204)) (fun _ hk => hk.2) (.slice Ao67 t1205.length co67)) (fun _ hk => hk.2) (.slice Ao68 t1208.length co68)) (fun _ h_ => h_.1)))) (below_size (Z.bs HB.out GE1214.out))); replace HO1207 := Z.k (Kd.R_elder' (Kd.R_mono (Kd.R_far (p := ⟨gb1214, 2, none⟩) (Kd.R_far (p := ⟨gb1214, 1, none⟩) (Kd.R_far (p := ⟨gb1214, 0, none⟩) (Kd.R_types HO1207.out BK1214.out (by decide)) (fun _ hk => hk.2) (.int .i64 t1204)) (fun _ hk => hk.2) (.slice Ao67 t1205.length co67)) (fun _ hk => hk.2) (.slice Ao68 t1208.length co68)) (fun _ h_ => h_.1)) (Kd.R_base ho0) hb); replace HO1213 := Z.k (Kd.R_elder' (Kd.R_mono (Kd.R_far (p := ⟨gb1214, 2, none⟩) (Kd.R_far (p := ⟨gb1214, 1, none⟩) (Kd.R_far (p := ⟨gb1214, 0, none⟩) (Kd.R_types HO1213.out BK1214.out (by decide)) (fun _ hk => hk.2) (.int .i64 t1204)) (fun _ hk => hk.2) (.slice Ao67 t1205.length co67)) (fun _ hk => hk.2) (.slice Ao68 t1208.length co68)) (fun _ h_ => h_.1)) (Kd.R_base ho0) hb); replace BK1214 := Z.k (blk_below (g := gb1214) (o := .cells #[.int .i64 t1204, .slice Ao67 t1205.length co67, .slice Ao68 t1208.length co68] 28 (0, 0)) (by refine blk_put (cs := #[.int .i64 t1204, .slice Ao67 t1205.length co67, .slice none 0 0]) ?_ 2 _ rfl; refine blk_put (cs := #[.int .i64 t1204, .slice none 0 0, .slice none 0 0]) ?_ 1 _ rfl; refine blk_put (cs := #[.int .i64 0, .slice none 0 0, .slice none 0 0]) ?_ 0 _ rfl; exact BK1214.out) hb); replace HB := Z.st (Z.bs HB.out GE1214.out) hb; (try clear hb); (try clear ho0); have hcz71 := Z.c3 BK1214.out) | ((with_reducible refine gate_callee (f := 46) rfl ?_); refine goesL_ (some 24) rfl rfl Try.func46 (by kernel_rfl) rfl #[.agg #[.int .i64 t1204, .slice Ao67 t1205.length co67, .slice Ao68 t1208.length co68], .slice Ao69 t1211.length co69] rfl Z.ar ?_; (with_reducible refine (spec_FixedOf.calls k t1204 _ _ t1205 _ _ t1208 _ _ t1211 t1218 _ ?q1 ?q2 ?q3 ?q4 ?q5 ?q6 A5.out).mono ?_); (case q1 => exact (Kd.R_reads' HO1207.out).2.2); (case q2 => exact (Kd.R_reads' HO1207.out).2.1); (case q3 => exact (Kd.R_reads' HO1210.out).2.2); (case q4 => exact (Kd.R_reads' HO1210.out).2.1); (case q5 => exact (Kd.R_reads' HO1213.out).2.2); (case q6 => exact (Kd.R_reads' HO1213.out).2.1); rintro e w72 ⟨v1219, rfl, ho0, hb⟩; refine ⟨_, rfl, ?_⟩; replace HO1210 := Z.rb HO1210 hb; have HO1220 := Z.k (Kd.R_lower (Kd.R_new' (Kd.R_new' (Kd.R_new' ho0 (Kd.R_lt HO1207.out)) (Kd.R_lt HO1213.out)) (Kd.R_lt HO1217.out)) (below_size (Z.bs HB.out GE1214.out))); replace HO1207 := Z.k (Kd.R_elder' HO1207.out (Kd.R_base ho0) hb); replace HO1213 := Z.k (Kd.R_elder' HO1213.out (Kd.R_base ho0) hb); replace HO1217 := Z.k (Kd.R_elder' HO1217.out (Kd.R_base ho0) hb); replace BK1214 := Z.bb BK1214 hb; replace HB := Z.st (Z.bs HB.out GE1214.out) hb; (try clear hb); (try clear ho0); obtain ⟨Ao73, co73, eo73⟩ := Kd.R_slice HO1217.out; subst eo73; obtain ⟨Ao74, co74, eo74⟩ := Kd.R_slice HO1220.out; subst eo74) | ((with_reducible refine gate_callee (f := 34) rfl ?_); refine goesL_ (some 25) rfl rfl Try.func34 (by kernel_rfl) rfl #[.slice Ao73 t1215.length co73, .slice Ao74 t1218.length co74] rfl Z.ar ?_; (with_reducible refine (laws_sameInts.calls k _ _ t1215 _ _ t1218 true _ ?q1 ?q2 ?q3 ?q4 A6.out).mono ?_); (case q1 => exact (Kd.R_reads' HO1217.out).2.2); (case q2 => exact (Kd.R_reads' HO1217.out).2.1); (case q3 => exact (Kd.R_reads' HO1220.out).2.2); (case q4 => exact (Kd.R_reads' HO1220.out).2.1); rintro e w' ⟨rfl, ⟨nd, rfl⟩⟩; refine ⟨_, rfl, ?_⟩; have hcz75 := Z.c3 BK1214.out) | ((with_reducible refine gate_callee (f := 16) rfl ?_); refine goesL_ (some 29) rfl rfl Try.func16 (by kernel_rfl) rfl #[.agg #[.int .i64 t1204, .slice Ao67 t1205.length co67, .slice Ao68 t1208.length co68], .slice Ao69 t1211.length co69] rfl Z.ar ?_; (with_reducible refine (spec_StateOk.calls k t1204 _ _ t1205 _ _ t1208 _ _ t1211 false _ ?q1 ?q2 ?q3 ?q4 ?q5 ?q6 A8.out).mono ?_); (case q1 => exact (Kd.R_reads' HO1207.out).2.2); (case q2 => exact (Kd.R_reads' HO1207.out).2.1); (case q3 => exact (Kd.R_reads' HO1210.out).2.2); (case q4 => exact (Kd.R_reads' HO1210.out).2.1); (case q5 => exact (Kd.R_reads' HO1213.out).2.2); (case q6 => exact (Kd.R_reads' HO1213.out).2.1); rintro e w76 ⟨rfl, hb⟩; refine ⟨_, rfl, ?_⟩; replace HO1207 := Z.rb HO1207 hb; replace HO1210 := Z.rb HO1210 hb; replace HO1213 := Z.rb HO1213 hb; replace HO1217 := Z.rb HO1217 hb; replace HO1220 := Z.rb HO1220 hb; replace BK1214 := Z.bb BK1214 hb; replace HB := Z.st (Z.bs HB.out GE1214.out) hb; (try clear hb)) | (go_at_call 18; (with_reducible refine (laws_alive.calls  t1223 _ A63.out).mono ?_); rintro e w' ⟨rfl, ⟨nd, rfl⟩⟩))
   go_ret
   exact ⟨by rfl, Z.bs HB.out GE1214.out⟩
  rw [if_neg c62] at H
  have c62b0 : ((t1215.length : Int) == 0) = false := beq_eq_false_iff_ne.mpr c62
  have c62b1 : ((t1215.length : Int) != 0) = true := bne_iff_ne.mpr c62
  have c62b2 : ¬ (t1215 = []) := fun h_ => c62 (by rw [h_]; rfl)
  obtain rfl := Option.some.inj H
  go_enter Try.func10, Try.ntmps10
  go_wp2_with (first | ((with_reducible refine gate_callee (f := 44) rfl ?_); refine goesL_ (some 15) rfl rfl Try.func44 (by kernel_rfl) rfl #[.slice A0 l0.length c0] rfl Z.ar ?_; (with_reducible refine (spec_DrawFixedOf.calls k _ _ l0 t1204 t1205 t1208 t1211 _ ?q1 ?q2 A3.out).mono ?_); (case q1 => exact HR0.out); (case q2 => exact HC0.out); rintro e w77 ⟨v1206, v1209, v1212, rfl, ho0, ho1, ho2, hb⟩; refine ⟨_, rfl, ?_⟩; have HO1207 := Z.k (Kd.R_lower ho0 (below_size (Z.bl HB.out))); have HO1210 := Z.k (Kd.R_lower ho1 (below_size (Z.bl HB.out))); have HO1213 := Z.k (Kd.R_lower ho2 (below_size (Z.bl HB.out))); replace HB := Z.st (Z.bl HB.out) hb; (try clear hb ho0 ho1); (try clear ho2)) | ((with_reducible refine gate_dst (N := 3) rfl ?_); (try (refine gate_guard (by rfl) ?_; dsimp only)); refine Z.bx #[.int .i64 0, .slice none 0 0, .slice none 0 0] 28 HB ?_; clear HB; intro gb1214 w78 BK1214 GE1214 HB hg hb; have GW1214 := GE1214; replace HO1207 := Z.rb HO1207 hb; replace HO1210 := Z.rb HO1210 hb; replace HO1213 := Z.rb HO1213 hb; clear hb hg; have hcz79 := Z.c3 BK1214.out; obtain ⟨Ao80, co80, eo80⟩ := Kd.R_slice HO1207.out; subst eo80; obtain ⟨Ao81, co81, eo81⟩ := Kd.R_slice HO1210.out; subst eo81; obtain ⟨Ao82, co82, eo82⟩ := Kd.R_slice HO1213.out; subst eo82) | ((with_reducible refine gate_callee (f := 45) rfl ?_); refine goesL_ (some 20) rfl rfl Try.func45 (by kernel_rfl) rfl #[.agg #[.int .i64 t1204, .slice Ao80 t1205.length co80, .slice Ao81 t1208.length co81], .slice Ao82 t1211.length co82] rfl Z.ar ?_; (with_reducible refine (impl_FixedOf.calls k t1204 _ _ t1205 _ _ t1208 _ _ t1211 t1215 _ ?q1 ?q2 ?q3 ?q4 ?q5 ?q6 A4.out).mono ?_); (case q1 => refine (Kd.R_reads' (e := 3) (base := w.heap.size) (ok := fun k_ => some k_ ≠ (.slice Ao82 t1211.length co82 : Value).ownBlock) (n := t1205.length) (c := co80) ?_).2.2; exact (Kd.R_mono (Kd.R_far (p := ⟨gb1214, 2, none⟩) (Kd.R_far (p := ⟨gb1214, 1, none⟩) (Kd.R_far (p := ⟨gb1214, 0, none⟩) (Kd.R_types HO1207.out BK1214.out (by decide)) (fun _ hk => hk.2) (.int .i64 t1204)) (fun _ hk => hk.2) (.slice Ao80 t1205.length co80)) (fun _ hk => hk.2) (.slice Ao81 t1208.length co81)) (fun _ h_ => h_.1))); (case q2 => exact (Kd.R_reads' HO1207.out).2.1); (case q3 => refine (Kd.R_reads' (e := 34) (base := w.heap.size) (ok := fun k_ => True) (n := t1208.length) (c := co81) ?_).2.2; exact (Kd.R_mono (Kd.R_far (p := ⟨gb1214, 2, none⟩) (Kd.R_far (p := ⟨gb1214, 1, none⟩) (Kd.R_far (p := ⟨gb1214, 0, none⟩) (Kd.R_types HO1210.out BK1214.out (by decide)) (fun _ hk => hk.2) (.int .i64 t1204)) (fun _ hk => hk.2) (.slice Ao80 t1205.length co80)) (fun _ hk => hk.2) (.slice Ao81 t1208.length co81)) (fun _ h_ => h_.1))); (case q4 => exact (Kd.R_reads' HO1210.out).2.1); (case q5 => refine (Kd.R_reads' (e := 3) (base := w.heap.size) (ok := fun k_ => some k_ ≠ (.slice Ao80 t1205.length co80 : Value).ownBlock) (n := t1211.length) (c := co82) ?_).2.2; exact (Kd.R_mono (Kd.R_far (p := ⟨gb1214, 2, none⟩) (Kd.R_far (p := ⟨gb1214, 1, none⟩) (Kd.R_far (p := ⟨gb1214, 0, none⟩) (Kd.R_types HO1213.out BK1214.out (by decide)) (fun _ hk => hk.2) (.int .i64 t1204)) (fun _ hk => hk.2) (.slice Ao80 t1205.length co80)) (fun _ hk => hk.2) (.slice Ao81 t1208.length co81)) (fun _ h_ => h_.1))); (case q6 => exact (Kd.R_reads' HO1213.out).2.1); rintro e w83 ⟨v1216, rfl, ho0, hb⟩; refine ⟨_, rfl, ?_⟩; replace HO1210 := Z.k (Kd.R_below (Kd.R_mono (Kd.R_far (p := ⟨gb1214, 2, none⟩) (Kd.R_far (p := ⟨gb1214, 1, none⟩) (Kd.R_far (p := ⟨gb1214, 0, none⟩) (Kd.R_types HO1210.out BK1214.out (by decide)) (fun _ hk => hk.2) (.int .i64 t1204)) (fun _ hk => hk.2) (.slice Ao80 t1205.length co80)) (fun _ hk => hk.2) (.slice Ao81 t1208.length co81)) (fun _ h_ => h_.1)) hb); have HO1217 := Z.k (Kd.R_lower (Kd.R_new' (Kd.R_new' ho0 (Kd.R_lt (Kd.R_mono (Kd.R_far (p := ⟨gb1214, 2, none⟩) (Kd.R_far (p := ⟨gb1214, 1, none⟩) (Kd.R_far (p := ⟨gb1214, 0, none⟩) (Kd.R_types HO1207.out BK1214.out (by decide)) (fun _ hk => hk.2) (.int .i64 t1204)) (fun _ hk => hk.2) (.slice Ao80 t1205.length co80)) (fun _ hk => hk.2) (.slice Ao81 t1208.length co81)) (fun _ h_ => h_.1)))) (Kd.R_lt (Kd.R_mono (Kd.R_far (p := ⟨gb1214, 2, none⟩) (Kd.R_far (p := ⟨gb1214, 1, none⟩) (Kd.R_far (p := ⟨gb1214, 0, none⟩) (Kd.R_types HO1213.out BK1214.out (by decide)) (fun _ hk => hk.2) (.int .i64 t1204)) (fun _ hk => hk.2) (.slice Ao80 t1205.length co80)) (fun _ hk => hk.2) (.slice Ao81 t1208.length co81)) (fun _ h_ => h_.1)))) (below_size (Z.bs HB.out GE1214.out))); replace HO1207 := Z.k (Kd.R_elder' (Kd.R_mono (Kd.R_far (p := ⟨gb1214, 2, none⟩) (Kd.R_far (p := ⟨gb1214, 1, none⟩) (Kd.R_far (p := ⟨gb1214, 0, none⟩) (Kd.R_types HO1207.out BK1214.out (by decide)) (fun _ hk => hk.2) (.int .i64 t1204)) (fun _ hk => hk.2) (.slice Ao80 t1205.length co80)) (fun _ hk => hk.2) (.slice Ao81 t1208.length co81)) (fun _ h_ => h_.1)) (Kd.R_base ho0) hb); replace HO1213 := Z.k (Kd.R_elder' (Kd.R_mono (Kd.R_far (p := ⟨gb1214, 2, none⟩) (Kd.R_far (p := ⟨gb1214, 1, none⟩) (Kd.R_far (p := ⟨gb1214, 0, none⟩) (Kd.R_types HO1213.out BK1214.out (by decide)) (fun _ hk => hk.2) (.int .i64 t1204)) (fun _ hk => hk.2) (.slice Ao80 t1205.length co80)) (fun _ hk => hk.2) (.slice Ao81 t1208.length co81)) (fun _ h_ => h_.1)) (Kd.R_base ho0) hb); replace BK1214 := Z.k (blk_below (g := gb1214) (o := .cells #[.int .i64 t1204, .slice Ao80 t1205.length co80, .slice Ao81 t1208.length co81] 28 (0, 0)) (by refine blk_put (cs := #[.int .i64 t1204, .slice Ao80 t1205.length co80, .slice none 0 0]) ?_ 2 _ rfl; refine blk_put (cs := #[.int .i64 t1204, .slice none 0 0, .slice none 0 0]) ?_ 1 _ rfl; refine blk_put (cs := #[.int .i64 0, .slice none 0 0, .slice none 0 0]) ?_ 0 _ rfl; exact BK1214.out) hb); replace HB := Z.st (Z.bs HB.out GE1214.out) hb; (try clear hb); (try clear ho0); have hcz84 := Z.c3 BK1214.out) | ((with_reducible refine gate_callee (f := 46) rfl ?_); refine goesL_ (some 24) rfl rfl Try.func46 (by kernel_rfl) rfl #[.agg #[.int .i64 t1204, .slice Ao80 t1205.length co80, .slice Ao81 t1208.length co81], .slice Ao82 t1211.length co82] rfl Z.ar ?_; (with_reducible refine (spec_FixedOf.calls k t1204 _ _ t1205 _ _ t1208 _ _ t1211 t1218 _ ?q1 ?q2 ?q3 ?q4 ?q5 ?q6 A5.out).mono ?_); (case q1 => exact (Kd.R_reads' HO1207.out).2.2); (case q2 => exact (Kd.R_reads' HO1207.out).2.1); (case q3 => exact (Kd.R_reads' HO1210.out).2.2); (case q4 => exact (Kd.R_reads' HO1210.out).2.1); (case q5 => exact (Kd.R_reads' HO1213.out).2.2); (case q6 => exact (Kd.R_reads' HO1213.out).2.1); rintro e w85 ⟨v1219, rfl, ho0, hb⟩; refine ⟨_, rfl, ?_⟩; replace HO1210 := Z.rb HO1210 hb; have HO1220 := Z.k (Kd.R_lower (Kd.R_new' (Kd.R_new' (Kd.R_new' ho0 (Kd.R_lt HO1207.out)) (Kd.R_lt HO1213.out)) (Kd.R_lt HO1217.out)) (below_size (Z.bs HB.out GE1214.out))); replace HO1207 := Z.k (Kd.R_elder' HO1207.out (Kd.R_base ho0) hb); replace HO1213 := Z.k (Kd.R_elder' HO1213.out (Kd.R_base ho0) hb); replace HO1217 := Z.k (Kd.R_elder' HO1217.out (Kd.R_base ho0) hb); replace BK1214 := Z.bb BK1214 hb; replace HB := Z.st (Z.bs HB.out GE1214.out) hb; (try clear hb); (try clear ho0); obtain ⟨Ao86, co86, eo86⟩ := Kd.R_slice HO1217.out; subst eo86; obtain ⟨Ao87, co87, eo87⟩ := Kd.R_slice HO1220.out; subst eo87) | ((with_reducible refine gate_callee (f := 34) rfl ?_); refine goesL_ (some 25) rfl rfl Try.func34 (by kernel_rfl) rfl #[.slice Ao86 t1215.length co86, .slice Ao87 t1218.length co87] rfl Z.ar ?_; (with_reducible refine (laws_sameInts.calls k _ _ t1215 _ _ t1218 true _ ?q1 ?q2 ?q3 ?q4 A6.out).mono ?_); (case q1 => exact (Kd.R_reads' HO1217.out).2.2); (case q2 => exact (Kd.R_reads' HO1217.out).2.1); (case q3 => exact (Kd.R_reads' HO1220.out).2.2); (case q4 => exact (Kd.R_reads' HO1220.out).2.1); rintro e w' ⟨rfl, ⟨nd, rfl⟩⟩; refine ⟨_, rfl, ?_⟩; have hcz88 := Z.c3 BK1214.out) | ((with_reducible refine gate_callee (f := 16) rfl ?_); refine goesL_ (some 29) rfl rfl Try.func16 (by kernel_rfl) rfl #[.agg #[.int .i64 t1204, .slice Ao80 t1205.length co80, .slice Ao81 t1208.length co81], .slice Ao82 t1211.length co82] rfl Z.ar ?_; (with_reducible refine (spec_StateOk.calls k t1204 _ _ t1205 _ _ t1208 _ _ t1211 false _ ?q1 ?q2 ?q3 ?q4 ?q5 ?q6 A8.out).mono ?_); (case q1 => exact (Kd.R_reads' HO1207.out).2.2); (case q2 => exact (Kd.R_reads' HO1207.out).2.1); (case q3 => exact (Kd.R_reads' HO1210.out).2.2); (case q4 => exact (Kd.R_reads' HO1210.out).2.1); (case q5 => exact (Kd.R_reads' HO1213.out).2.2); (case q6 => exact (Kd.R_reads' HO1213.out).2.1); rintro e w89 ⟨rfl, hb⟩; refine ⟨_, rfl, ?_⟩; replace HO1207 := Z.rb HO1207 hb; replace HO1210 := Z.rb HO1210 hb; replace HO1213 := Z.rb HO1213 hb; replace HO1217 := Z.rb HO1217 hb; replace HO1220 := Z.rb HO1220 hb; replace BK1214 := Z.bb BK1214 hb; replace HB := Z.st (Z.bs HB.out GE1214.out) hb; (try clear hb)))
  go_ret
  exact ⟨by rfl, Z.bs HB.out GE1214.out⟩
 subst c9
 rw [if_pos rfl] at H
 obtain ⟨c10, H⟩ := Z.ifp H
 have c10b0 := eq_true c10
 have c10b1 : decide (0 ≤ t1204) = true := decide_eq_true c10
 clear c10
 obtain ⟨ji11, hji11⟩ : ∃ j_ : Int, (shl .i64 1 t1204) = j_ := ⟨_, rfl⟩
 replace H : ((impl_ReachOf.f k t1204 t1205 t1208 t1211 (wrap64 ((ji11) - 1))).bind fun t1224 => (laws_FnFixedOf.l0 k t1211 t1215 t1224 0 t1204 t1205 t1208)) = some r := by (rw [hji11] at H; exact H)
 have hji11_ : (IntKind.i64.wrap (1 * 2 ^ min t1204.toNat 64)) = ji11 := hji11
 have hji11z : t1204 ≤ 64 → (IntKind.i64.wrap (1 * 2 ^ t1204.toNat)) = ji11 := shl_small hji11
 have hji11u : (IntKind.i64.wrap (2 ^ min t1204.toNat 64)) = ji11 := by have h_ := hji11_; rw [Int.one_mul] at h_; exact h_
 have hji11v : t1204 ≤ 64 → (IntKind.i64.wrap (2 ^ t1204.toNat)) = ji11 := fun hle_ => by have h_ := hji11z hle_; rw [Int.one_mul] at h_; exact h_
 have hji11y : (wrap64 (1 * 2 ^ min t1204.toNat 64)) = ji11 := (i64_w _).symm.trans hji11_
 have hji11x : t1204 ≤ 64 → (wrap64 (1 * 2 ^ t1204.toNat)) = ji11 := fun h_ => (i64_w _).symm.trans (hji11z h_)
 revert H; refine Z.bd ?_; rintro t1224 A12 H
 have H' := Z.k H
 clear H
 go_enter Try.func10, Try.ntmps10
 try go_wp2_with (first | ((with_reducible refine gate_callee (f := 44) rfl ?_); refine goesL_ (some 15) rfl rfl Try.func44 (by kernel_rfl) rfl #[.slice A0 l0.length c0] rfl Z.ar ?_; (with_reducible refine (spec_DrawFixedOf.calls k _ _ l0 t1204 t1205 t1208 t1211 _ ?q1 ?q2 A3.out).mono ?_); (case q1 => exact HR0.out); (case q2 => exact HC0.out); rintro e w13 ⟨v1206, v1209, v1212, rfl, ho0, ho1, ho2, hb⟩; refine ⟨_, rfl, ?_⟩; have HO1207 := Z.k (Kd.R_lower ho0 (below_size (Z.bl HB.out))); have HO1210 := Z.k (Kd.R_lower ho1 (below_size (Z.bl HB.out))); have HO1213 := Z.k (Kd.R_lower ho2 (below_size (Z.bl HB.out))); replace HB := Z.st (Z.bl HB.out) hb; (try clear hb ho0 ho1); (try clear ho2)) | ((with_reducible refine gate_dst (N := 3) rfl ?_); (try (refine gate_guard (by rfl) ?_; dsimp only)); refine Z.bx #[.int .i64 0, .slice none 0 0, .slice none 0 0] 28 HB ?_; clear HB; intro gb1214 w14 BK1214 GE1214 HB hg hb; have GW1214 := GE1214; replace HO1207 := Z.rb HO1207 hb; replace HO1210 := Z.rb HO1210 hb; replace HO1213 := Z.rb HO1213 hb; clear hb hg; have hcz15 := Z.c3 BK1214.out; obtain ⟨Ao16, co16, eo16⟩ := Kd.R_slice HO1207.out; subst eo16; obtain ⟨Ao17, co17, eo17⟩ := Kd.R_slice HO1210.out; subst eo17; obtain ⟨Ao18, co18, eo18⟩ := Kd.R_slice HO1213.out; subst eo18) | ((with_reducible refine gate_callee (f := 45) rfl ?_); refine goesL_ (some 20) rfl rfl Try.func45 (by kernel_rfl) rfl #[.agg #[.int .i64 t1204, .slice Ao16 t1205.length co16, .slice Ao17 t1208.length co17], .slice Ao18 t1211.length co18] rfl Z.ar ?_; (with_reducible refine (impl_FixedOf.calls k t1204 _ _ t1205 _ _ t1208 _ _ t1211 t1215 _ ?q1 ?q2 ?q3 ?q4 ?q5 ?q6 A4.out).mono ?_); (case q1 => refine (Kd.R_reads' (e := 3) (base := w.heap.size) (ok := fun k_ => some k_ ≠ (.slice Ao18 t1211.length co18 : Value).ownBlock) (n := t1205.length) (c := co16) ?_).2.2; exact (Kd.R_mono (Kd.R_far (p := ⟨gb1214, 2, none⟩) (Kd.R_far (p := ⟨gb1214, 1, none⟩) (Kd.R_far (p := ⟨gb1214, 0, none⟩) (Kd.R_types HO1207.out BK1214.out (by decide)) (fun _ hk => hk.2) (.int .i64 t1204)) (fun _ hk => hk.2) (.slice Ao16 t1205.length co16)) (fun _ hk => hk.2) (.slice Ao17 t1208.length co17)) (fun _ h_ => h_.1))); (case q2 => exact (Kd.R_reads' HO1207.out).2.1); (case q3 => refine (Kd.R_reads' (e := 34) (base := w.heap.size) (ok := fun k_ => True) (n := t1208.length) (c := co17) ?_).2.2; exact (Kd.R_mono (Kd.R_far (p := ⟨gb1214, 2, none⟩) (Kd.R_far (p := ⟨gb1214, 1, none⟩) (Kd.R_far (p := ⟨gb1214, 0, none⟩) (Kd.R_types HO1210.out BK1214.out (by decide)) (fun _ hk => hk.2) (.int .i64 t1204)) (fun _ hk => hk.2) (.slice Ao16 t1205.length co16)) (fun _ hk => hk.2) (.slice Ao17 t1208.length co17)) (fun _ h_ => h_.1))); (case q4 => exact (Kd.R_reads' HO1210.out).2.1); (case q5 => refine (Kd.R_reads' (e := 3) (base := w.heap.size) (ok := fun k_ => some k_ ≠ (.slice Ao16 t1205.length co16 : Value).ownBlock) (n := t1211.length) (c := co18) ?_).2.2; exact (Kd.R_mono (Kd.R_far (p := ⟨gb1214, 2, none⟩) (Kd.R_far (p := ⟨gb1214, 1, none⟩) (Kd.R_far (p := ⟨gb1214, 0, none⟩) (Kd.R_types HO1213.out BK1214.out (by decide)) (fun _ hk => hk.2) (.int .i64 t1204)) (fun _ hk => hk.2) (.slice Ao16 t1205.length co16)) (fun _ hk => hk.2) (.slice Ao17 t1208.length co17)) (fun _ h_ => h_.1))); (case q6 => exact (Kd.R_reads' HO1213.out).2.1); rintro e w19 ⟨v1216, rfl, ho0, hb⟩; refine ⟨_, rfl, ?_⟩; replace HO1210 := Z.k (Kd.R_below (Kd.R_mono (Kd.R_far (p := ⟨gb1214, 2, none⟩) (Kd.R_far (p := ⟨gb1214, 1, none⟩) (Kd.R_far (p := ⟨gb1214, 0, none⟩) (Kd.R_types HO1210.out BK1214.out (by decide)) (fun _ hk => hk.2) (.int .i64 t1204)) (fun _ hk => hk.2) (.slice Ao16 t1205.length co16)) (fun _ hk => hk.2) (.slice Ao17 t1208.length co17)) (fun _ h_ => h_.1)) hb); have HO1217 := Z.k (Kd.R_lower (Kd.R_new' (Kd.R_new' ho0 (Kd.R_lt (Kd.R_mono (Kd.R_far (p := ⟨gb1214, 2, none⟩) (Kd.R_far (p := ⟨gb1214, 1, none⟩) (Kd.R_far (p := ⟨gb1214, 0, none⟩) (Kd.R_types HO1207.out BK1214.out (by decide)) (fun _ hk => hk.2) (.int .i64 t1204)) (fun _ hk => hk.2) (.slice Ao16 t1205.length co16)) (fun _ hk => hk.2) (.slice Ao17 t1208.length co17)) (fun _ h_ => h_.1)))) (Kd.R_lt (Kd.R_mono (Kd.R_far (p := ⟨gb1214, 2, none⟩) (Kd.R_far (p := ⟨gb1214, 1, none⟩) (Kd.R_far (p := ⟨gb1214, 0, none⟩) (Kd.R_types HO1213.out BK1214.out (by decide)) (fun _ hk => hk.2) (.int .i64 t1204)) (fun _ hk => hk.2) (.slice Ao16 t1205.length co16)) (fun _ hk => hk.2) (.slice Ao17 t1208.length co17)) (fun _ h_ => h_.1)))) (below_size (Z.bs HB.out GE1214.out))); replace HO1207 := Z.k (Kd.R_elder' (Kd.R_mono (Kd.R_far (p := ⟨gb1214, 2, none⟩) (Kd.R_far (p := ⟨gb1214, 1, none⟩) (Kd.R_far (p := ⟨gb1214, 0, none⟩) (Kd.R_types HO1207.out BK1214.out (by decide)) (fun _ hk => hk.2) (.int .i64 t1204)) (fun _ hk => hk.2) (.slice Ao16 t1205.length co16)) (fun _ hk => hk.2) (.slice Ao17 t1208.length co17)) (fun _ h_ => h_.1)) (Kd.R_base ho0) hb); replace HO1213 := Z.k (Kd.R_elder' (Kd.R_mono (Kd.R_far (p := ⟨gb1214, 2, none⟩) (Kd.R_far (p := ⟨gb1214, 1, none⟩) (Kd.R_far (p := ⟨gb1214, 0, none⟩) (Kd.R_types HO1213.out BK1214.out (by decide)) (fun _ hk => hk.2) (.int .i64 t1204)) (fun _ hk => hk.2) (.slice Ao16 t1205.length co16)) (fun _ hk => hk.2) (.slice Ao17 t1208.length co17)) (fun _ h_ => h_.1)) (Kd.R_base ho0) hb); replace BK1214 := Z.k (blk_below (g := gb1214) (o := .cells #[.int .i64 t1204, .slice Ao16 t1205.length co16, .slice Ao17 t1208.length co17] 28 (0, 0)) (by refine blk_put (cs := #[.int .i64 t1204, .slice Ao16 t1205.length co16, .slice none 0 0]) ?_ 2 _ rfl; refine blk_put (cs := #[.int .i64 t1204, .slice none 0 0, .slice none 0 0]) ?_ 1 _ rfl; refine blk_put (cs := #[.int .i64 0, .slice none 0 0, .slice none 0 0]) ?_ 0 _ rfl; exact BK1214.out) hb); replace HB := Z.st (Z.bs HB.out GE1214.out) hb; (try clear hb); (try clear ho0); have hcz20 := Z.c3 BK1214.out) | ((with_reducible refine gate_callee (f := 46) rfl ?_); refine goesL_ (some 24) rfl rfl Try.func46 (by kernel_rfl) rfl #[.agg #[.int .i64 t1204, .slice Ao16 t1205.length co16, .slice Ao17 t1208.length co17], .slice Ao18 t1211.length co18] rfl Z.ar ?_; (with_reducible refine (spec_FixedOf.calls k t1204 _ _ t1205 _ _ t1208 _ _ t1211 t1218 _ ?q1 ?q2 ?q3 ?q4 ?q5 ?q6 A5.out).mono ?_); (case q1 => exact (Kd.R_reads' HO1207.out).2.2); (case q2 => exact (Kd.R_reads' HO1207.out).2.1); (case q3 => exact (Kd.R_reads' HO1210.out).2.2); (case q4 => exact (Kd.R_reads' HO1210.out).2.1); (case q5 => exact (Kd.R_reads' HO1213.out).2.2); (case q6 => exact (Kd.R_reads' HO1213.out).2.1); rintro e w21 ⟨v1219, rfl, ho0, hb⟩; refine ⟨_, rfl, ?_⟩; replace HO1210 := Z.rb HO1210 hb; have HO1220 := Z.k (Kd.R_lower (Kd.R_new' (Kd.R_new' (Kd.R_new' ho0 (Kd.R_lt HO1207.out)) (Kd.R_lt HO1213.out)) (Kd.R_lt HO1217.out)) (below_size (Z.bs HB.out GE1214.out))); replace HO1207 := Z.k (Kd.R_elder' HO1207.out (Kd.R_base ho0) hb); replace HO1213 := Z.k (Kd.R_elder' HO1213.out (Kd.R_base ho0) hb); replace HO1217 := Z.k (Kd.R_elder' HO1217.out (Kd.R_base ho0) hb); replace BK1214 := Z.bb BK1214 hb; replace HB := Z.st (Z.bs HB.out GE1214.out) hb; (try clear hb); (try clear ho0); obtain ⟨Ao22, co22, eo22⟩ := Kd.R_slice HO1217.out; subst eo22; obtain ⟨Ao23, co23, eo23⟩ := Kd.R_slice HO1220.out; subst eo23) | ((with_reducible refine gate_callee (f := 34) rfl ?_); refine goesL_ (some 25) rfl rfl Try.func34 (by kernel_rfl) rfl #[.slice Ao22 t1215.length co22, .slice Ao23 t1218.length co23] rfl Z.ar ?_; (with_reducible refine (laws_sameInts.calls k _ _ t1215 _ _ t1218 true _ ?q1 ?q2 ?q3 ?q4 A6.out).mono ?_); (case q1 => exact (Kd.R_reads' HO1217.out).2.2); (case q2 => exact (Kd.R_reads' HO1217.out).2.1); (case q3 => exact (Kd.R_reads' HO1220.out).2.2); (case q4 => exact (Kd.R_reads' HO1220.out).2.1); rintro e w' ⟨rfl, ⟨nd, rfl⟩⟩; refine ⟨_, rfl, ?_⟩; have hcz24 := Z.c3 BK1214.out) | ((with_reducible refine gate_callee (f := 16) rfl ?_); refine goesL_ (some 29) rfl rfl Try.func16 (by kernel_rfl) rfl #[.agg #[.int .i64 t1204, .slice Ao16 t1205.length co16, .slice Ao17 t1208.length co17], .slice Ao18 t1211.length co18] rfl Z.ar ?_; (with_reducible refine (spec_StateOk.calls k t1204 _ _ t1205 _ _ t1208 _ _ t1211 true _ ?q1 ?q2 ?q3 ?q4 ?q5 ?q6 A8.out).mono ?_); (case q1 => exact (Kd.R_reads' HO1207.out).2.2); (case q2 => exact (Kd.R_reads' HO1207.out).2.1); (case q3 => exact (Kd.R_reads' HO1210.out).2.2); (case q4 => exact (Kd.R_reads' HO1210.out).2.1); (case q5 => exact (Kd.R_reads' HO1213.out).2.2); (case q6 => exact (Kd.R_reads' HO1213.out).2.1); rintro e w25 ⟨rfl, hb⟩; refine ⟨_, rfl, ?_⟩; replace HO1207 := Z.rb HO1207 hb; replace HO1210 := Z.rb HO1210 hb; replace HO1213 := Z.rb HO1213 hb; replace HO1217 := Z.rb HO1217 hb; replace HO1220 := Z.rb HO1220 hb; replace BK1214 := Z.bb BK1214 hb; replace HB := Z.st (Z.bs HB.out GE1214.out) hb; (try clear hb)))
 replace HO1207 := Z.k (Kd.R_drew HO1207.out)
 replace HO1210 := Z.k (Kd.R_drew HO1210.out)
 replace HO1213 := Z.k (Kd.R_drew HO1213.out)
 replace HO1217 := Z.k (Kd.R_drew HO1217.out)
 replace HO1220 := Z.k (Kd.R_drew HO1220.out)
 replace BK1214 := Z.k (blk_drew BK1214.out)
 replace HB := Z.k (below_drew1 HB.out)
 refine start_ (n := 9) (S := fun w' => w'.cell? ⟨gb1214, 0, none⟩ = some (.int .i64 t1204) ∧ w'.cell? ⟨gb1214, 1, none⟩ = some (.slice Ao16 t1205.length co16) ∧ w'.cell? ⟨gb1214, 2, none⟩ = some (.slice Ao17 t1208.length co17)) (ds := []) (Z.mb 9 0) (by kernel_rfl) rfl rfl ⟨Z.b BK1214 0, Z.b BK1214 1, Z.b BK1214 2⟩ (fun hHeld => ?_); refine with_tabW laws_FnFixedOf.tab9 laws_FnFixedOf.bits9 (fun HT_ HW_ => ?_)
 generalize w25.drew = w26 at HO1207 HO1210 HO1213 HO1217 HO1220 BK1214 HB hHeld ⊢
 refine Z.pv 1 38 9 2 HT_.out ?_
 refine Z.pv 2 39 9 6 HT_.out ?_
 refine Z.pv 3 40 9 14 HT_.out ?_
 refine Z.t3 0 37 9 15 HT_.out HW_.out hHeld ?_
 refine Z.t3 4 41 9 31 HT_.out HW_.out hHeld ?_
 refine Z.pv 5 42 9 63 HT_.out ?_
 refine Z.pv 6 43 9 127 HT_.out ?_
 refine one_ (i := 7) (N := some 44) (Z.mb 9 255) rfl rfl (one_of HT_.out (by kernel_rfl)) (by decide) (fun K hK => ?_)
 refine goes_ Try.func19 (by kernel_rfl) rfl #[.agg #[.int .i64 t1204, .slice Ao16 t1205.length co16, .slice Ao17 t1208.length co17], .slice Ao18 t1211.length co18, .int .i64 (wrap64 ((ji11) - 1))] (by rfl) rfl rfl (by (try simp only [List.map_toArray, List.map_cons, List.map_nil]); rfl) ?_
 with_reducible refine (impl_ReachOf.calls k t1204 _ _ t1205 _ _ t1208 _ _ t1211 (wrap64 ((ji11) - 1)) t1224 _ ?q1 ?q2 ?q3 ?q4 ?q5 ?q6 A12.out).mono ?_
 (case q1 => exact (Kd.R_reads' HO1207.out).2.2)
 (case q2 => exact (Kd.R_reads' HO1207.out).2.1)
 (case q3 => exact (Kd.R_reads' HO1210.out).2.2)
 (case q4 => exact (Kd.R_reads' HO1210.out).2.1)
 (case q5 => exact (Kd.R_reads' HO1213.out).2.2)
 (case q6 => exact (Kd.R_reads' HO1213.out).2.1)
 rintro e w27 ⟨v1225, rfl, ho0, hb⟩
 refine ⟨_, rfl, ?_⟩
 replace HO1210 := Z.rb HO1210 hb
 have HO1226 := Z.k (Kd.R_lower (Kd.R_new' (Kd.R_new' (Kd.R_new' (Kd.R_new' ho0 (Kd.R_lt HO1207.out)) (Kd.R_lt HO1213.out)) (Kd.R_lt HO1217.out)) (Kd.R_lt HO1220.out)) (below_size (Z.bs HB.out GE1214.out)))
 replace HO1207 := Z.k (Kd.R_elder' HO1207.out (Kd.R_base ho0) hb)
 replace HO1213 := Z.k (Kd.R_elder' HO1213.out (Kd.R_base ho0) hb)
 replace HO1217 := Z.k (Kd.R_elder' HO1217.out (Kd.R_base ho0) hb)
 replace HO1220 := Z.k (Kd.R_elder' HO1220.out (Kd.R_base ho0) hb)
 replace BK1214 := Z.bb BK1214 hb
 replace HB := Z.st (Z.bs HB.out GE1214.out) hb
 (try clear hb)
 (try clear ho0)
 refine hK.out _ _ ⟨Z.b BK1214 0, Z.b BK1214 1, Z.b BK1214 2⟩ (fun hHeld => ?_)
 clear hK K
 refine Z.nm ?_
 refine Z.pv 8 6 9 511 HT_.out ?_
 refine done_ (done_of HT_.out (by kernel_rfl)) ?_
 try go_wp2
 go_loopg [7] k (fun kq v7 w' => ∃ (x7_1 : Int), v7 = .int .i64 x7_1 ∧ Aside0 (laws_FnFixedOf.l0 kq t1211 t1215 t1224 x7_1 t1204 t1205 t1208 = some r) ∧ Aside0 (kq ≤ k) ∧ Aside0 (Kd.R (Kd.int .i64) 3 w' w.heap.size (fun k_ => some k_ ≠ ((.slice Ao22 t1215.length co22) : Value).ownBlock ∧ some k_ ≠ (v1225 : Value).ownBlock ∧ some k_ ≠ ((.slice Ao16 t1205.length co16) : Value).ownBlock) (.slice Ao18 t1211.length co18) t1211) ∧ Aside0 (Kd.R (Kd.int .i64) 3 w' w.heap.size (fun k_ => some k_ ≠ ((.slice Ao18 t1211.length co18) : Value).ownBlock ∧ some k_ ≠ (v1225 : Value).ownBlock ∧ some k_ ≠ ((.slice Ao16 t1205.length co16) : Value).ownBlock) (.slice Ao22 t1215.length co22) t1215) ∧ Aside0 (Kd.R (Kd.int .i64) 3 w' w.heap.size (fun k_ => some k_ ≠ ((.slice Ao18 t1211.length co18) : Value).ownBlock ∧ some k_ ≠ ((.slice Ao22 t1215.length co22) : Value).ownBlock ∧ some k_ ≠ ((.slice Ao16 t1205.length co16) : Value).ownBlock) v1225 t1224) ∧ Aside0 (Kd.R (Kd.int .i64) 3 w' w.heap.size (fun k_ => some k_ ≠ ((.slice Ao18 t1211.length co18) : Value).ownBlock ∧ some k_ ≠ ((.slice Ao22 t1215.length co22) : Value).ownBlock ∧ some k_ ≠ (v1225 : Value).ownBlock) (.slice Ao16 t1205.length co16) t1205) ∧ Aside0 (Kd.R (Kd.slice 37 k37) 34 w' w.heap.size (fun _ => True) (.slice Ao17 t1208.length co17) t1208) ∧ Aside0 (w'.heap[gb1214]? = some (.cells #[.int .i64 t1204, (.slice Ao16 t1205.length co16), (.slice Ao17 t1208.length co17)] 28 (0, 0))) ∧ Aside0 (Below w.heap.size w w'))
 case atStart => exact ⟨(0), (by rfl), H', ⟨Nat.le_refl _⟩, ⟨by exact Kd.R_mono HO1213.out (fun _ hk => ⟨hk.1.1.2, ⟨hk.2, hk.1.1.1⟩⟩)⟩, ⟨by exact Kd.R_mono HO1217.out (fun _ hk => ⟨hk.1.1.2, ⟨hk.2, hk.1.1.1.2⟩⟩)⟩, ⟨by exact Kd.R_mono HO1226.out (fun _ hk => ⟨hk.1.1.2, ⟨hk.1.2, hk.1.1.1.2⟩⟩)⟩, ⟨by exact Kd.R_mono HO1207.out (fun _ hk => ⟨hk.1.1.1, ⟨hk.1.1.2, hk.2⟩⟩)⟩, ⟨by exact HO1210.out⟩, ⟨by exact BK1214.out⟩, ⟨Z.bs HB.out GE1214.out⟩⟩
 clear H'
 try clear c2b0
 try clear c2b1
 try clear c10b0
 try clear c10b1
 obtain ⟨x7_1, rfl, HA, HK1, HO_4, HO_5, HO_6, HO_1215001, HO_1215002, BK1214, HB⟩ := hrel
 cases gk with
 | zero => exact absurd HA.out (by simp [laws_FnFixedOf.l0])
 | succ k1 =>
  have H := HA.out
  clear HA
  simp only [laws_FnFixedOf.l0] at H
  revert H; refine Z.fm ?_ ?_ <;> intro c28b0 H
  ·revert H; refine Z.bd ?_; rintro t1227 A57 H
   by_cases c58 : t1227 = true
   ·subst c58
    rw [if_pos rfl] at H
    revert H; refine Z.bd ?_; rintro t1228 A59 H
    obtain rfl := Option.some.inj H
    have hcz60 := Z.c3 BK1214.out
    go_wp2_with (first | ((with_reducible refine gate_callee (f := 39) rfl ?_); refine goesL_ (some 96) rfl rfl Try.func39 (by kernel_rfl) rfl #[.slice Ao22 t1215.length co22] rfl Z.ar ?_; (with_reducible refine (laws_ascend.calls k1 _ _ t1215 true _ ?q1 ?q2 A57.out).mono ?_); (case q1 => exact (Kd.R_reads' HO_5.out).2.2); (case q2 => exact (Kd.R_reads' HO_5.out).2.1); rintro e w' ⟨rfl, ⟨nd, rfl⟩⟩; refine ⟨_, rfl, ?_⟩) | (go_at_call 18; (with_reducible refine (laws_alive.calls  t1228 _ A59.out).mono ?_); rintro e w' ⟨rfl, ⟨nd, rfl⟩⟩))
    go_ret
    exact ⟨by rfl, Z.bs HB.out GE1214.out⟩
   replace c58 := Bool.eq_false_iff.mpr c58
   subst c58
   rw [if_neg (show ¬ (false = true) by decide)] at H
   obtain rfl := Option.some.inj H
   have hcz61 := Z.c3 BK1214.out
   go_wp2_with (((with_reducible refine gate_callee (f := 39) rfl ?_); refine goesL_ (some 96) rfl rfl Try.func39 (by kernel_rfl) rfl #[.slice Ao22 t1215.length co22] rfl Z.ar ?_; (with_reducible refine (laws_ascend.calls k1 _ _ t1215 false _ ?q1 ?q2 A57.out).mono ?_); (case q1 => exact (Kd.R_reads' HO_5.out).2.2); (case q2 => exact (Kd.R_reads' HO_5.out).2.1); rintro e w' ⟨rfl, ⟨nd, rfl⟩⟩; refine ⟨_, rfl, ?_⟩))
   go_ret
   exact ⟨by rfl, Z.bs HB.out GE1214.out⟩
  have H' := Z.k H
  clear H
  have hcz29 := Z.c3 BK1214.out
  go_wp2
  go_loopg [8, 9] k1 (fun kq v8 v9 w' => ∃ (x8_2 : Bool) (x9_2 : Int), v8 = .bool x8_2 ∧ v9 = .int .i64 x9_2 ∧ Aside0 (laws_FnFixedOf.l1 kq t1211 t1215 t1224 x7_1 x8_2 x9_2 t1204 t1205 t1208 = some r) ∧ Aside0 (kq ≤ k1) ∧ Aside0 (Kd.R (Kd.int .i64) 3 w' w.heap.size (fun k_ => some k_ ≠ ((.slice Ao22 t1215.length co22) : Value).ownBlock ∧ some k_ ≠ (v1225 : Value).ownBlock ∧ some k_ ≠ ((.slice Ao16 t1205.length co16) : Value).ownBlock) (.slice Ao18 t1211.length co18) t1211) ∧ Aside0 (Kd.R (Kd.int .i64) 3 w' w.heap.size (fun k_ => some k_ ≠ ((.slice Ao18 t1211.length co18) : Value).ownBlock ∧ some k_ ≠ (v1225 : Value).ownBlock ∧ some k_ ≠ ((.slice Ao16 t1205.length co16) : Value).ownBlock) (.slice Ao22 t1215.length co22) t1215) ∧ Aside0 (Kd.R (Kd.int .i64) 3 w' w.heap.size (fun k_ => some k_ ≠ ((.slice Ao18 t1211.length co18) : Value).ownBlock ∧ some k_ ≠ ((.slice Ao22 t1215.length co22) : Value).ownBlock ∧ some k_ ≠ ((.slice Ao16 t1205.length co16) : Value).ownBlock) v1225 t1224) ∧ Aside0 (Kd.R (Kd.int .i64) 3 w' w.heap.size (fun k_ => some k_ ≠ ((.slice Ao18 t1211.length co18) : Value).ownBlock ∧ some k_ ≠ ((.slice Ao22 t1215.length co22) : Value).ownBlock ∧ some k_ ≠ (v1225 : Value).ownBlock) (.slice Ao16 t1205.length co16) t1205) ∧ Aside0 (Kd.R (Kd.slice 37 k37) 34 w' w.heap.size (fun _ => True) (.slice Ao17 t1208.length co17) t1208) ∧ Aside0 (w'.heap[gb1214]? = some (.cells #[.int .i64 t1204, (.slice Ao16 t1205.length co16), (.slice Ao17 t1208.length co17)] 28 (0, 0))) ∧ Aside0 (Below w.heap.size w w'))
  case atStart => exact ⟨(false), (0), (by rfl), (by rfl), H', ⟨Nat.le_refl _⟩, ⟨by exact HO_4.out⟩, ⟨by exact HO_5.out⟩, ⟨by exact HO_6.out⟩, ⟨by exact HO_1215001.out⟩, ⟨by exact HO_1215002.out⟩, ⟨by exact BK1214.out⟩, ⟨Z.bs HB.out GE1214.out⟩⟩
  clear H'
  try clear c28b0
  obtain ⟨x8_2, x9_2, rfl, rfl, HA, HK2, HO_4, HO_5, HO_6, HO_1215001, HO_1215002, BK1214, HB⟩ := hrel
  cases gk with
  | zero => exact absurd HA.out (by simp [laws_FnFixedOf.l1])
  | succ k2 =>
   have H := HA.out
   clear HA
   simp only [laws_FnFixedOf.l1] at H
   revert H; refine Z.fm ?_ ?_ <;> intro c30b0 H
   ·revert H; refine Z.bd ?_; rintro t1235 A43 H
    by_cases c44 : (x8_2 == t1235) = true
    ·rw [if_pos c44] at H
     have c44b0 : (x8_2 == t1235) = true := c44
     (try (have c44b1 : decide (x8_2 = t1235) = true := by simpa using c44))
     (try (have c44b2 : (x8_2 == t1235) = true := by simpa using c44))
     clear c44
     obtain rfl := Option.some.inj H
     obtain ⟨Ao45, co45, eo45⟩ := Kd.R_slice HO_6.out
     subst eo45
     go_wp2_with (((with_reducible refine gate_callee (f := 28) rfl ?_); refine goesL_ (some 78) rfl rfl Try.func28 (by kernel_rfl) rfl #[.slice Ao22 t1215.length co22, .int .i64 x7_1] rfl Z.ar ?_; (with_reducible refine (laws_hasInt.calls k2 _ _ t1215 x7_1 t1235 _ ?q1 ?q2 A43.out).mono ?_); (case q1 => exact (Kd.R_reads' HO_5.out).2.2); (case q2 => exact (Kd.R_reads' HO_5.out).2.1); rintro e w' ⟨rfl, ⟨nd, rfl⟩⟩; refine ⟨_, rfl, ?_⟩))
     go_ret
     exact ⟨by rfl, Z.bs HB.out GE1214.out⟩
    rw [if_neg c44] at H
    have c44b0 : (x8_2 == t1235) = false := by simpa using c44
    (try (have c44b1 : decide (x8_2 = t1235) = false := by simpa using c44))
    (try (have c44b2 : (x8_2 == t1235) = false := by simpa using c44))
    (try (have c44b3 : ¬ (x8_2 = t1235) := by simpa using c44))
    clear c44
    obtain ⟨c46b0, H⟩ := Z.fd H
    obtain ⟨c47b0, H⟩ := Z.fd H
    by_cases c48 : ((rd_L5 t1208 x7_1).length : Int) = 1
    ·rw [if_pos c48] at H
     have c48b0 : (((rd_L5 t1208 x7_1).length : Int) == 1) = true := beq_iff_eq.mpr c48
     have c48b1 : (((rd_L5 t1208 x7_1).length : Int) != 1) = false := bne_eq_false_iff_eq.mpr c48
     clear c48
     revert H; refine Z.bd ?_; rintro t1237 A49 H
     by_cases c50 : t1237 = true
     ·subst c50
      rw [if_pos rfl] at H
      have H' := Z.k H
      clear H
      obtain ⟨Ao51, co51, eo51⟩ := Kd.R_slice HO_6.out
      subst eo51
      go_wp2_with (first | ((with_reducible refine gate_callee (f := 28) rfl ?_); refine goesL_ (some 78) rfl rfl Try.func28 (by kernel_rfl) rfl #[.slice Ao22 t1215.length co22, .int .i64 x7_1] rfl Z.ar ?_; (with_reducible refine (laws_hasInt.calls k2 _ _ t1215 x7_1 t1235 _ ?q1 ?q2 A43.out).mono ?_); (case q1 => exact (Kd.R_reads' HO_5.out).2.2); (case q2 => exact (Kd.R_reads' HO_5.out).2.1); rintro e w' ⟨rfl, ⟨nd, rfl⟩⟩; refine ⟨_, rfl, ?_⟩; have hcz52 := Z.c3 BK1214.out; have p1236 : 0 ≤ (x7_1 : Int) := Z.od; have q1236 : x7_1 < (t1208.length : Int) := Z.od; obtain ⟨ad1236, A1236_0, c1236_0, e1236, hx1236_0, hl1236_0, hi1236_0⟩ := at_L5 (Kd.R_reads' HO_1215002.out).2.2 x7_1 p1236 q1236; cases e1236; obtain ⟨ce1236, hce1236, hMe1236, hcc1236⟩ := Kd.R_get HO_1215002.out [] x7_1 p1236 q1236; obtain ⟨ve1236_0, rfl, ge1236_0⟩ := hMe1236; have hv1236_0 := hcc1236 0 _ rfl; rw [Nat.add_zero, show ((Kd.slice 37 k37)).sz = 1 from rfl, Nat.mul_one] at hv1236_0; replace hv1236_0 := Option.some.inj (hv1236_0.symm.trans hx1236_0); rw [hv1236_0] at ge1236_0; have HL1236_0 := Z.k (show Kd.R k37 37 _ _ _ _ (rd_L5 t1208 x7_1) from ge1236_0); clear hv1236_0 ge1236_0; clear hcc1236 hce1236; have HR1236_0 := Z.k hi1236_0; have HC1236_0 := Z.k hl1236_0; clear hi1236_0 hl1236_0; replace p1236 := eq_true p1236; replace q1236 := eq_true q1236) | (go_at_call 28; (with_reducible refine (laws_hasInt.calls k2 _ _ t1215 x7_1 true _ ?q1 ?q2 A49.out).mono ?_); (case q1 => exact (Kd.R_reads' HO_5.out).2.2); (case q2 => exact (Kd.R_reads' HO_5.out).2.1); rintro e w' ⟨rfl, ⟨nd, rfl⟩⟩))
      go_roundg k2
      case measure => have := HK1.out; have := HK2.out; omega
      case rel => exact ⟨(wrap64 (x7_1 + 1)), (by rfl), H', ⟨by have := HK1.out; have := HK2.out; omega⟩, ⟨by (with_reducible repeat (apply Kd.R_drewN)); exact HO_4.out⟩, ⟨by (with_reducible repeat (apply Kd.R_drewN)); exact HO_5.out⟩, ⟨by (with_reducible repeat (apply Kd.R_drewN)); exact HO_6.out⟩, ⟨by (with_reducible repeat (apply Kd.R_drewN)); exact HO_1215001.out⟩, ⟨by (with_reducible repeat (apply Kd.R_drewN)); exact HO_1215002.out⟩, ⟨by (with_reducible repeat (refine blk_drewN ?_ _)); exact BK1214.out⟩, ⟨Z.bs HB.out GE1214.out⟩⟩
     replace c50 := Bool.eq_false_iff.mpr c50
     subst c50
     rw [if_neg (show ¬ (false = true) by decide)] at H
     obtain rfl := Option.some.inj H
     obtain ⟨Ao53, co53, eo53⟩ := Kd.R_slice HO_6.out
     subst eo53
     go_wp2_with (first | ((with_reducible refine gate_callee (f := 28) rfl ?_); refine goesL_ (some 78) rfl rfl Try.func28 (by kernel_rfl) rfl #[.slice Ao22 t1215.length co22, .int .i64 x7_1] rfl Z.ar ?_; (with_reducible refine (laws_hasInt.calls k2 _ _ t1215 x7_1 t1235 _ ?q1 ?q2 A43.out).mono ?_); (case q1 => exact (Kd.R_reads' HO_5.out).2.2); (case q2 => exact (Kd.R_reads' HO_5.out).2.1); rintro e w' ⟨rfl, ⟨nd, rfl⟩⟩; refine ⟨_, rfl, ?_⟩; have hcz54 := Z.c3 BK1214.out; have p1236 : 0 ≤ (x7_1 : Int) := Z.od; have q1236 : x7_1 < (t1208.length : Int) := Z.od; obtain ⟨ad1236, A1236_0, c1236_0, e1236, hx1236_0, hl1236_0, hi1236_0⟩ := at_L5 (Kd.R_reads' HO_1215002.out).2.2 x7_1 p1236 q1236; cases e1236; obtain ⟨ce1236, hce1236, hMe1236, hcc1236⟩ := Kd.R_get HO_1215002.out [] x7_1 p1236 q1236; obtain ⟨ve1236_0, rfl, ge1236_0⟩ := hMe1236; have hv1236_0 := hcc1236 0 _ rfl; rw [Nat.add_zero, show ((Kd.slice 37 k37)).sz = 1 from rfl, Nat.mul_one] at hv1236_0; replace hv1236_0 := Option.some.inj (hv1236_0.symm.trans hx1236_0); rw [hv1236_0] at ge1236_0; have HL1236_0 := Z.k (show Kd.R k37 37 _ _ _ _ (rd_L5 t1208 x7_1) from ge1236_0); clear hv1236_0 ge1236_0; clear hcc1236 hce1236; have HR1236_0 := Z.k hi1236_0; have HC1236_0 := Z.k hl1236_0; clear hi1236_0 hl1236_0; replace p1236 := eq_true p1236; replace q1236 := eq_true q1236) | (go_at_call 28; (with_reducible refine (laws_hasInt.calls k2 _ _ t1215 x7_1 false _ ?q1 ?q2 A49.out).mono ?_); (case q1 => exact (Kd.R_reads' HO_5.out).2.2); (case q2 => exact (Kd.R_reads' HO_5.out).2.1); rintro e w' ⟨rfl, ⟨nd, rfl⟩⟩))
     go_ret
     exact ⟨by rfl, Z.bs HB.out GE1214.out⟩
    rw [if_neg c48] at H
    have c48b0 : (((rd_L5 t1208 x7_1).length : Int) == 1) = false := beq_eq_false_iff_ne.mpr c48
    have c48b1 : (((rd_L5 t1208 x7_1).length : Int) != 1) = true := bne_iff_ne.mpr c48
    have H' := Z.k H
    clear H
    obtain ⟨Ao55, co55, eo55⟩ := Kd.R_slice HO_6.out
    subst eo55
    go_wp2_with (((with_reducible refine gate_callee (f := 28) rfl ?_); refine goesL_ (some 78) rfl rfl Try.func28 (by kernel_rfl) rfl #[.slice Ao22 t1215.length co22, .int .i64 x7_1] rfl Z.ar ?_; (with_reducible refine (laws_hasInt.calls k2 _ _ t1215 x7_1 t1235 _ ?q1 ?q2 A43.out).mono ?_); (case q1 => exact (Kd.R_reads' HO_5.out).2.2); (case q2 => exact (Kd.R_reads' HO_5.out).2.1); rintro e w' ⟨rfl, ⟨nd, rfl⟩⟩; refine ⟨_, rfl, ?_⟩; have hcz56 := Z.c3 BK1214.out; have p1236 : 0 ≤ (x7_1 : Int) := Z.od; have q1236 : x7_1 < (t1208.length : Int) := Z.od; obtain ⟨ad1236, A1236_0, c1236_0, e1236, hx1236_0, hl1236_0, hi1236_0⟩ := at_L5 (Kd.R_reads' HO_1215002.out).2.2 x7_1 p1236 q1236; cases e1236; obtain ⟨ce1236, hce1236, hMe1236, hcc1236⟩ := Kd.R_get HO_1215002.out [] x7_1 p1236 q1236; obtain ⟨ve1236_0, rfl, ge1236_0⟩ := hMe1236; have hv1236_0 := hcc1236 0 _ rfl; rw [Nat.add_zero, show ((Kd.slice 37 k37)).sz = 1 from rfl, Nat.mul_one] at hv1236_0; replace hv1236_0 := Option.some.inj (hv1236_0.symm.trans hx1236_0); rw [hv1236_0] at ge1236_0; have HL1236_0 := Z.k (show Kd.R k37 37 _ _ _ _ (rd_L5 t1208 x7_1) from ge1236_0); clear hv1236_0 ge1236_0; clear hcc1236 hce1236; have HR1236_0 := Z.k hi1236_0; have HC1236_0 := Z.k hl1236_0; clear hi1236_0 hl1236_0; replace p1236 := eq_true p1236; replace q1236 := eq_true q1236))
    go_roundg k2
    case measure => have := HK1.out; have := HK2.out; omega
    case rel => exact ⟨(wrap64 (x7_1 + 1)), (by rfl), H', ⟨by have := HK1.out; have := HK2.out; omega⟩, ⟨by (with_reducible repeat (apply Kd.R_drewN)); exact HO_4.out⟩, ⟨by (with_reducible repeat (apply Kd.R_drewN)); exact HO_5.out⟩, ⟨by (with_reducible repeat (apply Kd.R_drewN)); exact HO_6.out⟩, ⟨by (with_reducible repeat (apply Kd.R_drewN)); exact HO_1215001.out⟩, ⟨by (with_reducible repeat (apply Kd.R_drewN)); exact HO_1215002.out⟩, ⟨by (with_reducible repeat (refine blk_drewN ?_ _)); exact BK1214.out⟩, ⟨Z.bs HB.out GE1214.out⟩⟩
   by_cases c31 : x8_2 = true
   ·subst c31
    rw [if_pos rfl] at H
    have H' := Z.k H
    clear H
    obtain ⟨Ao32, co32, eo32⟩ := Kd.R_slice HO_6.out
    subst eo32
    try go_wp2
    replace HO_4 := Z.k (Kd.R_drew HO_4.out)
    replace HO_5 := Z.k (Kd.R_drew HO_5.out)
    replace HO_6 := Z.k (Kd.R_drew HO_6.out)
    replace HO_1215001 := Z.k (Kd.R_drew HO_1215001.out)
    replace HO_1215002 := Z.k (Kd.R_drew HO_1215002.out)
    replace BK1214 := Z.k (blk_drew BK1214.out)
    replace HB := Z.k (below_drew1 HB.out)
    refine start_ (n := 18) (S := fun w' => True) (ds := []) (Z.mb 18 0) (by kernel_rfl) rfl rfl trivial (fun hHeld => ?_); refine with_tabW laws_FnFixedOf.tab17 laws_FnFixedOf.bits17 (fun HT_ HW_ => ?_)
    generalize wr.drew = w33 at HO_4 HO_5 HO_6 HO_1215001 HO_1215002 BK1214 HB hHeld ⊢
    refine Z.pv 0 58 18 1 HT_.out ?_
    refine Z.pv 1 59 18 3 HT_.out ?_
    refine Z.pu 2 60 18 7 HT_.out ?_
    refine Z.pu 3 61 18 15 HT_.out ?_
    refine Z.pu 4 62 18 31 HT_.out ?_
    refine Z.pu 5 63 18 63 HT_.out ?_
    refine Z.pu 6 64 18 127 HT_.out ?_
    refine Z.pu 7 65 18 255 HT_.out ?_
    refine Z.pu 8 66 18 511 HT_.out ?_
    refine Z.pu 9 67 18 1023 HT_.out ?_
    refine Z.pu 10 68 18 2047 HT_.out ?_
    refine Z.pu 11 69 18 4095 HT_.out ?_
    refine Z.pu 12 70 18 8191 HT_.out ?_
    refine Z.pu 13 71 18 16383 HT_.out ?_
    refine Z.pu 14 72 18 32767 HT_.out ?_
    refine Z.pu 15 73 18 65535 HT_.out ?_
    refine Z.pv 16 74 18 131071 HT_.out ?_
    refine Z.pv 17 8 18 262143 HT_.out ?_
    refine done_ (done_of HT_.out (by kernel_rfl)) ?_
    try go_wp2
    go_roundg k2
    case measure => have := HK1.out; have := HK2.out; omega
    case rel => exact ⟨(true), (wrap64 (x9_2 + 1)), (by rfl), (by rfl), H', ⟨by have := HK1.out; have := HK2.out; omega⟩, ⟨by exact HO_4.out⟩, ⟨by exact HO_5.out⟩, ⟨by exact HO_6.out⟩, ⟨by exact HO_1215001.out⟩, ⟨by exact HO_1215002.out⟩, ⟨by exact BK1214.out⟩, ⟨Z.bs HB.out GE1214.out⟩⟩
   replace c31 := Bool.eq_false_iff.mpr c31
   subst c31
   rw [if_neg (show ¬ (false = true) by decide)] at H
   obtain ⟨c34b0, H⟩ := Z.fd H
   revert H; refine Z.bd ?_; rintro t1230 A35 H
   obtain ⟨c36b0, H⟩ := Z.fd H
   obtain ⟨c37b0, H⟩ := Z.fd H
   obtain ⟨c38b0, H⟩ := Z.fd H
   have H' := Z.k H
   clear H
   obtain ⟨Ao39, co39, eo39⟩ := Kd.R_slice HO_6.out
   subst eo39
   try go_wp2
   replace HO_4 := Z.k (Kd.R_drew HO_4.out)
   replace HO_5 := Z.k (Kd.R_drew HO_5.out)
   replace HO_6 := Z.k (Kd.R_drew HO_6.out)
   replace HO_1215001 := Z.k (Kd.R_drew HO_1215001.out)
   replace HO_1215002 := Z.k (Kd.R_drew HO_1215002.out)
   replace BK1214 := Z.k (blk_drew BK1214.out)
   replace HB := Z.k (below_drew1 HB.out)
   have p1229 : 0 ≤ (x9_2 : Int) := Z.od
   have q1229 : x9_2 < (t1224.length : Int) := Z.od
   obtain ⟨ad1229, e1229, hx1229_0⟩ := Kd.at_int (Kd.R_reads' HO_6.out).2.2 x9_2 p1229 q1229
   cases e1229
   replace p1229 := eq_true p1229
   replace q1229 := eq_true q1229
   have p1234 : 0 ≤ (x7_1 : Int) := Z.od
   have q1234 : x7_1 < (t1211.length : Int) := Z.od
   obtain ⟨ad1234, e1234, hx1234_0⟩ := Kd.at_int (Kd.R_reads' HO_4.out).2.2 x7_1 p1234 q1234
   cases e1234
   replace p1234 := eq_true p1234
   replace q1234 := eq_true q1234
   refine start_ (n := 18) (S := fun w' => w'.cell? ⟨gb1214, 0, none⟩ = some (.int .i64 t1204) ∧ w'.cell? ⟨gb1214, 1, none⟩ = some (.slice Ao16 t1205.length co16) ∧ w'.cell? ⟨gb1214, 2, none⟩ = some (.slice Ao17 t1208.length co17) ∧ w'.cell? (ad1229.add (x9_2).toNat) = some (.int .i64 (rd t1224 x9_2)) ∧ w'.cell? (ad1234.add (x7_1).toNat) = some (.int .i64 (rd t1211 x7_1))) (ds := []) (Z.mb 18 0) (by kernel_rfl) rfl rfl ⟨Z.b BK1214 0, Z.b BK1214 1, Z.b BK1214 2, hx1229_0, hx1234_0⟩ (fun hHeld => ?_); refine with_tabW laws_FnFixedOf.tab17 laws_FnFixedOf.bits17 (fun HT_ HW_ => ?_)
   generalize wr.drew = w40 at HO_4 HO_5 HO_6 HO_1215001 HO_1215002 BK1214 HB hx1229_0 hx1234_0 hHeld ⊢
   refine Z.pv 0 58 18 1 HT_.out ?_
   refine Z.pv 1 59 18 3 HT_.out ?_
   refine Z.pv 3 61 18 11 HT_.out ?_
   refine Z.pv 4 62 18 27 HT_.out ?_
   refine Z.pv 5 63 18 59 HT_.out ?_
   refine Z.pv 8 66 18 315 HT_.out ?_
   refine Z.pv 11 69 18 2363 HT_.out ?_
   refine Z.pv 12 70 18 6459 HT_.out ?_
   refine Z.pv 13 71 18 14651 HT_.out ?_
   refine Z.t5 2 60 18 14655 HT_.out HW_.out hHeld ?_
   refine Z.t5 6 64 18 14719 HT_.out HW_.out hHeld ?_
   refine Z.t5 14 72 18 31103 HT_.out HW_.out hHeld ?_
   refine one_ (i := 7) (N := some 65) (Z.mb 18 31231) rfl rfl (one_of HT_.out (by kernel_rfl)) (by decide) (fun K hK => ?_)
   refine goes_ Try.func38 (by kernel_rfl) rfl #[.agg #[.int .i64 t1204, .slice Ao16 t1205.length co16, .slice Ao17 t1208.length co17], .int .i64 (rd t1224 x9_2)] (by rfl) rfl rfl Z.ar ?_
   with_reducible refine (laws_stateOf.calls k2 t1204 _ _ t1205 _ _ t1208 (rd t1224 x9_2) t1230 _ ?q1 ?q2 ?q3 ?q4 A35.out).mono ?_
   (case q1 => exact (Kd.R_reads' HO_1215001.out).2.2)
   (case q2 => exact (Kd.R_reads' HO_1215001.out).2.1)
   (case q3 => exact (Kd.R_reads' HO_1215002.out).2.2)
   (case q4 => exact (Kd.R_reads' HO_1215002.out).2.1)
   rintro e w41 ⟨v1231, rfl, ho0, hb⟩
   have HS3_ := (hb.cell (World.block_lt_of_cell? _ _ (hHeld.2.2.2.1))).trans (hHeld.2.2.2.1)
   have HS4_ := (hb.cell (World.block_lt_of_cell? _ _ (hHeld.2.2.2.2))).trans (hHeld.2.2.2.2)
   refine ⟨_, rfl, ?_⟩
   replace HO_1215002 := Z.rb HO_1215002 hb
   have HO1232 := Z.k (Kd.R_lower (Kd.R_new' (Kd.R_new' (Kd.R_new' (Kd.R_new' ho0 (Kd.R_lt HO_4.out)) (Kd.R_lt HO_5.out)) (Kd.R_lt HO_6.out)) (Kd.R_lt HO_1215001.out)) (below_size (Z.bs HB.out GE1214.out)))
   replace HO_4 := Z.k (Kd.R_elder' HO_4.out (Kd.R_base ho0) hb)
   replace HO_5 := Z.k (Kd.R_elder' HO_5.out (Kd.R_base ho0) hb)
   replace HO_6 := Z.k (Kd.R_elder' HO_6.out (Kd.R_base ho0) hb)
   replace HO_1215001 := Z.k (Kd.R_elder' HO_1215001.out (Kd.R_base ho0) hb)
   replace BK1214 := Z.bb BK1214 hb
   replace HB := Z.st (Z.bs HB.out GE1214.out) hb
   (try clear hb)
   (try clear ho0)
   obtain ⟨Ao42, co42, eo42⟩ := Kd.R_slice HO1232.out
   (subst eo42)
   have p1233 : 0 ≤ (x7_1 : Int) := Z.od
   have q1233 : x7_1 < (t1230.length : Int) := Z.od
   obtain ⟨ad1233, e1233, hx1233_0⟩ := Kd.at_int (Kd.R_reads' HO1232.out).2.2 x7_1 p1233 q1233
   cases e1233
   replace p1233 := eq_true p1233
   replace q1233 := eq_true q1233
   refine hK.out _ _ ⟨Z.b BK1214 0, Z.b BK1214 1, Z.b BK1214 2, HS3_, HS4_⟩ (fun hHeld => ?_)
   clear hK K
   refine Z.nm ?_
   refine Z.pv 9 67 18 31743 HT_.out ?_
   refine one_ (i := 10) (N := some 68) (Z.mb 18 32767) rfl rfl (one_of HT_.out (by kernel_rfl)) (by decide) (fun K hK => ?_)
   refine value_ (v := .int .i64 (rd t1230 x7_1)) rfl rfl (by go_simp; with_reducible rfl) ?_
   refine hK.out _ _ hHeld (fun hHeld => ?_)
   clear hK K
   refine Z.nm ?_
   refine Z.pv 15 73 18 65535 HT_.out ?_
   refine Z.pv 16 74 18 131071 HT_.out ?_
   refine Z.pv 17 8 18 262143 HT_.out ?_
   refine done_ (done_of HT_.out (by kernel_rfl)) ?_
   try go_wp2
   go_roundg k2
   case measure => have := HK1.out; have := HK2.out; omega
   case rel => exact ⟨(((rd t1230 x7_1) != (rd t1211 x7_1))), (wrap64 (x9_2 + 1)), (by rfl), (by rfl), H', ⟨by have := HK1.out; have := HK2.out; omega⟩, ⟨by exact Kd.R_mono HO_4.out (fun _ hk => ⟨hk.1.1, ⟨hk.1.2.1, hk.1.2.2⟩⟩)⟩, ⟨by exact Kd.R_mono HO_5.out (fun _ hk => ⟨hk.1.1, ⟨hk.1.2.1, hk.1.2.2⟩⟩)⟩, ⟨by exact Kd.R_mono HO_6.out (fun _ hk => ⟨hk.1.1, ⟨hk.1.2.1, hk.1.2.2⟩⟩)⟩, ⟨by exact Kd.R_mono HO_1215001.out (fun _ hk => ⟨hk.1.1, ⟨hk.1.2.1, hk.1.2.2⟩⟩)⟩, ⟨by exact HO_1215002.out⟩, ⟨by exact BK1214.out⟩, ⟨Z.bs HB.out GE1214.out⟩⟩
/-- THE ONE PURE STATEMENT of laws_FnFixedOf: yours. -/
def laws_FnFixedOf.Pure : Prop := ∀ (l0 : List Int), l0.length ≤ maxLen → l0.length * 1 ≤ 140737488351232 → (∀ x ∈ l0, (Lit.int .u8 x).wf = true) → ∃ k, laws_FnFixedOf.f k l0 = some true
theorem laws_FnFixedOf.walk (P : laws_FnFixedOf.Pure) (a0 : Option Addr) (len0 cap0 : Nat) (z0 : List Int) (w : World) (w0 : (a0 = none ∧ len0 = 0 ∧ cap0 = 0 ∧ z0 = []) ∨ ∃ x, a0 = some x ∧ len0 ≤ cap0 ∧ cap0 ≤ maxLen ∧ z0.length = cap0 ∧ (∀ i, i < z0.length → w.cell? (x.add i) = some (.int .u8 (z0.getD i 0))) ∧ ∀ n ∈ z0, (Lit.int .u8 n).wf = true) (y0 : len0 * 1 ≤ 140737488351232) :
  Calls Try.prog 10 #[.slice a0 len0 cap0] w fun e w' => e = .returned (.bool true) ∧ Below w.heap.size w w' := by
 obtain ⟨l0, rfl, hr0, hm0, hw0, hc0⟩ := ReadsInt.ofRowC w0
 obtain ⟨k, h⟩ := P l0 hm0 y0 hw0
 refine (laws_FnFixedOf.calls k _ _ l0 true w (Kd.C_of_reads (d := (0 : Int)) (h1 := fun _ => rfl) hr0) hc0 h).mono ?_
 rintro e w' ⟨rfl, hd⟩
 exact ⟨rfl, hd⟩

end Go.Proofs.Ytkogboechfieeaa.PAll

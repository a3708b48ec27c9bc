/- Walks of functions that laws of this seat reach, in the form of the print. -/
import Derived.Test.YtkogboechfieeaaCAll0
import Derived.Test.YtkogboechfieeaaCAll1
import Derived.Test.YtkogboechfieeaaCAll3
import Derived.Test.YtkogboechfieeaaCAll31
import Derived.Test.YtkogboechfieeaaCAll48
import Derived.Test.YtkogboechfieeaaCAll6
import Derived.Test.YtkogboechfieeaaCAll71
import Derived.Test.YtkogboechfieeaaCAll75
import Derived.Test.YtkogboechfieeaaZ
-- PRINTED
namespace Go.Proofs.Ytkogboechfieeaa.PAll
open Go.RowKit Go.Proofs.YtkogboechfieeaaW.PrintWords Go.Proofs.YtkogboechfieeaaW.PrintLast Go.Proofs.YtkogboechfieeaaW.PrintMore
attribute [local go_sem] max2_int min2_int max_two min_two max_three min_three max_four min_four
set_option linter.unusedVariables false
set_option linter.unusedSimpArgs false

/-! ### laws_FnSafeFor: function 9 -/
mutual
def laws_FnSafeFor.j0 : Nat → List Int → List Int → Int → Bool → Bool → Int → List Int → List (List (S37)) → Option (Bool)
 | 0, _, _, _, _, _, _, _, _ => none
 | k + 1, x4, x5, x6, x7, x46, x1128000, x1128001, x1128002 => if x46 = true then (if x7 = true then (some false) else ((laws_alive.f).bind fun t1132 => (some t1132))) else (laws_FnSafeFor.l0 k x4 x5 x6 x7 0 x1128000 x1128001 x1128002)
def laws_FnSafeFor.l0 : Nat → List Int → List Int → Int → Bool → Int → Int → List Int → List (List (S37)) → Option (Bool)
 | 0, _, _, _, _, _, _, _, _ => none
 | k + 1, x4, x5, x6, x7, x8, x1128000, x1128001, x1128002 => if x8 < (x5.length : Int) then (if 0 ≤ x8 then (if (rd x5 x8) < 0 then (if x7 = true then (some false) else ((laws_alive.f).bind fun t1134 => (some t1134))) else (if (rd x5 x8) ≥ 27 then (if x7 = true then (some false) else ((laws_alive.f).bind fun t1136 => (some t1136))) else (laws_FnSafeFor.l0 k x4 x5 x6 x7 (wrap64 (x8 + 1)) x1128000 x1128001 x1128002))) else (none)) else (laws_FnSafeFor.l1 k x4 x5 x6 x7 0 x1128000 x1128001 x1128002)
def laws_FnSafeFor.l1 : Nat → List Int → List Int → Int → Bool → Int → Int → List Int → List (List (S37)) → Option (Bool)
 | 0, _, _, _, _, _, _, _, _ => none
 | k + 1, x4, x5, x6, x7, x9, x1128000, x1128001, x1128002 => if x9 < x1128000 then (laws_FnSafeFor.j3 k x4 x5 x6 x7 x9 x7 x1128000 x1128001 x1128002) else (laws_FnSafeFor.j3 k x4 x5 x6 x7 x9 false x1128000 x1128001 x1128002)
def laws_FnSafeFor.j3 : Nat → List Int → List Int → Int → Bool → Int → Bool → Int → List Int → List (List (S37)) → Option (Bool)
 | 0, _, _, _, _, _, _, _, _, _ => none
 | k + 1, x4, x5, x6, x7, x9, x82, x1128000, x1128001, x1128002 => if x82 = true then (if 0 ≤ x9 then ((impl_SafeFor.f k x1128000 x1128001 x1128002 x4 x5 (Go.bits .andNot .i64 x6 (shl .i64 1 x9))).bind fun t1137 => (if t1137 = true then (laws_FnSafeFor.l1 k x4 x5 x6 x7 (wrap64 (x9 + 1)) x1128000 x1128001 x1128002) else (some false))) else (none)) else ((impl_BreakersOf.f k x1128000 x1128001 x1128002 x4 x5).bind fun t1138 => (laws_FnSafeFor.l2 k x4 x6 x7 t1138 false 0 x1128000 x1128001 x1128002))
def laws_FnSafeFor.l2 : Nat → List Int → Int → Bool → List Int → Bool → Int → Int → List Int → List (List (S37)) → Option (Bool)
 | 0, _, _, _, _, _, _, _, _, _ => none
 | k + 1, x4, x6, x7, x10, x11, x12, x1128000, x1128001, x1128002 => if x12 < (x10.length : Int) then (if x11 = true then (laws_FnSafeFor.l2 k x4 x6 x7 x10 true (wrap64 (x12 + 1)) x1128000 x1128001 x1128002) else (if 0 ≤ x12 then (laws_FnSafeFor.l2 k x4 x6 x7 x10 ((Go.bits .and .i64 (rd x10 x12) x6) == (rd x10 x12)) (wrap64 (x12 + 1)) x1128000 x1128001 x1128002) else (none))) else (if (x7 == (!x11)) = true then ((impl_SafeFor.f k x1128000 x1128001 x1128002 x4 (([] : List Int)) x6).bind fun t1146 => (some t1146)) else (some false))
end
def laws_FnSafeFor.f (k : Nat) (l0 : List Int) : Option (Bool) := if (l0.length : Int) > 1048576 then (some true) else ((spec_DrawSafeFor.f k l0).bind fun bt1113 => ((impl_SafeFor.f k bt1113.1 bt1113.2.1 bt1113.2.2.1 bt1113.2.2.2.1 bt1113.2.2.2.2.1 bt1113.2.2.2.2.2).bind fun t1128 => ((spec_SafeFor.f k bt1113.1 bt1113.2.1 bt1113.2.2.1 bt1113.2.2.2.1 bt1113.2.2.2.2.1 bt1113.2.2.2.2.2).bind fun t1129 => (if (t1128 != t1129) = true then (some false) else ((spec_StateOk.f k bt1113.1 bt1113.2.1 bt1113.2.2.1 bt1113.2.2.2.1).bind fun t1130 => (if t1130 = true then ((spec_CrowdOk.f bt1113.1 bt1113.2.2.2.2.2).bind fun t1131 => (laws_FnSafeFor.j0 k bt1113.2.2.2.1 bt1113.2.2.2.2.1 bt1113.2.2.2.2.2 t1128 (!t1131) bt1113.1 bt1113.2.1 bt1113.2.2.1)) else (laws_FnSafeFor.j0 k bt1113.2.2.2.1 bt1113.2.2.2.2.1 bt1113.2.2.2.2.2 t1128 true bt1113.1 bt1113.2.1 bt1113.2.2.1)))))))
def laws_FnSafeFor.T17 : Bool × List (List Nat × List Nat) := (true, [([], []), ([], []), ([], []), ([], []), ([], []), ([4], [4]), ([3, 5], [3, 5]), ([0, 1, 2, 6], [0, 1, 2, 6]), ([7], [7])])
def laws_FnSafeFor.B17 : List Nat := [0, 0, 0, 0, 0, 16, 56, 127, 255]
theorem laws_FnSafeFor.tab17 : rtab .any (opsOf Try.f9 17) = laws_FnSafeFor.T17 := by kernel_rfl
theorem laws_FnSafeFor.bits17 : waitsOk laws_FnSafeFor.T17.2 laws_FnSafeFor.B17 = true := by kernel_rfl
def laws_FnSafeFor.T24 : Bool × List (List Nat × List Nat) := (true, [([], []), ([0], [0]), ([1], [1]), ([1], [1]), ([2, 3, 1], [1, 2, 3]), ([4, 1], [1, 4]), ([1], [1]), ([5, 6, 1], [1, 5, 6]), ([1], [1]), ([1], [1]), ([8, 9, 1], [1, 8, 9]), ([10, 1], [1, 10]), ([7, 11, 1], [1, 7, 11]), ([1, 12], [1, 12]), ([13, 1, 0, 1, 2, 3, 4, 5, 6, 7, 8, 9, 10, 11, 12, 13], [0, 13])])
def laws_FnSafeFor.B24 : List Nat := [0, 1, 3, 3, 15, 31, 3, 127, 3, 3, 771, 1795, 4095, 8191, 16383]
theorem laws_FnSafeFor.tab24 : rtab .any (opsOf Try.f9 24) = laws_FnSafeFor.T24 := by kernel_rfl
theorem laws_FnSafeFor.bits24 : waitsOk laws_FnSafeFor.T24.2 laws_FnSafeFor.B24 = true := by kernel_rfl
set_option maxHeartbeats 8000000 in
set_option maxRecDepth 100000 in
theorem laws_FnSafeFor.calls (k : Nat) (A0 : Option Addr) (c0 : Nat) (l0 : List Int) (r : Bool) (w : World) (hr0 : Kd.C (Kd.int .u8) w A0 l0.length l0) (hc0 : l0.length ≤ c0) (h : laws_FnSafeFor.f k l0 = some r) :
  Calls Try.prog 9 #[.slice A0 l0.length c0] w fun e w' => e = .returned (.bool r) ∧ Below w.heap.size w w' := by
 have hu28 := Try.underlying28
 have HR0 := Z.k hr0
 have HC0 := Z.k hc0
 clear hr0 hc0
 have HB := Z.k (Below.refl w.heap.size w)
 have H := h
 clear h
 unfold laws_FnSafeFor.f at H
 by_cases c2 : (l0.length : Int) > 1048576
 ·rw [if_pos c2] at H
  have c2b0 : decide (1048576 < (l0.length : Int)) = true := decide_eq_true c2
  have c2b1 : decide (1048576 < l0.length) = true := decide_eq_true (by omega)
  clear c2
  obtain rfl := Option.some.inj H
  go_enter Try.func9, Try.ntmps9
  go_wp2
  go_ret
  exact ⟨by rfl, Z.bl HB.out⟩
 ·rw [if_neg c2] at H
  have c2b0 : decide (1048576 < (l0.length : Int)) = false := decide_eq_false c2
  have c2b1 : decide (1048576 < l0.length) = false := decide_eq_false (by omega)
  clear c2
  replace H := Option.bind_eq_some_iff.mp H
  obtain ⟨⟨t1113, t1114, t1117, t1120, t1123, t1126⟩, A30, H⟩ := H
  try dsimp only at H
  have A3 := Z.k A30
  clear A30
  replace H := Option.bind_eq_some_iff.mp H
  obtain ⟨t1128, A40, H⟩ := H
  have A4 := Z.k A40
  clear A40
  replace H := Option.bind_eq_some_iff.mp H
  obtain ⟨t1129, A50, H⟩ := H
  have A5 := Z.k A50
  clear A50
  by_cases c6 : (t1128 != t1129) = true
  ·rw [if_pos c6] at H
   have c6b0 : (t1128 != t1129) = true := c6
   (try (have c6b4 : (!t1128 == t1129) = true := (by decide : ∀ a b : Bool, (a != b) = true → (!a == b) = true) _ _ c6b0))
   (try (have c6b1 : decide (t1128 = t1129) = false := by simpa using c6))
   (try (have c6b2 : (t1128 == t1129) = false := by simpa using c6))
   (try (have c6b3 : ¬ (t1128 = t1129) := by simpa using c6))
   clear c6
   obtain rfl := Option.some.inj H
   go_enter Try.func9, Try.ntmps9
   go_wp2_with (first | ((with_reducible refine gate_callee (f := 42) rfl ?_); refine goesL_ (some 18) rfl rfl Try.func42 (by kernel_rfl) rfl #[.slice A0 l0.length c0] rfl Z.ar ?_; (with_reducible refine (spec_DrawSafeFor.calls k _ _ l0 t1113 t1114 t1117 t1120 t1123 t1126 _ ?q1 ?q2 A3.out).mono ?_); (case q1 => exact HR0.out); (case q2 => exact HC0.out); rintro e w7 ⟨v1115, v1118, v1121, v1124, rfl, ho0, ho1, ho2, ho3, hb⟩; refine ⟨_, rfl, ?_⟩; have HO1116 := Z.k (Kd.R_lower ho0 (below_size (Z.bl HB.out))); have HO1119 := Z.k (Kd.R_lower ho1 (below_size (Z.bl HB.out))); have HO1122 := Z.k (Kd.R_lower ho2 (below_size (Z.bl HB.out))); have HO1125 := Z.k (Kd.R_lower ho3 (below_size (Z.bl HB.out))); replace HB := Z.st (Z.bl HB.out) hb; (try clear hb ho0 ho1); (try clear ho2); (try clear ho3)) | ((with_reducible refine gate_dst (N := 3) rfl ?_); (try (refine gate_guard (by rfl) ?_; dsimp only)); refine Z.bx #[.int .i64 0, .slice none 0 0, .slice none 0 0] 28 HB ?_; clear HB; intro gb1127 w8 BK1127 GE1127 HB hg hb; have GW1127 := GE1127; replace HO1116 := Z.k (Kd.R_below HO1116.out hb); replace HO1119 := Z.k (Kd.R_below HO1119.out hb); replace HO1122 := Z.k (Kd.R_below HO1122.out hb); replace HO1125 := Z.k (Kd.R_below HO1125.out hb); clear hb hg; have hcz9 := Z.c3 BK1127.out; obtain ⟨Ao10, co10, eo10⟩ := Kd.R_slice HO1116.out; subst eo10; obtain ⟨Ao11, co11, eo11⟩ := Kd.R_slice HO1119.out; subst eo11; obtain ⟨Ao12, co12, eo12⟩ := Kd.R_slice HO1122.out; subst eo12; obtain ⟨Ao13, co13, eo13⟩ := Kd.R_slice HO1125.out; subst eo13) | ((with_reducible refine gate_callee (f := 22) rfl ?_); refine goesL_ (some 27) rfl rfl Try.func22 (by kernel_rfl) rfl #[.agg #[.int .i64 t1113, .slice Ao10 t1114.length co10, .slice Ao11 t1117.length co11], .slice Ao12 t1120.length co12, .slice Ao13 t1123.length co13, .int .i64 t1126] rfl Z.ar ?_; (with_reducible refine (impl_SafeFor.calls k t1113 _ _ t1114 _ _ t1117 _ _ t1120 _ _ t1123 t1126 t1128 _ ?q1 ?q2 ?q3 ?q4 ?q5 ?q6 ?q7 ?q8 A4.out).mono ?_); (case q1 => refine (Kd.R_reads' (e := 3) (base := w.heap.size) (ok := fun k_ => (some k_ ≠ (.slice Ao12 t1120.length co12 : Value).ownBlock ∧ some k_ ≠ (.slice Ao13 t1123.length co13 : Value).ownBlock)) (n := t1114.length) (c := co10) ?_).2.2; exact (Kd.R_mono (Kd.R_far (p := ⟨gb1127, 2, none⟩) (Kd.R_far (p := ⟨gb1127, 1, none⟩) (Kd.R_far (p := ⟨gb1127, 0, none⟩) (Kd.R_types HO1116.out BK1127.out (by decide)) (fun _ hk => hk.2) (.int .i64 t1113)) (fun _ hk => hk.2) (.slice Ao10 t1114.length co10)) (fun _ hk => hk.2) (.slice Ao11 t1117.length co11)) (fun _ h_ => h_.1))); (case q2 => exact (Kd.R_reads' HO1116.out).2.1); (case q3 => refine (Kd.R_reads' (e := 34) (base := w.heap.size) (ok := fun k_ => True) (n := t1117.length) (c := co11) ?_).2.2; exact (Kd.R_mono (Kd.R_far (p := ⟨gb1127, 2, none⟩) (Kd.R_far (p := ⟨gb1127, 1, none⟩) (Kd.R_far (p := ⟨gb1127, 0, none⟩) (Kd.R_types HO1119.out BK1127.out (by decide)) (fun _ hk => hk.2) (.int .i64 t1113)) (fun _ hk => hk.2) (.slice Ao10 t1114.length co10)) (fun _ hk => hk.2) (.slice Ao11 t1117.length co11)) (fun _ h_ => h_.1))); (case q4 => exact (Kd.R_reads' HO1119.out).2.1); (case q5 => refine (Kd.R_reads' (e := 3) (base := w.heap.size) (ok := fun k_ => (some k_ ≠ (.slice Ao10 t1114.length co10 : Value).ownBlock ∧ some k_ ≠ (.slice Ao13 t1123.length co13 : Value).ownBlock)) (n := t1120.length) (c := co12) ?_).2.2; exact (Kd.R_mono (Kd.R_far (p := ⟨gb1127, 2, none⟩) (Kd.R_far (p := ⟨gb1127, 1, none⟩) (Kd.R_far (p := ⟨gb1127, 0, none⟩) (Kd.R_types HO1122.out BK1127.out (by decide)) (fun _ hk => hk.2) (.int .i64 t1113)) (fun _ hk => hk.2) (.slice Ao10 t1114.length co10)) (fun _ hk => hk.2) (.slice Ao11 t1117.length co11)) (fun _ h_ => h_.1))); (case q6 => exact (Kd.R_reads' HO1122.out).2.1); (case q7 => refine (Kd.R_reads' (e := 3) (base := w.heap.size) (ok := fun k_ => (some k_ ≠ (.slice Ao10 t1114.length co10 : Value).ownBlock ∧ some k_ ≠ (.slice Ao12 t1120.length co12 : Value).ownBlock)) (n := t1123.length) (c := co13) ?_).2.2; exact (Kd.R_mono (Kd.R_far (p := ⟨gb1127, 2, none⟩) (Kd.R_far (p := ⟨gb1127, 1, none⟩) (Kd.R_far (p := ⟨gb1127, 0, none⟩) (Kd.R_types HO1125.out BK1127.out (by decide)) (fun _ hk => hk.2) (.int .i64 t1113)) (fun _ hk => hk.2) (.slice Ao10 t1114.length co10)) (fun _ hk => hk.2) (.slice Ao11 t1117.length co11)) (fun _ h_ => h_.1))); (case q8 => exact (Kd.R_reads' HO1125.out).2.1); rintro e w14 ⟨rfl, hb⟩; refine ⟨_, rfl, ?_⟩; replace HO1116 := Z.k (Kd.R_below (Kd.R_mono (Kd.R_far (p := ⟨gb1127, 2, none⟩) (Kd.R_far (p := ⟨gb1127, 1, none⟩) (Kd.R_far (p := ⟨gb1127, 0, none⟩) (Kd.R_types HO1116.out BK1127.out (by decide)) (fun _ hk => hk.2) (.int .i64 t1113)) (fun _ hk => hk.2) (.slice Ao10 t1114.length co10)) (fun _ hk => hk.2) (.slice Ao11 t1117.length co11)) (fun _ h_ => h_.1)) hb); replace HO1119 := Z.k (Kd.R_below (Kd.R_mono (Kd.R_far (p := ⟨gb1127, 2, none⟩) (Kd.R_far (p := ⟨gb1127, 1, none⟩) (Kd.R_far (p := ⟨gb1127, 0, none⟩) (Kd.R_types HO1119.out BK1127.out (by decide)) (fun _ hk => hk.2) (.int .i64 t1113)) (fun _ hk => hk.2) (.slice Ao10 t1114.length co10)) (fun _ hk => hk.2) (.slice Ao11 t1117.length co11)) (fun _ h_ => h_.1)) hb); replace HO1122 := Z.k (Kd.R_below (Kd.R_mono (Kd.R_far (p := ⟨gb1127, 2, none⟩) (Kd.R_far (p := ⟨gb1127, 1, none⟩) (Kd.R_far (p := ⟨gb1127, 0, none⟩) (Kd.R_types HO1122.out BK1127.out (by decide)) (fun _ hk => hk.2) (.int .i64 t1113)) (fun _ hk => hk.2) (.slice Ao10 t1114.length co10)) (fun _ hk => hk.2) (.slice Ao11 t1117.length co11)) (fun _ h_ => h_.1)) hb); replace HO1125 := Z.k (Kd.R_below (Kd.R_mono (Kd.R_far (p := ⟨gb1127, 2, none⟩) (Kd.R_far (p := ⟨gb1127, 1, none⟩) (Kd.R_far (p := ⟨gb1127, 0, none⟩) (Kd.R_types HO1125.out BK1127.out (by decide)) (fun _ hk => hk.2) (.int .i64 t1113)) (fun _ hk => hk.2) (.slice Ao10 t1114.length co10)) (fun _ hk => hk.2) (.slice Ao11 t1117.length co11)) (fun _ h_ => h_.1)) hb); replace BK1127 := Z.k (blk_below (g := gb1127) (o := .cells #[.int .i64 t1113, .slice Ao10 t1114.length co10, .slice Ao11 t1117.length co11] 28 (0, 0)) (by refine blk_put (cs := #[.int .i64 t1113, .slice Ao10 t1114.length co10, .slice none 0 0]) ?_ 2 _ rfl; refine blk_put (cs := #[.int .i64 t1113, .slice none 0 0, .slice none 0 0]) ?_ 1 _ rfl; refine blk_put (cs := #[.int .i64 0, .slice none 0 0, .slice none 0 0]) ?_ 0 _ rfl; exact BK1127.out) hb); replace HB := Z.st (Z.bs HB.out GE1127.out) hb; (try clear hb); have hcz15 := Z.c3 BK1127.out) | ((with_reducible refine gate_callee (f := 43) rfl ?_); refine goesL_ (some 33) rfl rfl Try.func43 (by kernel_rfl) rfl #[.agg #[.int .i64 t1113, .slice Ao10 t1114.length co10, .slice Ao11 t1117.length co11], .slice Ao12 t1120.length co12, .slice Ao13 t1123.length co13, .int .i64 t1126] rfl Z.ar ?_; (with_reducible refine (spec_SafeFor.calls k t1113 _ _ t1114 _ _ t1117 _ _ t1120 _ _ t1123 t1126 t1129 _ ?q1 ?q2 ?q3 ?q4 ?q5 ?q6 ?q7 ?q8 A5.out).mono ?_); (case q1 => exact (Kd.R_reads' HO1116.out).2.2); (case q2 => exact (Kd.R_reads' HO1116.out).2.1); (case q3 => exact (Kd.R_reads' HO1119.out).2.2); (case q4 => exact (Kd.R_reads' HO1119.out).2.1); (case q5 => exact (Kd.R_reads' HO1122.out).2.2); (case q6 => exact (Kd.R_reads' HO1122.out).2.1); (case q7 => exact (Kd.R_reads' HO1125.out).2.2); (case q8 => exact (Kd.R_reads' HO1125.out).2.1); rintro e w16 ⟨rfl, hb⟩; refine ⟨_, rfl, ?_⟩; replace HO1116 := Z.k (Kd.R_below HO1116.out hb); replace HO1119 := Z.k (Kd.R_below HO1119.out hb); replace HO1122 := Z.k (Kd.R_below HO1122.out hb); replace HO1125 := Z.k (Kd.R_below HO1125.out hb); replace BK1127 := Z.bb BK1127 hb; replace HB := Z.st (Z.bs HB.out GE1127.out) hb; (try clear hb)))
   go_ret
   exact ⟨by rfl, Z.bs HB.out GE1127.out⟩
  ·rw [if_neg c6] at H
   have c6b0 : (t1128 != t1129) = false := by simpa using c6
   (try (have c6b4 : (!t1128 == t1129) = false := (by decide : ∀ a b : Bool, (a != b) = false → (!a == b) = false) _ _ c6b0))
   (try (have c6b1 : decide (t1128 = t1129) = true := by simpa using c6))
   (try (have c6b2 : (t1128 == t1129) = true := by simpa using c6))
   clear c6
   have HC17 := Z.k H
   clear H
   go_enter Try.func9, Try.ntmps9
   go_upto_region 7 with (first | ((with_reducible refine gate_callee (f := 42) rfl ?_); refine goesL_ (some 18) rfl rfl Try.func42 (by kernel_rfl) rfl #[.slice A0 l0.length c0] rfl Z.ar ?_; (with_reducible refine (spec_DrawSafeFor.calls k _ _ l0 t1113 t1114 t1117 t1120 t1123 t1126 _ ?q1 ?q2 A3.out).mono ?_); (case q1 => exact HR0.out); (case q2 => exact HC0.out); rintro e w18 ⟨v1115, v1118, v1121, v1124, rfl, ho0, ho1, ho2, ho3, hb⟩; refine ⟨_, rfl, ?_⟩; have HO1116 := Z.k (Kd.R_lower ho0 (below_size (Z.bl HB.out))); have HO1119 := Z.k (Kd.R_lower ho1 (below_size (Z.bl HB.out))); have HO1122 := Z.k (Kd.R_lower ho2 (below_size (Z.bl HB.out))); have HO1125 := Z.k (Kd.R_lower ho3 (below_size (Z.bl HB.out))); replace HB := Z.st (Z.bl HB.out) hb; (try clear hb ho0 ho1); (try clear ho2); (try clear ho3)) | ((with_reducible refine gate_dst (N := 3) rfl ?_); (try (refine gate_guard (by rfl) ?_; dsimp only)); refine Z.bx #[.int .i64 0, .slice none 0 0, .slice none 0 0] 28 HB ?_; clear HB; intro gb1127 w19 BK1127 GE1127 HB hg hb; have GW1127 := GE1127; replace HO1116 := Z.k (Kd.R_below HO1116.out hb); replace HO1119 := Z.k (Kd.R_below HO1119.out hb); replace HO1122 := Z.k (Kd.R_below HO1122.out hb); replace HO1125 := Z.k (Kd.R_below HO1125.out hb); clear hb hg; have hcz20 := Z.c3 BK1127.out; obtain ⟨Ao21, co21, eo21⟩ := Kd.R_slice HO1116.out; subst eo21; obtain ⟨Ao22, co22, eo22⟩ := Kd.R_slice HO1119.out; subst eo22; obtain ⟨Ao23, co23, eo23⟩ := Kd.R_slice HO1122.out; subst eo23; obtain ⟨Ao24, co24, eo24⟩ := Kd.R_slice HO1125.out; subst eo24) | ((with_reducible refine gate_callee (f := 22) rfl ?_); refine goesL_ (some 27) rfl rfl Try.func22 (by kernel_rfl) rfl #[.agg #[.int .i64 t1113, .slice Ao21 t1114.length co21, .slice Ao22 t1117.length co22], .slice Ao23 t1120.length co23, .slice Ao24 t1123.length co24, .int .i64 t1126] rfl Z.ar ?_; (with_reducible refine (impl_SafeFor.calls k t1113 _ _ t1114 _ _ t1117 _ _ t1120 _ _ t1123 t1126 t1128 _ ?q1 ?q2 ?q3 ?q4 ?q5 ?q6 ?q7 ?q8 A4.out).mono ?_); (case q1 => refine (Kd.R_reads' (e := 3) (base := w.heap.size) (ok := fun k_ => (some k_ ≠ (.slice Ao23 t1120.length co23 : Value).ownBlock ∧ some k_ ≠ (.slice Ao24 t1123.length co24 : Value).ownBlock)) (n := t1114.length) (c := co21) ?_).2.2; exact (Kd.R_mono (Kd.R_far (p := ⟨gb1127, 2, none⟩) (Kd.R_far (p := ⟨gb1127, 1, none⟩) (Kd.R_far (p := ⟨gb1127, 0, none⟩) (Kd.R_types HO1116.out BK1127.out (by decide)) (fun _ hk => hk.2) (.int .i64 t1113)) (fun _ hk => hk.2) (.slice Ao21 t1114.length co21)) (fun _ hk => hk.2) (.slice Ao22 t1117.length co22)) (fun _ h_ => h_.1))); (case q2 => exact (Kd.R_reads' HO1116.out).2.1); (case q3 => refine (Kd.R_reads' (e := 34) (base := w.heap.size) (ok := fun k_ => True) (n := t1117.length) (c := co22) ?_).2.2; exact (Kd.R_mono (Kd.R_far (p := ⟨gb1127, 2, none⟩) (Kd.R_far (p := ⟨gb1127, 1, none⟩) (Kd.R_far (p := ⟨gb1127, 0, none⟩) (Kd.R_types HO1119.out BK1127.out (by decide)) (fun _ hk => hk.2) (.int .i64 t1113)) (fun _ hk => hk.2) (.slice Ao21 t1114.length co21)) (fun _ hk => hk.2) (.slice Ao22 t1117.length co22)) (fun _ h_ => h_.1))); (case q4 => exact (Kd.R_reads' HO1119.out).2.1); (case q5 => refine (Kd.R_reads' (e := 3) (base := w.heap.size) (ok := fun k_ => (some k_ ≠ (.slice Ao21 t1114.length co21 : Value).ownBlock ∧ some k_ ≠ (.slice Ao24 t1123.length co24 : Value).ownBlock)) (n := t1120.length) (c := co23) ?_).2.2; exact (Kd.R_mono (Kd.R_far (p := ⟨gb1127, 2, none⟩) (Kd.R_far (p := ⟨gb1127, 1, none⟩) (Kd.R_far (p := ⟨gb1127, 0, none⟩) (Kd.R_types HO1122.out BK1127.out (by decide)) (fun _ hk => hk.2) (.int .i64 t1113)) (fun _ hk => hk.2) (.slice Ao21 t1114.length co21)) (fun _ hk => hk.2) (.slice Ao22 t1117.length co22)) (fun _ h_ => h_.1))); (case q6 => exact (Kd.R_reads' HO1122.out).2.1); (case q7 => refine (Kd.R_reads' (e := 3) (base := w.heap.size) (ok := fun k_ => (some k_ ≠ (.slice Ao21 t1114.length co21 : Value).ownBlock ∧ some k_ ≠ (.slice Ao23 t1120.length co23 : Value).ownBlock)) (n := t1123.length) (c := co24) ?_).2.2; exact (Kd.R_mono (Kd.R_far (p := ⟨gb1127, 2, none⟩) (Kd.R_far (p := ⟨gb1127, 1, none⟩) (Kd.R_far (p := ⟨gb1127, 0, none⟩) (Kd.R_types HO1125.out BK1127.out (by decide)) (fun _ hk => hk.2) (.int .i64 t1113)) (fun _ hk => hk.2) (.slice Ao21 t1114.length co21)) (fun _ hk => hk.2) (.slice Ao22 t1117.length co22)) (fun _ h_ => h_.1))); (case q8 => exact (Kd.R_reads' HO1125.out).2.1); rintro e w25 ⟨rfl, hb⟩; refine ⟨_, rfl, ?_⟩; replace HO1116 := Z.k (Kd.R_below (Kd.R_mono (Kd.R_far (p := ⟨gb1127, 2, none⟩) (Kd.R_far (p := ⟨gb1127, 1, none⟩) (Kd.R_far (p := ⟨gb1127, 0, none⟩) (Kd.R_types HO1116.out BK1127.out (by decide)) (fun _ hk => hk.2) (.int .i64 t1113)) (fun _ hk => hk.2) (.slice Ao21 t1114.length co21)) (fun _ hk => hk.2) (.slice Ao22 t1117.length co22)) (fun _ h_ => h_.1)) hb); replace HO1119 := Z.k (Kd.R_below (Kd.R_mono (Kd.R_far (p := ⟨gb1127, 2, none⟩) (Kd.R_far (p := ⟨gb1127, 1, none⟩) (Kd.R_far (p := ⟨gb1127, 0, none⟩) (Kd.R_types HO1119.out BK1127.out (by decide)) (fun _ hk => hk.2) (.int .i64 t1113)) (fun _ hk => hk.2) (.slice Ao21 t1114.length co21)) (fun _ hk => hk.2) (.slice Ao22 t1117.length co22)) (fun _ h_ => h_.1)) hb); replace HO1122 := Z.k (Kd.R_below (Kd.R_mono (Kd.R_far (p := ⟨gb1127, 2, none⟩) (Kd.R_far (p := ⟨gb1127, 1, none⟩) (Kd.R_far (p := ⟨gb1127, 0, none⟩) (Kd.R_types HO1122.out BK1127.out (by decide)) (fun _ hk => hk.2) (.int .i64 t1113)) (fun _ hk => hk.2) (.slice Ao21 t1114.length co21)) (fun _ hk => hk.2) (.slice Ao22 t1117.length co22)) (fun _ h_ => h_.1)) hb); replace HO1125 := Z.k (Kd.R_below (Kd.R_mono (Kd.R_far (p := ⟨gb1127, 2, none⟩) (Kd.R_far (p := ⟨gb1127, 1, none⟩) (Kd.R_far (p := ⟨gb1127, 0, none⟩) (Kd.R_types HO1125.out BK1127.out (by decide)) (fun _ hk => hk.2) (.int .i64 t1113)) (fun _ hk => hk.2) (.slice Ao21 t1114.length co21)) (fun _ hk => hk.2) (.slice Ao22 t1117.length co22)) (fun _ h_ => h_.1)) hb); replace BK1127 := Z.k (blk_below (g := gb1127) (o := .cells #[.int .i64 t1113, .slice Ao21 t1114.length co21, .slice Ao22 t1117.length co22] 28 (0, 0)) (by refine blk_put (cs := #[.int .i64 t1113, .slice Ao21 t1114.length co21, .slice none 0 0]) ?_ 2 _ rfl; refine blk_put (cs := #[.int .i64 t1113, .slice none 0 0, .slice none 0 0]) ?_ 1 _ rfl; refine blk_put (cs := #[.int .i64 0, .slice none 0 0, .slice none 0 0]) ?_ 0 _ rfl; exact BK1127.out) hb); replace HB := Z.st (Z.bs HB.out GE1127.out) hb; (try clear hb); have hcz26 := Z.c3 BK1127.out) | ((with_reducible refine gate_callee (f := 43) rfl ?_); refine goesL_ (some 33) rfl rfl Try.func43 (by kernel_rfl) rfl #[.agg #[.int .i64 t1113, .slice Ao21 t1114.length co21, .slice Ao22 t1117.length co22], .slice Ao23 t1120.length co23, .slice Ao24 t1123.length co24, .int .i64 t1126] rfl Z.ar ?_; (with_reducible refine (spec_SafeFor.calls k t1113 _ _ t1114 _ _ t1117 _ _ t1120 _ _ t1123 t1126 t1129 _ ?q1 ?q2 ?q3 ?q4 ?q5 ?q6 ?q7 ?q8 A5.out).mono ?_); (case q1 => exact (Kd.R_reads' HO1116.out).2.2); (case q2 => exact (Kd.R_reads' HO1116.out).2.1); (case q3 => exact (Kd.R_reads' HO1119.out).2.2); (case q4 => exact (Kd.R_reads' HO1119.out).2.1); (case q5 => exact (Kd.R_reads' HO1122.out).2.2); (case q6 => exact (Kd.R_reads' HO1122.out).2.1); (case q7 => exact (Kd.R_reads' HO1125.out).2.2); (case q8 => exact (Kd.R_reads' HO1125.out).2.1); rintro e w27 ⟨rfl, hb⟩; refine ⟨_, rfl, ?_⟩; replace HO1116 := Z.k (Kd.R_below HO1116.out hb); replace HO1119 := Z.k (Kd.R_below HO1119.out hb); replace HO1122 := Z.k (Kd.R_below HO1122.out hb); replace HO1125 := Z.k (Kd.R_below HO1125.out hb); replace BK1127 := Z.bb BK1127 hb; replace HB := Z.st (Z.bs HB.out GE1127.out) hb; (try clear hb)))
   go_cut [46] (fun v46 wc => ∃ (kq : Nat) (x46_16 : Bool), v46 = .bool x46_16 ∧ Aside0 (laws_FnSafeFor.j0 kq t1120 t1123 t1126 t1128 x46_16 t1113 t1114 t1117 = some r) ∧ Aside0 (kq ≤ k) ∧ Aside0 (Kd.R (Kd.int .i64) 3 wc w.heap.size (fun k_ => some k_ ≠ ((.slice Ao24 t1123.length co24) : Value).ownBlock ∧ some k_ ≠ ((.slice Ao21 t1114.length co21) : Value).ownBlock) (.slice Ao23 t1120.length co23) t1120) ∧ Aside0 (Kd.R (Kd.int .i64) 3 wc w.heap.size (fun k_ => some k_ ≠ ((.slice Ao23 t1120.length co23) : Value).ownBlock ∧ some k_ ≠ ((.slice Ao21 t1114.length co21) : Value).ownBlock) (.slice Ao24 t1123.length co24) t1123) ∧ Aside0 (Kd.R (Kd.int .i64) 3 wc w.heap.size (fun k_ => some k_ ≠ ((.slice Ao23 t1120.length co23) : Value).ownBlock ∧ some k_ ≠ ((.slice Ao24 t1123.length co24) : Value).ownBlock) (.slice Ao21 t1114.length co21) t1114) ∧ Aside0 (Kd.R (Kd.slice 37 k37) 34 wc w.heap.size (fun _ => True) (.slice Ao22 t1117.length co22) t1117) ∧ Aside0 (wc.heap[gb1127]? = some (.cells #[.int .i64 t1113, (.slice Ao21 t1114.length co21), (.slice Ao22 t1117.length co22)] 28 (0, 0))) ∧ Aside0 (Below w.heap.size w wc))
   case first =>
    have H := HC17.out
    clear HC17
    replace H := Option.bind_eq_some_iff.mp H
    obtain ⟨t1130, A280, H⟩ := H
    have A28 := Z.k A280
    clear A280
    by_cases c29 : t1130 = true
    ·subst c29
     rw [if_pos rfl] at H
     replace H := Option.bind_eq_some_iff.mp H
     obtain ⟨t1131, A300, H⟩ := H
     have A30 := Z.k A300
     clear A300
     have H' := Z.k H
     clear H
     have hcz31 := Z.c3 BK1127.out
     go_wp2_with (first | ((with_reducible refine gate_callee (f := 16) rfl ?_); refine goesL_ (some 37) rfl rfl Try.func16 (by kernel_rfl) rfl #[.agg #[.int .i64 t1113, .slice Ao21 t1114.length co21, .slice Ao22 t1117.length co22], .slice Ao23 t1120.length co23] rfl Z.ar ?_; (with_reducible refine (spec_StateOk.calls k t1113 _ _ t1114 _ _ t1117 _ _ t1120 true _ ?q1 ?q2 ?q3 ?q4 ?q5 ?q6 A28.out).mono ?_); (case q1 => exact (Kd.R_reads' HO1116.out).2.2); (case q2 => exact (Kd.R_reads' HO1116.out).2.1); (case q3 => exact (Kd.R_reads' HO1119.out).2.2); (case q4 => exact (Kd.R_reads' HO1119.out).2.1); (case q5 => exact (Kd.R_reads' HO1122.out).2.2); (case q6 => exact (Kd.R_reads' HO1122.out).2.1); rintro e w32 ⟨rfl, hb⟩; refine ⟨_, rfl, ?_⟩; replace HO1116 := Z.k (Kd.R_below HO1116.out hb); replace HO1119 := Z.k (Kd.R_below HO1119.out hb); replace HO1122 := Z.k (Kd.R_below HO1122.out hb); replace HO1125 := Z.k (Kd.R_below HO1125.out hb); replace BK1127 := Z.bb BK1127 hb; replace HB := Z.st (Z.bs HB.out GE1127.out) hb; (try clear hb); have hcz33 := Z.c3 BK1127.out) | (go_at_call 17; (with_reducible refine (spec_CrowdOk.calls t1113 t1126 t1131 _ A30.out).mono ?_); rintro e w' ⟨rfl, ⟨nd, rfl⟩⟩))
     go_meet
     case rel => exact ⟨_, (!t1131), (by rfl), H', ⟨by omega⟩, ⟨by (with_reducible repeat (apply Kd.R_drewN)); exact Kd.R_mono HO1122.out (fun _ hk => ⟨hk.2, hk.1⟩)⟩, ⟨by (with_reducible repeat (apply Kd.R_drewN)); exact Kd.R_mono HO1125.out (fun _ hk => ⟨hk.2, hk.1⟩)⟩, ⟨by (with_reducible repeat (apply Kd.R_drewN)); exact HO1116.out⟩, ⟨by (with_reducible repeat (apply Kd.R_drewN)); exact HO1119.out⟩, ⟨by (with_reducible repeat (refine blk_drewN ?_ _)); exact BK1127.out⟩, ⟨Z.bs HB.out GE1127.out⟩⟩
    ·replace c29 := Bool.eq_false_iff.mpr c29
     subst c29
     rw [if_neg (show ¬ (false = true) by decide)] at H
     have H' := Z.k H
     clear H
     have hcz34 := Z.c3 BK1127.out
     go_wp2_with (((with_reducible refine gate_callee (f := 16) rfl ?_); refine goesL_ (some 37) rfl rfl Try.func16 (by kernel_rfl) rfl #[.agg #[.int .i64 t1113, .slice Ao21 t1114.length co21, .slice Ao22 t1117.length co22], .slice Ao23 t1120.length co23] rfl Z.ar ?_; (with_reducible refine (spec_StateOk.calls k t1113 _ _ t1114 _ _ t1117 _ _ t1120 false _ ?q1 ?q2 ?q3 ?q4 ?q5 ?q6 A28.out).mono ?_); (case q1 => exact (Kd.R_reads' HO1116.out).2.2); (case q2 => exact (Kd.R_reads' HO1116.out).2.1); (case q3 => exact (Kd.R_reads' HO1119.out).2.2); (case q4 => exact (Kd.R_reads' HO1119.out).2.1); (case q5 => exact (Kd.R_reads' HO1122.out).2.2); (case q6 => exact (Kd.R_reads' HO1122.out).2.1); rintro e w35 ⟨rfl, hb⟩; refine ⟨_, rfl, ?_⟩; replace HO1116 := Z.k (Kd.R_below HO1116.out hb); replace HO1119 := Z.k (Kd.R_below HO1119.out hb); replace HO1122 := Z.k (Kd.R_below HO1122.out hb); replace HO1125 := Z.k (Kd.R_below HO1125.out hb); replace BK1127 := Z.bb BK1127 hb; replace HB := Z.st (Z.bs HB.out GE1127.out) hb; (try clear hb)))
     go_meet
     case rel => exact ⟨_, (true), (by rfl), H', ⟨by omega⟩, ⟨by exact Kd.R_mono HO1122.out (fun _ hk => ⟨hk.2, hk.1⟩)⟩, ⟨by exact Kd.R_mono HO1125.out (fun _ hk => ⟨hk.2, hk.1⟩)⟩, ⟨by exact HO1116.out⟩, ⟨by exact HO1119.out⟩, ⟨by exact BK1127.out⟩, ⟨Z.bs HB.out GE1127.out⟩⟩
   case rest =>
    clear HC17
    try clear c2b0
    try clear c2b1
    try clear c6b0
    try clear c6b1
    try clear c6b2
    obtain ⟨kq, x46_16, rfl, HA, HJ16, HO_4, HO_5, HO_1128001, HO_1128002, BK1127, HB⟩ := hcut
    cases kq with
    | zero => exact absurd HA.out (by simp [laws_FnSafeFor.j0])
    | succ kj16 =>
     have H := HA.out
     clear HA
     simp only [laws_FnSafeFor.j0] at H
     by_cases c36 : x46_16 = true
     ·subst c36
      rw [if_pos rfl] at H
      by_cases c37 : t1128 = true
      ·subst c37
       rw [if_pos rfl] at H
       obtain rfl := Option.some.inj H
       go_wp2
       go_ret
       exact ⟨by rfl, Z.bs HB.out GE1127.out⟩
      ·replace c37 := Bool.eq_false_iff.mpr c37
       subst c37
       rw [if_neg (show ¬ (false = true) by decide)] at H
       replace H := Option.bind_eq_some_iff.mp H
       obtain ⟨t1132, A380, H⟩ := H
       have A38 := Z.k A380
       clear A380
       obtain rfl := Option.some.inj H
       go_wp2_with ((go_at_call 18; (with_reducible refine (laws_alive.calls  t1132 _ A38.out).mono ?_); rintro e w' ⟨rfl, ⟨nd, rfl⟩⟩))
       go_ret
       exact ⟨by rfl, Z.bs HB.out GE1127.out⟩
     ·replace c36 := Bool.eq_false_iff.mpr c36
      subst c36
      rw [if_neg (show ¬ (false = true) by decide)] at H
      have H' := Z.k H
      clear H
      go_wp2
      go_loopg [8] kj16 (fun kq v8 w' => ∃ (x8_2 : Int), v8 = .int .i64 x8_2 ∧ Aside0 (laws_FnSafeFor.l0 kq t1120 t1123 t1126 t1128 x8_2 t1113 t1114 t1117 = some r) ∧ Aside0 (kq ≤ kj16) ∧ Aside0 (Kd.R (Kd.int .i64) 3 w' w.heap.size (fun k_ => some k_ ≠ ((.slice Ao24 t1123.length co24) : Value).ownBlock ∧ some k_ ≠ ((.slice Ao21 t1114.length co21) : Value).ownBlock) (.slice Ao23 t1120.length co23) t1120) ∧ Aside0 (Kd.R (Kd.int .i64) 3 w' w.heap.size (fun k_ => some k_ ≠ ((.slice Ao23 t1120.length co23) : Value).ownBlock ∧ some k_ ≠ ((.slice Ao21 t1114.length co21) : Value).ownBlock) (.slice Ao24 t1123.length co24) t1123) ∧ Aside0 (Kd.R (Kd.int .i64) 3 w' w.heap.size (fun k_ => some k_ ≠ ((.slice Ao23 t1120.length co23) : Value).ownBlock ∧ some k_ ≠ ((.slice Ao24 t1123.length co24) : Value).ownBlock) (.slice Ao21 t1114.length co21) t1114) ∧ Aside0 (Kd.R (Kd.slice 37 k37) 34 w' w.heap.size (fun _ => True) (.slice Ao22 t1117.length co22) t1117) ∧ Aside0 (w'.heap[gb1127]? = some (.cells #[.int .i64 t1113, (.slice Ao21 t1114.length co21), (.slice Ao22 t1117.length co22)] 28 (0, 0))) ∧ Aside0 (Below w.heap.size w w'))
      case atStart => exact ⟨(0), (by rfl), H', ⟨Nat.le_refl _⟩, ⟨by exact HO_4.out⟩, ⟨by exact HO_5.out⟩, ⟨by exact HO_1128001.out⟩, ⟨by exact HO_1128002.out⟩, ⟨by exact BK1127.out⟩, ⟨Z.bs HB.out GE1127.out⟩⟩
      case round =>
       clear H'
       obtain ⟨x8_2, rfl, HA, HK2, HO_4, HO_5, HO_1128001, HO_1128002, BK1127, HB⟩ := hrel
       cases gk with
       | zero => exact absurd HA.out (by simp [laws_FnSafeFor.l0])
       | succ k2 =>
        have H := HA.out
        clear HA
        simp only [laws_FnSafeFor.l0] at H
        by_cases c39 : x8_2 < (t1123.length : Int)
        ·rw [if_pos c39] at H
         have c39b0 := decide_eq_true c39
         clear c39
         obtain ⟨c40, H⟩ := Z.ifp H
         have c40b0 : decide (0 ≤ x8_2) = true := decide_eq_true c40
         clear c40
         by_cases c41 : (rd t1123 x8_2) < 0
         ·rw [if_pos c41] at H
          have c41b0 := decide_eq_true c41
          clear c41
          by_cases c42 : t1128 = true
          ·subst c42
           rw [if_pos rfl] at H
           obtain rfl := Option.some.inj H
           have p1133 : 0 ≤ (x8_2 : Int) := Z.od
           have q1133 : x8_2 < (t1123.length : Int) := Z.od
           obtain ⟨ad1133, e1133, hx1133_0⟩ := Kd.at_int (Kd.R_reads' HO_5.out).2.2 x8_2 p1133 q1133
           cases e1133
           replace p1133 := eq_true p1133
           replace q1133 := eq_true q1133
           go_wp2
           go_ret
           exact ⟨by rfl, Z.bs HB.out GE1127.out⟩
          ·replace c42 := Bool.eq_false_iff.mpr c42
           subst c42
           rw [if_neg (show ¬ (false = true) by decide)] at H
           replace H := Option.bind_eq_some_iff.mp H
           obtain ⟨t1134, A430, H⟩ := H
           have A43 := Z.k A430
           clear A430
           obtain rfl := Option.some.inj H
           have p1133 : 0 ≤ (x8_2 : Int) := Z.od
           have q1133 : x8_2 < (t1123.length : Int) := Z.od
           obtain ⟨ad1133, e1133, hx1133_0⟩ := Kd.at_int (Kd.R_reads' HO_5.out).2.2 x8_2 p1133 q1133
           cases e1133
           replace p1133 := eq_true p1133
           replace q1133 := eq_true q1133
           go_wp2_with ((go_at_call 18; (with_reducible refine (laws_alive.calls  t1134 _ A43.out).mono ?_); rintro e w' ⟨rfl, ⟨nd, rfl⟩⟩))
           go_ret
           exact ⟨by rfl, Z.bs HB.out GE1127.out⟩
         ·rw [if_neg c41] at H
          have c41b0 := decide_eq_false c41
          clear c41
          by_cases c44 : (rd t1123 x8_2) ≥ 27
          ·rw [if_pos c44] at H
           have c44b0 : decide (27 ≤ (rd t1123 x8_2)) = true := decide_eq_true c44
           clear c44
           by_cases c45 : t1128 = true
           ·subst c45
            rw [if_pos rfl] at H
            obtain rfl := Option.some.inj H
            have p1133 : 0 ≤ (x8_2 : Int) := Z.od
            have q1133 : x8_2 < (t1123.length : Int) := Z.od
            obtain ⟨ad1133, e1133, hx1133_0⟩ := Kd.at_int (Kd.R_reads' HO_5.out).2.2 x8_2 p1133 q1133
            cases e1133
            replace p1133 := eq_true p1133
            replace q1133 := eq_true q1133
            have p1135 : 0 ≤ (x8_2 : Int) := Z.od
            have q1135 : x8_2 < (t1123.length : Int) := Z.od
            obtain ⟨ad1135, e1135, hx1135_0⟩ := Kd.at_int (Kd.R_reads' HO_5.out).2.2 x8_2 p1135 q1135
            obtain rfl : ad1133 = ad1135 := (by injection e1135)
            replace p1135 := eq_true p1135
            replace q1135 := eq_true q1135
            go_wp2
            go_ret
            exact ⟨by rfl, Z.bs HB.out GE1127.out⟩
           ·replace c45 := Bool.eq_false_iff.mpr c45
            subst c45
            rw [if_neg (show ¬ (false = true) by decide)] at H
            replace H := Option.bind_eq_some_iff.mp H
            obtain ⟨t1136, A460, H⟩ := H
            have A46 := Z.k A460
            clear A460
            obtain rfl := Option.some.inj H
            have p1133 : 0 ≤ (x8_2 : Int) := Z.od
            have q1133 : x8_2 < (t1123.length : Int) := Z.od
            obtain ⟨ad1133, e1133, hx1133_0⟩ := Kd.at_int (Kd.R_reads' HO_5.out).2.2 x8_2 p1133 q1133
            cases e1133
            replace p1133 := eq_true p1133
            replace q1133 := eq_true q1133
            have p1135 : 0 ≤ (x8_2 : Int) := Z.od
            have q1135 : x8_2 < (t1123.length : Int) := Z.od
            obtain ⟨ad1135, e1135, hx1135_0⟩ := Kd.at_int (Kd.R_reads' HO_5.out).2.2 x8_2 p1135 q1135
            obtain rfl : ad1133 = ad1135 := (by injection e1135)
            replace p1135 := eq_true p1135
            replace q1135 := eq_true q1135
            go_wp2_with ((go_at_call 18; (with_reducible refine (laws_alive.calls  t1136 _ A46.out).mono ?_); rintro e w' ⟨rfl, ⟨nd, rfl⟩⟩))
            go_ret
            exact ⟨by rfl, Z.bs HB.out GE1127.out⟩
          ·rw [if_neg c44] at H
           have c44b0 : decide (27 ≤ (rd t1123 x8_2)) = false := decide_eq_false c44
           clear c44
           have H' := Z.k H
           clear H
           have p1133 : 0 ≤ (x8_2 : Int) := Z.od
           have q1133 : x8_2 < (t1123.length : Int) := Z.od
           obtain ⟨ad1133, e1133, hx1133_0⟩ := Kd.at_int (Kd.R_reads' HO_5.out).2.2 x8_2 p1133 q1133
           cases e1133
           replace p1133 := eq_true p1133
           replace q1133 := eq_true q1133
           have p1135 : 0 ≤ (x8_2 : Int) := Z.od
           have q1135 : x8_2 < (t1123.length : Int) := Z.od
           obtain ⟨ad1135, e1135, hx1135_0⟩ := Kd.at_int (Kd.R_reads' HO_5.out).2.2 x8_2 p1135 q1135
           obtain rfl : ad1133 = ad1135 := (by injection e1135)
           replace p1135 := eq_true p1135
           replace q1135 := eq_true q1135
           go_wp2
           go_roundg k2
           case measure => have := HJ16.out; have := HK2.out; omega
           case rel => exact ⟨(wrap64 (x8_2 + 1)), (by rfl), H', ⟨by have := HJ16.out; have := HK2.out; omega⟩, ⟨by exact HO_4.out⟩, ⟨by exact HO_5.out⟩, ⟨by exact HO_1128001.out⟩, ⟨by exact HO_1128002.out⟩, ⟨by exact BK1127.out⟩, ⟨Z.bs HB.out GE1127.out⟩⟩
        ·rw [if_neg c39] at H
         have c39b0 := decide_eq_false c39
         clear c39
         have H' := Z.k H
         clear H
         go_wp2
         go_loopg [9] k2 (fun kq v9 w' => ∃ (x9_3 : Int), v9 = .int .i64 x9_3 ∧ Aside0 (laws_FnSafeFor.l1 kq t1120 t1123 t1126 t1128 x9_3 t1113 t1114 t1117 = some r) ∧ Aside0 (kq ≤ k2) ∧ Aside0 (Kd.R (Kd.int .i64) 3 w' w.heap.size (fun k_ => some k_ ≠ ((.slice Ao24 t1123.length co24) : Value).ownBlock ∧ some k_ ≠ ((.slice Ao21 t1114.length co21) : Value).ownBlock) (.slice Ao23 t1120.length co23) t1120) ∧ Aside0 (Kd.R (Kd.int .i64) 3 w' w.heap.size (fun k_ => some k_ ≠ ((.slice Ao23 t1120.length co23) : Value).ownBlock ∧ some k_ ≠ ((.slice Ao21 t1114.length co21) : Value).ownBlock) (.slice Ao24 t1123.length co24) t1123) ∧ Aside0 (Kd.R (Kd.int .i64) 3 w' w.heap.size (fun k_ => some k_ ≠ ((.slice Ao23 t1120.length co23) : Value).ownBlock ∧ some k_ ≠ ((.slice Ao24 t1123.length co24) : Value).ownBlock) (.slice Ao21 t1114.length co21) t1114) ∧ Aside0 (Kd.R (Kd.slice 37 k37) 34 w' w.heap.size (fun _ => True) (.slice Ao22 t1117.length co22) t1117) ∧ Aside0 (w'.heap[gb1127]? = some (.cells #[.int .i64 t1113, (.slice Ao21 t1114.length co21), (.slice Ao22 t1117.length co22)] 28 (0, 0))) ∧ Aside0 (Below w.heap.size w w'))
         case atStart => exact ⟨(0), (by rfl), H', ⟨Nat.le_refl _⟩, ⟨by exact HO_4.out⟩, ⟨by exact HO_5.out⟩, ⟨by exact HO_1128001.out⟩, ⟨by exact HO_1128002.out⟩, ⟨by exact BK1127.out⟩, ⟨Z.bs HB.out GE1127.out⟩⟩
         case round =>
          clear H'
          try clear c39b0
          obtain ⟨x9_3, rfl, HA, HK3, HO_4, HO_5, HO_1128001, HO_1128002, BK1127, HB⟩ := hrel
          cases gk with
          | zero => exact absurd HA.out (by simp [laws_FnSafeFor.l1])
          | succ k3 =>
           have H := HA.out
           clear HA
           simp only [laws_FnSafeFor.l1] at H
           have HC47 := Z.k H
           clear H
           go_upto_region 15 with (fail)
           go_cut [82] (fun v82 wc => ∃ (kq : Nat) (x82_46 : Bool), v82 = .bool x82_46 ∧ Aside0 (laws_FnSafeFor.j3 kq t1120 t1123 t1126 t1128 x9_3 x82_46 t1113 t1114 t1117 = some r) ∧ Aside0 (kq ≤ k3) ∧ Aside0 (Kd.R (Kd.int .i64) 3 wc w.heap.size (fun k_ => some k_ ≠ ((.slice Ao24 t1123.length co24) : Value).ownBlock ∧ some k_ ≠ ((.slice Ao21 t1114.length co21) : Value).ownBlock) (.slice Ao23 t1120.length co23) t1120) ∧ Aside0 (Kd.R (Kd.int .i64) 3 wc w.heap.size (fun k_ => some k_ ≠ ((.slice Ao23 t1120.length co23) : Value).ownBlock ∧ some k_ ≠ ((.slice Ao21 t1114.length co21) : Value).ownBlock) (.slice Ao24 t1123.length co24) t1123) ∧ Aside0 (Kd.R (Kd.int .i64) 3 wc w.heap.size (fun k_ => some k_ ≠ ((.slice Ao23 t1120.length co23) : Value).ownBlock ∧ some k_ ≠ ((.slice Ao24 t1123.length co24) : Value).ownBlock) (.slice Ao21 t1114.length co21) t1114) ∧ Aside0 (Kd.R (Kd.slice 37 k37) 34 wc w.heap.size (fun _ => True) (.slice Ao22 t1117.length co22) t1117) ∧ Aside0 (wc.heap[gb1127]? = some (.cells #[.int .i64 t1113, (.slice Ao21 t1114.length co21), (.slice Ao22 t1117.length co22)] 28 (0, 0))) ∧ Aside0 (Below w.heap.size w wc))
           case first =>
            have H := HC47.out
            clear HC47
            by_cases c48 : x9_3 < t1113
            ·rw [if_pos c48] at H
             have c48b0 := decide_eq_true c48
             clear c48
             have H' := Z.k H
             clear H
             have hcz49 := Z.c3 BK1127.out
             go_wp2
             go_meet
             case rel => exact ⟨_, (t1128), (by rfl), H', ⟨by have := HJ16.out; have := HK2.out; have := HK3.out; omega⟩, ⟨by exact HO_4.out⟩, ⟨by exact HO_5.out⟩, ⟨by exact HO_1128001.out⟩, ⟨by exact HO_1128002.out⟩, ⟨by exact BK1127.out⟩, ⟨Z.bs HB.out GE1127.out⟩⟩
            ·rw [if_neg c48] at H
             have c48b0 := decide_eq_false c48
             clear c48
             have H' := Z.k H
             clear H
             have hcz50 := Z.c3 BK1127.out
             go_wp2
             go_meet
             case rel => exact ⟨_, (false), (by rfl), H', ⟨by have := HJ16.out; have := HK2.out; have := HK3.out; omega⟩, ⟨by exact HO_4.out⟩, ⟨by exact HO_5.out⟩, ⟨by exact HO_1128001.out⟩, ⟨by exact HO_1128002.out⟩, ⟨by exact BK1127.out⟩, ⟨Z.bs HB.out GE1127.out⟩⟩
           case rest =>
            clear HC47
            obtain ⟨kq, x82_46, rfl, HA, HJ46, HO_4, HO_5, HO_1128001, HO_1128002, BK1127, HB⟩ := hcut
            cases kq with
            | zero => exact absurd HA.out (by simp [laws_FnSafeFor.j3])
            | succ kj46 =>
             have H := HA.out
             clear HA
             simp only [laws_FnSafeFor.j3] at H
             by_cases c51 : x82_46 = true
             ·subst c51
              rw [if_pos rfl] at H
              obtain ⟨c52, H⟩ := Z.ifp H
              have c52b0 := eq_true c52
              have c52b1 : decide (0 ≤ x9_3) = true := decide_eq_true c52
              clear c52
              obtain ⟨ji53, hji53⟩ : ∃ j_ : Int, (shl .i64 1 x9_3) = j_ := ⟨_, rfl⟩
              replace H : ((impl_SafeFor.f kj46 t1113 t1114 t1117 t1120 t1123 (Go.bits .andNot .i64 t1126 (ji53))).bind fun t1137 => (if t1137 = true then (laws_FnSafeFor.l1 kj46 t1120 t1123 t1126 t1128 (wrap64 (x9_3 + 1)) t1113 t1114 t1117) else (some false))) = some r := by (rw [hji53] at H; exact H)
              have hji53_ : (IntKind.i64.wrap (1 * 2 ^ min x9_3.toNat 64)) = ji53 := hji53
              have hji53z : x9_3 ≤ 64 → (IntKind.i64.wrap (1 * 2 ^ x9_3.toNat)) = ji53 := shl_small hji53
              have hji53u : (IntKind.i64.wrap (2 ^ min x9_3.toNat 64)) = ji53 := by have h_ := hji53_; rw [Int.one_mul] at h_; exact h_
              have hji53v : x9_3 ≤ 64 → (IntKind.i64.wrap (2 ^ x9_3.toNat)) = ji53 := fun hle_ => by have h_ := hji53z hle_; rw [Int.one_mul] at h_; exact h_
              have hji53y : (wrap64 (1 * 2 ^ min x9_3.toNat 64)) = ji53 := (i64_w _).symm.trans hji53_
              have hji53x : x9_3 ≤ 64 → (wrap64 (1 * 2 ^ x9_3.toNat)) = ji53 := fun h_ => (i64_w _).symm.trans (hji53z h_)
              replace H := Option.bind_eq_some_iff.mp H
              obtain ⟨t1137, A540, H⟩ := H
              have A54 := Z.k A540
              clear A540
              by_cases c55 : t1137 = true
              ·subst c55
               rw [if_pos rfl] at H
               have H' := Z.k H
               clear H
               try go_wp2
               replace HO_4 := Z.k (Kd.R_drew HO_4.out)
               replace HO_5 := Z.k (Kd.R_drew HO_5.out)
               replace HO_1128001 := Z.k (Kd.R_drew HO_1128001.out)
               replace HO_1128002 := Z.k (Kd.R_drew HO_1128002.out)
               replace BK1127 := Z.k (blk_drew BK1127.out)
               replace HB := Z.k (below_drew1 HB.out)
               refine start_ (n := 9) (S := fun w' => w'.cell? ⟨gb1127, 0, none⟩ = some (.int .i64 t1113) ∧ w'.cell? ⟨gb1127, 1, none⟩ = some (.slice Ao21 t1114.length co21) ∧ w'.cell? ⟨gb1127, 2, none⟩ = some (.slice Ao22 t1117.length co22)) (ds := []) #[false, false, false, false, false, false, false, false, false] (by kernel_rfl) rfl rfl ⟨(blk_cell BK1127.out 0).trans rfl, (blk_cell BK1127.out 1).trans rfl, (blk_cell BK1127.out 2).trans rfl⟩ (fun hHeld => ?_); refine with_tabW laws_FnSafeFor.tab17 laws_FnSafeFor.bits17 (fun HT_ HW_ => ?_)
               generalize wc.drew = w56 at HO_4 HO_5 HO_1128001 HO_1128002 BK1127 HB hHeld ⊢
               refine Z.pv 1 86 9 2 HT_.out ?_
               refine Z.pv 2 87 9 6 HT_.out ?_
               refine Z.pv 3 88 9 14 HT_.out ?_
               refine Z.pv 4 89 9 30 HT_.out ?_
               refine Z.pv 5 90 9 62 HT_.out ?_
               refine Z.pv 6 91 9 126 HT_.out ?_
               refine Z.t3 0 85 9 127 HT_.out HW_.out hHeld ?_
               refine one_ (i := 7) (N := some 92) (Z.mb 9 255) rfl rfl (one_of HT_.out (by kernel_rfl)) (by decide) (fun K hK => ?_)
               refine goes_ Try.func22 (by kernel_rfl) rfl #[.agg #[.int .i64 t1113, .slice Ao21 t1114.length co21, .slice Ao22 t1117.length co22], .slice Ao23 t1120.length co23, .slice Ao24 t1123.length co24, .int .i64 (Go.bits .andNot .i64 t1126 (ji53))] (by rfl) rfl rfl (by (try simp only [List.map_toArray, List.map_cons, List.map_nil]); rfl) ?_
               with_reducible refine (impl_SafeFor.calls kj46 t1113 _ _ t1114 _ _ t1117 _ _ t1120 _ _ t1123 (Go.bits .andNot .i64 t1126 (ji53)) true _ ?q1 ?q2 ?q3 ?q4 ?q5 ?q6 ?q7 ?q8 A54.out).mono ?_
               (case q1 => exact (Kd.R_reads' HO_1128001.out).2.2)
               (case q2 => exact (Kd.R_reads' HO_1128001.out).2.1)
               (case q3 => exact (Kd.R_reads' HO_1128002.out).2.2)
               (case q4 => exact (Kd.R_reads' HO_1128002.out).2.1)
               (case q5 => exact (Kd.R_reads' HO_4.out).2.2)
               (case q6 => exact (Kd.R_reads' HO_4.out).2.1)
               (case q7 => exact (Kd.R_reads' HO_5.out).2.2)
               (case q8 => exact (Kd.R_reads' HO_5.out).2.1)
               rintro e w57 ⟨rfl, hb⟩
               refine ⟨_, rfl, ?_⟩
               replace HO_4 := Z.k (Kd.R_below HO_4.out hb)
               replace HO_5 := Z.k (Kd.R_below HO_5.out hb)
               replace HO_1128001 := Z.k (Kd.R_below HO_1128001.out hb)
               replace HO_1128002 := Z.k (Kd.R_below HO_1128002.out hb)
               replace BK1127 := Z.bb BK1127 hb
               replace HB := Z.st (Z.bs HB.out GE1127.out) hb
               (try clear hb)
               refine hK.out _ _ ⟨(blk_cell BK1127.out 0).trans rfl, (blk_cell BK1127.out 1).trans rfl, (blk_cell BK1127.out 2).trans rfl⟩ (fun hHeld => ?_)
               clear hK K
               refine Z.nm ?_
               refine Z.pv 8 93 9 511 HT_.out ?_
               refine done_ (done_of HT_.out (by kernel_rfl)) ?_
               try go_wp2
               go_roundg kj46
               case measure => have := HJ16.out; have := HK2.out; have := HK3.out; have := HJ46.out; omega
               case rel => exact ⟨(wrap64 (x9_3 + 1)), (by rfl), H', ⟨by have := HJ16.out; have := HK2.out; have := HK3.out; have := HJ46.out; omega⟩, ⟨by exact HO_4.out⟩, ⟨by exact HO_5.out⟩, ⟨by exact HO_1128001.out⟩, ⟨by exact HO_1128002.out⟩, ⟨by exact BK1127.out⟩, ⟨Z.bs HB.out GE1127.out⟩⟩
              ·replace c55 := Bool.eq_false_iff.mpr c55
               subst c55
               rw [if_neg (show ¬ (false = true) by decide)] at H
               obtain rfl := Option.some.inj H
               try go_wp2
               replace HO_4 := Z.k (Kd.R_drew HO_4.out)
               replace HO_5 := Z.k (Kd.R_drew HO_5.out)
               replace HO_1128001 := Z.k (Kd.R_drew HO_1128001.out)
               replace HO_1128002 := Z.k (Kd.R_drew HO_1128002.out)
               replace BK1127 := Z.k (blk_drew BK1127.out)
               replace HB := Z.k (below_drew1 HB.out)
               refine start_ (n := 9) (S := fun w' => w'.cell? ⟨gb1127, 0, none⟩ = some (.int .i64 t1113) ∧ w'.cell? ⟨gb1127, 1, none⟩ = some (.slice Ao21 t1114.length co21) ∧ w'.cell? ⟨gb1127, 2, none⟩ = some (.slice Ao22 t1117.length co22)) (ds := []) #[false, false, false, false, false, false, false, false, false] (by kernel_rfl) rfl rfl ⟨(blk_cell BK1127.out 0).trans rfl, (blk_cell BK1127.out 1).trans rfl, (blk_cell BK1127.out 2).trans rfl⟩ (fun hHeld => ?_); refine with_tabW laws_FnSafeFor.tab17 laws_FnSafeFor.bits17 (fun HT_ HW_ => ?_)
               generalize wc.drew = w58 at HO_4 HO_5 HO_1128001 HO_1128002 BK1127 HB hHeld ⊢
               refine Z.pv 1 86 9 2 HT_.out ?_
               refine Z.pv 2 87 9 6 HT_.out ?_
               refine Z.pv 3 88 9 14 HT_.out ?_
               refine Z.pv 4 89 9 30 HT_.out ?_
               refine Z.pv 5 90 9 62 HT_.out ?_
               refine Z.pv 6 91 9 126 HT_.out ?_
               refine Z.t3 0 85 9 127 HT_.out HW_.out hHeld ?_
               refine one_ (i := 7) (N := some 92) (Z.mb 9 255) rfl rfl (one_of HT_.out (by kernel_rfl)) (by decide) (fun K hK => ?_)
               refine goes_ Try.func22 (by kernel_rfl) rfl #[.agg #[.int .i64 t1113, .slice Ao21 t1114.length co21, .slice Ao22 t1117.length co22], .slice Ao23 t1120.length co23, .slice Ao24 t1123.length co24, .int .i64 (Go.bits .andNot .i64 t1126 (ji53))] (by rfl) rfl rfl (by (try simp only [List.map_toArray, List.map_cons, List.map_nil]); rfl) ?_
               with_reducible refine (impl_SafeFor.calls kj46 t1113 _ _ t1114 _ _ t1117 _ _ t1120 _ _ t1123 (Go.bits .andNot .i64 t1126 (ji53)) false _ ?q1 ?q2 ?q3 ?q4 ?q5 ?q6 ?q7 ?q8 A54.out).mono ?_
               (case q1 => exact (Kd.R_reads' HO_1128001.out).2.2)
               (case q2 => exact (Kd.R_reads' HO_1128001.out).2.1)
               (case q3 => exact (Kd.R_reads' HO_1128002.out).2.2)
               (case q4 => exact (Kd.R_reads' HO_1128002.out).2.1)
               (case q5 => exact (Kd.R_reads' HO_4.out).2.2)
               (case q6 => exact (Kd.R_reads' HO_4.out).2.1)
               (case q7 => exact (Kd.R_reads' HO_5.out).2.2)
               (case q8 => exact (Kd.R_reads' HO_5.out).2.1)
               rintro e w59 ⟨rfl, hb⟩
               refine ⟨_, rfl, ?_⟩
               replace HO_4 := Z.k (Kd.R_below HO_4.out hb)
               replace HO_5 := Z.k (Kd.R_below HO_5.out hb)
               replace HO_1128001 := Z.k (Kd.R_below HO_1128001.out hb)
               replace HO_1128002 := Z.k (Kd.R_below HO_1128002.out hb)
               replace BK1127 := Z.bb BK1127 hb
               replace HB := Z.st (Z.bs HB.out GE1127.out) hb
               (try clear hb)
               refine hK.out _ _ ⟨(blk_cell BK1127.out 0).trans rfl, (blk_cell BK1127.out 1).trans rfl, (blk_cell BK1127.out 2).trans rfl⟩ (fun hHeld => ?_)
               clear hK K
               refine Z.nm ?_
               refine Z.pv 8 93 9 511 HT_.out ?_
               refine done_ (done_of HT_.out (by kernel_rfl)) ?_
               try go_wp2
               go_ret
               exact ⟨by rfl, Z.bs HB.out GE1127.out⟩
             ·replace c51 := Bool.eq_false_iff.mpr c51
              subst c51
              rw [if_neg (show ¬ (false = true) by decide)] at H
              replace H := Option.bind_eq_some_iff.mp H
              obtain ⟨t1138, A600, H⟩ := H
              have A60 := Z.k A600
              clear A600
              have H' := Z.k H
              clear H
              have hcz61 := Z.c3 BK1127.out
              go_wp2_with (((with_reducible refine gate_callee (f := 21) rfl ?_); refine goesL_ (some 97) rfl rfl Try.func21 (by kernel_rfl) rfl #[.agg #[.int .i64 t1113, .slice Ao21 t1114.length co21, .slice Ao22 t1117.length co22], .slice Ao23 t1120.length co23, .slice Ao24 t1123.length co24] rfl Z.ar ?_; (with_reducible refine (impl_BreakersOf.calls kj46 t1113 _ _ t1114 _ _ t1117 _ _ t1120 _ _ t1123 t1138 _ ?q1 ?q2 ?q3 ?q4 ?q5 ?q6 ?q7 ?q8 A60.out).mono ?_); (case q1 => exact (Kd.R_reads' HO_1128001.out).2.2); (case q2 => exact (Kd.R_reads' HO_1128001.out).2.1); (case q3 => exact (Kd.R_reads' HO_1128002.out).2.2); (case q4 => exact (Kd.R_reads' HO_1128002.out).2.1); (case q5 => exact (Kd.R_reads' HO_4.out).2.2); (case q6 => exact (Kd.R_reads' HO_4.out).2.1); (case q7 => exact (Kd.R_reads' HO_5.out).2.2); (case q8 => exact (Kd.R_reads' HO_5.out).2.1); rintro e w62 ⟨v1139, rfl, ho0, hb⟩; refine ⟨_, rfl, ?_⟩; replace HO_1128002 := Z.k (Kd.R_below HO_1128002.out hb); have HO1140 := Z.k (Kd.R_lower (Kd.R_new' (Kd.R_new' (Kd.R_new' ho0 (Kd.R_lt HO_4.out)) (Kd.R_lt HO_5.out)) (Kd.R_lt HO_1128001.out)) (below_size (Z.bs HB.out GE1127.out))); replace HO_4 := Z.k (Kd.R_elder' HO_4.out (Kd.R_base ho0) hb); replace HO_5 := Z.k (Kd.R_elder' HO_5.out (Kd.R_base ho0) hb); replace HO_1128001 := Z.k (Kd.R_elder' HO_1128001.out (Kd.R_base ho0) hb); replace BK1127 := Z.bb BK1127 hb; replace HB := Z.st (Z.bs HB.out GE1127.out) hb; (try clear hb); (try clear ho0)))
              go_loopg [11, 12] kj46 (fun kq v11 v12 w' => ∃ (x11_5 : Bool) (x12_5 : Int), v11 = .bool x11_5 ∧ v12 = .int .i64 x12_5 ∧ Aside0 (laws_FnSafeFor.l2 kq t1120 t1126 t1128 t1138 x11_5 x12_5 t1113 t1114 t1117 = some r) ∧ Aside0 (kq ≤ kj46) ∧ Aside0 (Kd.R (Kd.int .i64) 3 w' w.heap.size (fun k_ => some k_ ≠ (v1139 : Value).ownBlock ∧ some k_ ≠ ((.slice Ao21 t1114.length co21) : Value).ownBlock) (.slice Ao23 t1120.length co23) t1120) ∧ Aside0 (Kd.R (Kd.int .i64) 3 w' w.heap.size (fun k_ => some k_ ≠ ((.slice Ao23 t1120.length co23) : Value).ownBlock ∧ some k_ ≠ ((.slice Ao21 t1114.length co21) : Value).ownBlock) v1139 t1138) ∧ Aside0 (Kd.R (Kd.int .i64) 3 w' w.heap.size (fun k_ => some k_ ≠ ((.slice Ao23 t1120.length co23) : Value).ownBlock ∧ some k_ ≠ (v1139 : Value).ownBlock) (.slice Ao21 t1114.length co21) t1114) ∧ Aside0 (Kd.R (Kd.slice 37 k37) 34 w' w.heap.size (fun _ => True) (.slice Ao22 t1117.length co22) t1117) ∧ Aside0 (w'.heap[gb1127]? = some (.cells #[.int .i64 t1113, (.slice Ao21 t1114.length co21), (.slice Ao22 t1117.length co22)] 28 (0, 0))) ∧ Aside0 (Below w.heap.size w w'))
              case atStart => exact ⟨(false), (0), (by rfl), (by rfl), H', ⟨Nat.le_refl _⟩, ⟨by exact Kd.R_mono HO_4.out (fun _ hk => ⟨hk.2, hk.1.2⟩)⟩, ⟨by exact Kd.R_mono HO1140.out (fun _ hk => ⟨hk.1.1.2, hk.2⟩)⟩, ⟨by exact Kd.R_mono HO_1128001.out (fun _ hk => ⟨hk.1.1, hk.2⟩)⟩, ⟨by exact HO_1128002.out⟩, ⟨by exact BK1127.out⟩, ⟨Z.bs HB.out GE1127.out⟩⟩
              case round =>
               clear H'
               obtain ⟨x11_5, x12_5, rfl, rfl, HA, HK5, HO_4, HO_10, HO_1128001, HO_1128002, BK1127, HB⟩ := hrel
               cases gk with
               | zero => exact absurd HA.out (by simp [laws_FnSafeFor.l2])
               | succ k5 =>
                have H := HA.out
                clear HA
                simp only [laws_FnSafeFor.l2] at H
                by_cases c63 : x12_5 < (t1138.length : Int)
                ·rw [if_pos c63] at H
                 have c63b0 := decide_eq_true c63
                 clear c63
                 by_cases c64 : x11_5 = true
                 ·subst c64
                  rw [if_pos rfl] at H
                  have H' := Z.k H
                  clear H
                  obtain ⟨Ao65, co65, eo65⟩ := Kd.R_slice HO_10.out
                  subst eo65
                  try go_wp2
                  replace HO_4 := Z.k (Kd.R_drew HO_4.out)
                  replace HO_10 := Z.k (Kd.R_drew HO_10.out)
                  replace HO_1128001 := Z.k (Kd.R_drew HO_1128001.out)
                  replace HO_1128002 := Z.k (Kd.R_drew HO_1128002.out)
                  replace BK1127 := Z.k (blk_drew BK1127.out)
                  replace HB := Z.k (below_drew1 HB.out)
                  refine start_ (n := 15) (S := fun w' => True) (ds := []) #[false, false, false, false, false, false, false, false, false, false, false, false, false, false, false] (by kernel_rfl) rfl rfl trivial (fun hHeld => ?_); refine with_tabW laws_FnSafeFor.tab24 laws_FnSafeFor.bits24 (fun HT_ HW_ => ?_)
                  generalize wr.drew = w66 at HO_4 HO_10 HO_1128001 HO_1128002 BK1127 HB hHeld ⊢
                  refine Z.pv 0 104 15 1 HT_.out ?_
                  refine Z.pv 1 105 15 3 HT_.out ?_
                  refine Z.pu 2 106 15 7 HT_.out ?_
                  refine Z.pu 3 107 15 15 HT_.out ?_
                  refine Z.pu 4 108 15 31 HT_.out ?_
                  refine Z.pu 5 109 15 63 HT_.out ?_
                  refine Z.pu 6 110 15 127 HT_.out ?_
                  refine Z.pu 7 111 15 255 HT_.out ?_
                  refine Z.pu 8 112 15 511 HT_.out ?_
                  refine Z.pu 9 113 15 1023 HT_.out ?_
                  refine Z.pu 10 114 15 2047 HT_.out ?_
                  refine Z.pu 11 115 15 4095 HT_.out ?_
                  refine Z.pu 12 116 15 8191 HT_.out ?_
                  refine Z.pv 13 117 15 16383 HT_.out ?_
                  refine Z.pv 14 11 15 32767 HT_.out ?_
                  refine done_ (done_of HT_.out (by kernel_rfl)) ?_
                  try go_wp2
                  go_roundg k5
                  case measure => have := HJ16.out; have := HK2.out; have := HK3.out; have := HJ46.out; have := HK5.out; omega
                  case rel => exact ⟨(true), (wrap64 (x12_5 + 1)), (by rfl), (by rfl), H', ⟨by have := HJ16.out; have := HK2.out; have := HK3.out; have := HJ46.out; have := HK5.out; omega⟩, ⟨by exact HO_4.out⟩, ⟨by exact HO_10.out⟩, ⟨by exact HO_1128001.out⟩, ⟨by exact HO_1128002.out⟩, ⟨by exact BK1127.out⟩, ⟨Z.bs HB.out GE1127.out⟩⟩
                 ·replace c64 := Bool.eq_false_iff.mpr c64
                  subst c64
                  rw [if_neg (show ¬ (false = true) by decide)] at H
                  obtain ⟨c67, H⟩ := Z.ifp H
                  have c67b0 : decide (0 ≤ x12_5) = true := decide_eq_true c67
                  clear c67
                  have H' := Z.k H
                  clear H
                  obtain ⟨Ao68, co68, eo68⟩ := Kd.R_slice HO_10.out
                  subst eo68
                  try go_wp2
                  replace HO_4 := Z.k (Kd.R_drew HO_4.out)
                  replace HO_10 := Z.k (Kd.R_drew HO_10.out)
                  replace HO_1128001 := Z.k (Kd.R_drew HO_1128001.out)
                  replace HO_1128002 := Z.k (Kd.R_drew HO_1128002.out)
                  replace BK1127 := Z.k (blk_drew BK1127.out)
                  replace HB := Z.k (below_drew1 HB.out)
                  have p1141 : 0 ≤ (x12_5 : Int) := Z.od
                  have q1141 : x12_5 < (t1138.length : Int) := Z.od
                  obtain ⟨ad1141, e1141, hx1141_0⟩ := Kd.at_int (Kd.R_reads' HO_10.out).2.2 x12_5 p1141 q1141
                  cases e1141
                  replace p1141 := eq_true p1141
                  replace q1141 := eq_true q1141
                  have p1142 : 0 ≤ (x12_5 : Int) := Z.od
                  have q1142 : x12_5 < (t1138.length : Int) := Z.od
                  obtain ⟨ad1142, e1142, hx1142_0⟩ := Kd.at_int (Kd.R_reads' HO_10.out).2.2 x12_5 p1142 q1142
                  obtain rfl : ad1141 = ad1142 := (by injection e1142)
                  replace p1142 := eq_true p1142
                  replace q1142 := eq_true q1142
                  refine start_ (n := 15) (S := fun w' => w'.cell? (ad1141.add (x12_5).toNat) = some (.int .i64 (rd t1138 x12_5)) ∧ w'.cell? (ad1141.add (x12_5).toNat) = some (.int .i64 (rd t1138 x12_5))) (ds := []) #[false, false, false, false, false, false, false, false, false, false, false, false, false, false, false] (by kernel_rfl) rfl rfl ⟨hx1141_0, hx1142_0⟩ (fun hHeld => ?_); refine with_tabW laws_FnSafeFor.tab24 laws_FnSafeFor.bits24 (fun HT_ HW_ => ?_)
                  generalize wr.drew = w69 at HO_4 HO_10 HO_1128001 HO_1128002 BK1127 HB hx1141_0 hx1142_0 hHeld ⊢
                  refine Z.pv 0 104 15 1 HT_.out ?_
                  refine Z.pv 1 105 15 3 HT_.out ?_
                  refine Z.pv 2 106 15 7 HT_.out ?_
                  refine Z.pv 3 107 15 15 HT_.out ?_
                  refine Z.pv 4 108 15 31 HT_.out ?_
                  refine Z.pv 6 110 15 95 HT_.out ?_
                  refine Z.pv 8 112 15 351 HT_.out ?_
                  refine Z.pv 9 113 15 863 HT_.out ?_
                  refine Z.pv 10 114 15 1887 HT_.out ?_
                  refine Z.t2 5 109 15 1919 HT_.out HW_.out hHeld ?_
                  refine Z.pv 7 111 15 2047 HT_.out ?_
                  refine Z.t2 11 115 15 4095 HT_.out HW_.out hHeld ?_
                  refine Z.pv 12 116 15 8191 HT_.out ?_
                  refine Z.pv 13 117 15 16383 HT_.out ?_
                  refine Z.pv 14 11 15 32767 HT_.out ?_
                  refine done_ (done_of HT_.out (by kernel_rfl)) ?_
                  try go_wp2
                  go_roundg k5
                  case measure => have := HJ16.out; have := HK2.out; have := HK3.out; have := HJ46.out; have := HK5.out; omega
                  case rel => exact ⟨(((Go.bits .and .i64 (rd t1138 x12_5) t1126) == (rd t1138 x12_5))), (wrap64 (x12_5 + 1)), (by rfl), (by rfl), H', ⟨by have := HJ16.out; have := HK2.out; have := HK3.out; have := HJ46.out; have := HK5.out; omega⟩, ⟨by exact HO_4.out⟩, ⟨by exact HO_10.out⟩, ⟨by exact HO_1128001.out⟩, ⟨by exact HO_1128002.out⟩, ⟨by exact BK1127.out⟩, ⟨Z.bs HB.out GE1127.out⟩⟩
                ·rw [if_neg c63] at H
                 have c63b0 := decide_eq_false c63
                 clear c63
                 by_cases c70 : (t1128 == (!x11_5)) = true
                 ·rw [if_pos c70] at H
                  have c70b0 : (t1128 == (!x11_5)) = true := c70
                  (try (have c70b1 : decide (t1128 = (!x11_5)) = true := by simpa using c70))
                  (try (have c70b2 : (t1128 == (!x11_5)) = true := by simpa using c70))
                  clear c70
                  obtain ⟨y1143, hy1143⟩ : ∃ y_ : List Int, y_ = (([] : List Int)) := ⟨_, rfl⟩
                  replace H : ((impl_SafeFor.f k5 t1113 t1114 t1117 t1120 y1143 t1126).bind fun t1146 => (some t1146)) = some r := by (rw [hy1143]; with_reducible exact H)
                  have Ny1143 := Z.k hy1143
                  clear hy1143
                  replace H := Option.bind_eq_some_iff.mp H
                  obtain ⟨t1146, A710, H⟩ := H
                  have A71 := Z.k A710
                  clear A710
                  obtain rfl := Option.some.inj H
                  obtain ⟨Ao72, co72, eo72⟩ := Kd.R_slice HO_10.out
                  subst eo72
                  have hcz73 := Z.c3 BK1127.out
                  go_wp2_with (first | ((with_reducible refine gate_dst (N := 125) rfl ?_); (try (refine gate_guard (by rfl) ?_; dsimp only)); refine Kd.R_lit (Kd.int .i64) _ 3 ?hg (N := 125) ?hd (xs := ([] : List Int)) (inner := []) (ok := fun _ => True) (okp := fun _ => True) ?hr ?hp (fun _ hk => hk) trivial (Below.refl _ _) (Nat.le_refl _) (by simp) ?_; (case hd | hg => rfl); (case hr => (go_simp; done)); (case hp => exact (Reps.none _ _)); intro v1144 w74 ho75 hb hg_ hnew_; clear hg_ hnew_; (rw [← Ny1143.out] at ho75); replace HO_1128002 := Z.k (Kd.R_below HO_1128002.out hb); have HO1145 := Z.k (Kd.R_lower (Kd.R_new' (Kd.R_new' (Kd.R_new' ho75 (Kd.R_lt HO_4.out)) (Kd.R_lt HO_10.out)) (Kd.R_lt HO_1128001.out)) (below_size (Z.bs HB.out GE1127.out))); replace HO_4 := Z.k (Kd.R_elder' HO_4.out (Kd.R_base ho75) hb); replace HO_10 := Z.k (Kd.R_elder' HO_10.out (Kd.R_base ho75) hb); replace HO_1128001 := Z.k (Kd.R_elder' HO_1128001.out (Kd.R_base ho75) hb); replace BK1127 := Z.bb BK1127 hb; replace HB := Z.st (Z.bs HB.out GE1127.out) hb; clear hb ho75; obtain ⟨Ao76, co76, eo76⟩ := Kd.R_slice HO1145.out; subst eo76) | (go_at_call 22; (with_reducible refine (impl_SafeFor.calls k5 t1113 _ _ t1114 _ _ t1117 _ _ t1120 _ _ y1143 t1126 t1146 _ ?q1 ?q2 ?q3 ?q4 ?q5 ?q6 ?q7 ?q8 A71.out).mono ?_); (case q1 => exact (Kd.R_reads' HO_1128001.out).2.2); (case q2 => exact (Kd.R_reads' HO_1128001.out).2.1); (case q3 => exact (Kd.R_reads' HO_1128002.out).2.2); (case q4 => exact (Kd.R_reads' HO_1128002.out).2.1); (case q5 => exact (Kd.R_reads' HO_4.out).2.2); (case q6 => exact (Kd.R_reads' HO_4.out).2.1); (case q7 => exact (Kd.R_reads' HO1145.out).2.2); (case q8 => exact (Kd.R_reads' HO1145.out).2.1); rintro e w77 ⟨rfl, hb⟩; replace HO_4 := Z.k (Kd.R_below HO_4.out hb); replace HO_10 := Z.k (Kd.R_below HO_10.out hb); replace HO_1128001 := Z.k (Kd.R_below HO_1128001.out hb); replace HO_1128002 := Z.k (Kd.R_below HO_1128002.out hb); replace HO1145 := Z.k (Kd.R_below HO1145.out hb); replace BK1127 := Z.bb BK1127 hb; replace HB := Z.st (Z.bs HB.out GE1127.out) hb; (try clear hb)))
                  go_ret
                  exact ⟨by rfl, Z.bs HB.out GE1127.out⟩
                 ·rw [if_neg c70] at H
                  have c70b0 : (t1128 == (!x11_5)) = false := by simpa using c70
                  (try (have c70b1 : decide (t1128 = (!x11_5)) = false := by simpa using c70))
                  (try (have c70b2 : (t1128 == (!x11_5)) = false := by simpa using c70))
                  (try (have c70b3 : ¬ (t1128 = (!x11_5)) := by simpa using c70))
                  clear c70
                  obtain rfl := Option.some.inj H
                  obtain ⟨Ao78, co78, eo78⟩ := Kd.R_slice HO_10.out
                  subst eo78
                  go_wp2
                  go_ret
                  exact ⟨by rfl, Z.bs HB.out GE1127.out⟩

/-- THE ONE PURE STATEMENT of laws_FnSafeFor: yours. -/
def laws_FnSafeFor.Pure : Prop := ∀ (l0 : List Int), l0.length ≤ maxLen → l0.length * 1 ≤ 140737488351232 → (∀ x ∈ l0, (Lit.int .u8 x).wf = true) → ∃ k, laws_FnSafeFor.f k l0 = some true
theorem laws_FnSafeFor.walk (P : laws_FnSafeFor.Pure) (a0 : Option Addr) (len0 cap0 : Nat) (z0 : List Int) (w : World) (w0 : (a0 = none ∧ len0 = 0 ∧ cap0 = 0 ∧ z0 = []) ∨ ∃ x, a0 = some x ∧ len0 ≤ cap0 ∧ cap0 ≤ maxLen ∧ z0.length = cap0 ∧ (∀ i, i < z0.length → w.cell? (x.add i) = some (.int .u8 (z0.getD i 0))) ∧ ∀ n ∈ z0, (Lit.int .u8 n).wf = true) (y0 : len0 * 1 ≤ 140737488351232) :
  Calls Try.prog 9 #[.slice a0 len0 cap0] w fun e w' => e = .returned (.bool true) ∧ Below w.heap.size w w' := by
 obtain ⟨l0, rfl, hr0, hm0, hw0, hc0⟩ := ReadsInt.ofRowC w0
 obtain ⟨k, h⟩ := P l0 hm0 y0 hw0
 refine (laws_FnSafeFor.calls k _ _ l0 true w (Kd.C_of_reads (d := (0 : Int)) (h1 := fun _ => rfl) hr0) hc0 h).mono ?_
 rintro e w' ⟨rfl, hd⟩
 exact ⟨rfl, hd⟩

end Go.Proofs.Ytkogboechfieeaa.PAll

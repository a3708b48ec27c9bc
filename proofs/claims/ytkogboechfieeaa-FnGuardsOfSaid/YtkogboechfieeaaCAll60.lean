/- Walks of functions that laws of this seat reach, in the form of the print. -/
import Derived.Test.YtkogboechfieeaaCAll26
import Derived.Test.YtkogboechfieeaaCAll29
import Derived.Test.YtkogboechfieeaaCAll35
import Derived.Test.YtkogboechfieeaaCAll49
import Derived.Test.YtkogboechfieeaaCAll76
-- PRINTED
namespace Go.Proofs.Ytkogboechfieeaa.PAll
open Go.RowKit Go.Proofs.YtkogboechfieeaaW.PrintWords Go.Proofs.YtkogboechfieeaaW.PrintLast Go.Proofs.YtkogboechfieeaaW.PrintMore
attribute [local go_sem] max2_int min2_int max_two min_two max_three min_three max_four min_four
set_option linter.unusedVariables false
set_option linter.unusedSimpArgs false

/-! ### laws_FnGuardsOf: function 13 -/
mutual
def laws_FnGuardsOf.l0 : Nat → List Int → List Int → List Int → List Int → Int → Int → List Int → List (List (S37)) → Option (Bool)
 | 0, _, _, _, _, _, _, _, _ => none
 | k + 1, x4, x5, x6, x7, x8, x134, x125, x126 => if x8 < (x6.length : Int) then (laws_FnGuardsOf.l1 k x4 x5 x6 x7 x8 0 x134 x125 x126) else ((spec_StateOk.f k x134 x125 x126 x4).bind fun t162 => (if t162 = true then ((impl_SafeFor.f k x134 x125 x126 x4 x5 0).bind fun t159 => (laws_FnGuardsOf.j4 k x4 x5 x6 t159 x134 x125 x126)) else (laws_FnGuardsOf.j4 k x4 x5 x6 false x134 x125 x126)))
def laws_FnGuardsOf.l1 : Nat → List Int → List Int → List Int → List Int → Int → Int → Int → List Int → List (List (S37)) → Option (Bool)
 | 0, _, _, _, _, _, _, _, _, _ => none
 | k + 1, x4, x5, x6, x7, x8, x9, x134, x125, x126 => if x9 < (x7.length : Int) then (if 0 ≤ x8 then (if x8 < (x6.length : Int) then (if 0 ≤ x9 then (if (Go.bits .and .i64 (rd x6 x8) (rd x7 x9)) = 0 then (some false) else (laws_FnGuardsOf.l1 k x4 x5 x6 x7 x8 (wrap64 (x9 + 1)) x134 x125 x126)) else (none)) else (none)) else (none)) else (laws_FnGuardsOf.l2 k x4 x5 x6 x7 x8 0 x134 x125 x126)
def laws_FnGuardsOf.l2 : Nat → List Int → List Int → List Int → List Int → Int → Int → Int → List Int → List (List (S37)) → Option (Bool)
 | 0, _, _, _, _, _, _, _, _, _ => none
 | k + 1, x4, x5, x6, x7, x8, x10, x134, x125, x126 => if x10 < x134 then (if 0 ≤ x8 then (if x8 < (x6.length : Int) then (if 0 ≤ x10 then (if (Int.tmod (shr .i64 (rd x6 x8) x10) 2) = 0 then (laws_FnGuardsOf.l2 k x4 x5 x6 x7 x8 (wrap64 (x10 + 1)) x134 x125 x126) else (laws_FnGuardsOf.l3 k x4 x5 x6 x7 x8 x10 false 0 x134 x125 x126)) else (none)) else (none)) else (none)) else (laws_FnGuardsOf.l0 k x4 x5 x6 x7 (wrap64 (x8 + 1)) x134 x125 x126)
def laws_FnGuardsOf.l3 : Nat → List Int → List Int → List Int → List Int → Int → Int → Bool → Int → Int → List Int → List (List (S37)) → Option (Bool)
 | 0, _, _, _, _, _, _, _, _, _, _, _ => none
 | k + 1, x4, x5, x6, x7, x8, x10, x11, x12, x134, x125, x126 => if x12 < (x7.length : Int) then (if x11 = true then (laws_FnGuardsOf.l3 k x4 x5 x6 x7 x8 x10 true (wrap64 (x12 + 1)) x134 x125 x126) else (if 0 ≤ x8 then (if x8 < (x6.length : Int) then (if 0 ≤ x10 then (if 0 ≤ x12 then (laws_FnGuardsOf.l3 k x4 x5 x6 x7 x8 x10 ((Go.bits .and .i64 (wrap64 ((rd x6 x8) - (shl .i64 1 x10))) (rd x7 x12)) == 0) (wrap64 (x12 + 1)) x134 x125 x126) else (none)) else (none)) else (none)) else (none))) else (if x11 = true then (laws_FnGuardsOf.l2 k x4 x5 x6 x7 x8 (wrap64 (x10 + 1)) x134 x125 x126) else (some false))
def laws_FnGuardsOf.j4 : Nat → List Int → List Int → List Int → Bool → Int → List Int → List (List (S37)) → Option (Bool)
 | 0, _, _, _, _, _, _, _ => none
 | k + 1, x4, x5, x6, x13, x134, x125, x126 => (spec_StateOk.f k x134 x125 x126 x4).bind fun t163 => (if t163 = true then (if 0 ≤ x134 then ((impl_SafeFor.f k x134 x125 x126 x4 x5 (wrap64 ((shl .i64 1 x134) - 1))).bind fun t155 => ((laws_ascend.f k x6).bind fun t156 => (if t156 = true then (if ((decide ((x6.length : Int) > 0)) == x13) = true then (if t155 = true then (if (x6.length : Int) = 1 then (if 0 < (x6.length : Int) then (if (rd x6 0) = 0 then ((laws_alive.f).bind fun t157 => (some t157)) else (some false)) else (none)) else (some false)) else ((laws_alive.f).bind fun t158 => (some t158))) else (some false)) else (some false)))) else (none)) else ((laws_ascend.f k x6).bind fun t164 => (if t164 = true then (if ((decide ((x6.length : Int) > 0)) == x13) = true then ((laws_alive.f).bind fun t165 => (some t165)) else (some false)) else (some false))))
end
def laws_FnGuardsOf.f (k : Nat) (l0 : List Int) : Option (Bool) := if (l0.length : Int) > 1048576 then (some true) else ((spec_DrawGuardsOf.f k l0).bind fun bt129 => ((impl_GuardsOf.f k bt129.1 bt129.2.1 bt129.2.2.1 bt129.2.2.2.1 bt129.2.2.2.2).bind fun t130 => ((spec_GuardsOf.f k bt129.1 bt129.2.1 bt129.2.2.1 bt129.2.2.2.1 bt129.2.2.2.2).bind fun t154 => ((laws_sameInts.f k t130 t154).bind fun t166 => (if t166 = true then ((impl_BreakersOf.f k bt129.1 bt129.2.1 bt129.2.2.1 bt129.2.2.2.1 bt129.2.2.2.2).bind fun t135 => (laws_FnGuardsOf.l0 k bt129.2.2.2.1 bt129.2.2.2.2 t130 t135 0 bt129.1 bt129.2.1 bt129.2.2.1)) else (some false))))))
def laws_FnGuardsOf.T14 : Bool × List (List Nat × List Nat) := (true, [([], []), ([], []), ([0, 1], [0, 1]), ([2], [2]), ([], []), ([], []), ([4, 5], [4, 5]), ([6], [6]), ([3, 7], [3, 7]), ([8], [8])])
def laws_FnGuardsOf.B14 : List Nat := [0, 0, 3, 7, 0, 0, 48, 112, 255, 511]
theorem laws_FnGuardsOf.tab14 : rtab .any (opsOf Try.f13 14) = laws_FnGuardsOf.T14 := by kernel_rfl
theorem laws_FnGuardsOf.bits14 : waitsOk laws_FnGuardsOf.T14.2 laws_FnGuardsOf.B14 = true := by kernel_rfl
def laws_FnGuardsOf.T24 : Bool × List (List Nat × List Nat) := (true, [([], []), ([0], [0]), ([1], [1]), ([1], [1]), ([2, 3, 1], [1, 2, 3]), ([4, 1], [1, 4]), ([1], [1]), ([6, 1], [1, 6]), ([5, 7, 1], [1, 5, 7]), ([1], [1]), ([1], [1]), ([9, 10, 1], [1, 9, 10]), ([11, 1], [1, 11]), ([8, 12, 1], [1, 8, 12]), ([13, 1], [1, 13]), ([1, 14], [1, 14]), ([15, 1, 0, 1, 2, 3, 4, 5, 6, 7, 8, 9, 10, 11, 12, 13, 14, 15], [0, 15])])
def laws_FnGuardsOf.B24 : List Nat := [0, 1, 3, 3, 15, 31, 3, 67, 255, 3, 3, 1539, 3587, 8191, 16383, 32767, 65535]
theorem laws_FnGuardsOf.tab24 : rtab .any (opsOf Try.f13 24) = laws_FnGuardsOf.T24 := by kernel_rfl
theorem laws_FnGuardsOf.bits24 : waitsOk laws_FnGuardsOf.T24.2 laws_FnGuardsOf.B24 = true := by kernel_rfl
def laws_FnGuardsOf.T28 : Bool × List (List Nat × List Nat) := (true, [([], []), ([], []), ([0, 1], [0, 1]), ([2, 2], [2]), ([3], [3]), ([3], [3]), ([3], [3]), ([3], [3]), ([7, 3], [3, 7]), ([8, 3], [3, 8]), ([9, 3], [3, 9]), ([10, 3], [3, 10]), ([4, 5, 6, 11, 3, 3], [3, 4, 5, 6, 11]), ([3, 12], [3, 12]), ([13, 12, 0, 1, 2, 3, 4, 5, 6, 7, 8, 9, 10, 11, 12, 13], [13])])
def laws_FnGuardsOf.B28 : List Nat := [0, 0, 3, 7, 15, 15, 15, 15, 143, 399, 911, 1935, 4095, 8191, 16383]
theorem laws_FnGuardsOf.tab28 : rtab .any (opsOf Try.f13 28) = laws_FnGuardsOf.T28 := by kernel_rfl
theorem laws_FnGuardsOf.bits28 : waitsOk laws_FnGuardsOf.T28.2 laws_FnGuardsOf.B28 = true := by kernel_rfl
set_option maxHeartbeats 8000000 in
set_option maxRecDepth 100000 in
theorem laws_FnGuardsOf.calls (k : Nat) (A0 : Option Addr) (c0 : Nat) (l0 : List Int) (r : Bool) (w : World) (hr0 : Kd.C (Kd.int .u8) w A0 l0.length l0) (hc0 : l0.length ≤ c0) (h : laws_FnGuardsOf.f k l0 = some r) :
  Calls Try.prog 13 #[.slice A0 l0.length c0] w fun e w' => e = .returned (.bool r) ∧ Below w.heap.size w w' := by
 have hu28 := Try.underlying28
 have HR0 := Z.k hr0
 have HC0 := Z.k hc0
 clear hr0 hc0
 have HB := Z.k (Below.refl w.heap.size w)
 have H := h
 clear h
 unfold laws_FnGuardsOf.f at H
 by_cases c2 : (l0.length : Int) > 1048576
 ·rw [if_pos c2] at H
  have c2b0 : decide (1048576 < (l0.length : Int)) = true := decide_eq_true c2
  have c2b1 : decide (1048576 < l0.length) = true := decide_eq_true (by omega)
  clear c2
  obtain rfl := Option.some.inj H
  go_enter Try.func13, Try.ntmps13
  go_wp2
  go_ret
  exact ⟨by rfl, Z.bl HB.out⟩
 rw [if_neg c2] at H
 have c2b0 : decide (1048576 < (l0.length : Int)) = false := decide_eq_false c2
 have c2b1 : decide (1048576 < l0.length) = false := decide_eq_false (by omega)
 clear c2
 revert H; refine Z.bd ?_; rintro ⟨t129, t128, t131, t132, t133⟩ A3 H
 try dsimp only at H
 revert H; refine Z.bd ?_; rintro t130 A4 H
 revert H; refine Z.bd ?_; rintro t154 A5 H
 revert H; refine Z.bd ?_; rintro t166 A6 H
 by_cases c7 : t166 = true
 rotate_left
 ·replace c7 := Bool.eq_false_iff.mpr c7
  subst c7
  rw [if_neg (show ¬ (false = true) by decide)] at H
  obtain rfl := Option.some.inj H
  go_enter Try.func13, Try.ntmps13
  go_wp2_with (first | ((with_reducible refine gate_callee (f := 51) rfl ?_); refine goesL_ (some 20) rfl rfl Try.func51 (by kernel_rfl) rfl #[.slice A0 l0.length c0] rfl Z.ar ?_; (with_reducible refine (spec_DrawGuardsOf.calls k _ _ l0 t129 t128 t131 t132 t133 _ ?q1 ?q2 A3.out).mono ?_); (case q1 => exact HR0.out); (case q2 => exact HC0.out); rintro e w105 ⟨v167, v168, v169, v170, rfl, ho0, ho1, ho2, ho3, hb⟩; refine ⟨_, rfl, ?_⟩; have HO136 := Z.k (Kd.R_lower ho0 (below_size (Z.bl HB.out))); have HO142 := Z.k (Kd.R_lower ho1 (below_size (Z.bl HB.out))); have HO137 := Z.k (Kd.R_lower ho2 (below_size (Z.bl HB.out))); have HO138 := Z.k (Kd.R_lower ho3 (below_size (Z.bl HB.out))); replace HB := Z.st (Z.bl HB.out) hb; (try clear hb ho0 ho1); (try clear ho2); (try clear ho3)) | ((with_reducible refine gate_dst (N := 3) rfl ?_); (try (refine gate_guard (by rfl) ?_; dsimp only)); refine Z.bx #[.int .i64 0, .slice none 0 0, .slice none 0 0] 28 HB ?_; clear HB; intro gb123 w106 BK123 GE123 HB hg hb; have GW123 := GE123; replace HO136 := Z.rb HO136 hb; replace HO142 := Z.rb HO142 hb; replace HO137 := Z.rb HO137 hb; replace HO138 := Z.rb HO138 hb; clear hb hg; have hcz107 := Z.c3 BK123.out; obtain ⟨Ao108, co108, eo108⟩ := Kd.R_slice HO136.out; subst eo108; obtain ⟨Ao109, co109, eo109⟩ := Kd.R_slice HO142.out; subst eo109; obtain ⟨Ao110, co110, eo110⟩ := Kd.R_slice HO137.out; subst eo110; obtain ⟨Ao111, co111, eo111⟩ := Kd.R_slice HO138.out; subst eo111) | ((with_reducible refine gate_callee (f := 23) rfl ?_); refine goesL_ (some 27) rfl rfl Try.func23 (by kernel_rfl) rfl #[.agg #[.int .i64 t129, .slice Ao108 t128.length co108, .slice Ao109 t131.length co109], .slice Ao110 t132.length co110, .slice Ao111 t133.length co111] rfl Z.ar ?_; (with_reducible refine (impl_GuardsOf.calls k t129 _ _ t128 _ _ t131 _ _ t132 _ _ t133 t130 _ ?q1 ?q2 ?q3 ?q4 ?q5 ?q6 ?q7 ?q8 A4.out).mono ?_); (case q1 => refine (Kd.R_reads' (e := 3) (base := w.heap.size) (ok := fun k_ => (some k_ ≠ (.slice Ao110 t132.length co110 : Value).ownBlock ∧ some k_ ≠ (.slice Ao111 t133.length co111 : Value).ownBlock)) (n := t128.length) (c := co108) ?_).2.2; exact (Kd.R_mono (Kd.R_far (p := ⟨gb123, 2, none⟩) (Kd.R_far (p := ⟨gb123, 1, none⟩) (Kd.R_far (p := ⟨gb123, 0, none⟩) (Kd.R_types HO136.out BK123.out (by decide)) (fun _ hk => hk.2) (.int .i64 t129)) (fun _ hk => hk.2) (.slice Ao108 t128.length co108)) (fun _ hk => hk.2) (.slice Ao109 t131.length co109)) (fun _ h_ => h_.1))); (case q2 => exact (Kd.R_reads' HO136.out).2.1); (case q3 => refine (Kd.R_reads' (e := 34) (base := w.heap.size) (ok := fun k_ => True) (n := t131.length) (c := co109) ?_).2.2; exact (Kd.R_mono (Kd.R_far (p := ⟨gb123, 2, none⟩) (Kd.R_far (p := ⟨gb123, 1, none⟩) (Kd.R_far (p := ⟨gb123, 0, none⟩) (Kd.R_types HO142.out BK123.out (by decide)) (fun _ hk => hk.2) (.int .i64 t129)) (fun _ hk => hk.2) (.slice Ao108 t128.length co108)) (fun _ hk => hk.2) (.slice Ao109 t131.length co109)) (fun _ h_ => h_.1))); (case q4 => exact (Kd.R_reads' HO142.out).2.1); (case q5 => refine (Kd.R_reads' (e := 3) (base := w.heap.size) (ok := fun k_ => (some k_ ≠ (.slice Ao108 t128.length co108 : Value).ownBlock ∧ some k_ ≠ (.slice Ao111 t133.length co111 : Value).ownBlock)) (n := t132.length) (c := co110) ?_).2.2; exact (Kd.R_mono (Kd.R_far (p := ⟨gb123, 2, none⟩) (Kd.R_far (p := ⟨gb123, 1, none⟩) (Kd.R_far (p := ⟨gb123, 0, none⟩) (Kd.R_types HO137.out BK123.out (by decide)) (fun _ hk => hk.2) (.int .i64 t129)) (fun _ hk => hk.2) (.slice Ao108 t128.length co108)) (fun _ hk => hk.2) (.slice Ao109 t131.length co109)) (fun _ h_ => h_.1))); (case q6 => exact (Kd.R_reads' HO137.out).2.1); (case q7 => refine (Kd.R_reads' (e := 3) (base := w.heap.size) (ok := fun k_ => (some k_ ≠ (.slice Ao108 t128.length co108 : Value).ownBlock ∧ some k_ ≠ (.slice Ao110 t132.length co110 : Value).ownBlock)) (n := t133.length) (c := co111) ?_).2.2; exact (Kd.R_mono (Kd.R_far (p := ⟨gb123, 2, none⟩) (Kd.R_far (p := ⟨gb123, 1, none⟩) (Kd.R_far (p := ⟨gb123, 0, none⟩) (Kd.R_types HO138.out BK123.out (by decide)) (fun _ hk => hk.2) (.int .i64 t129)) (fun _ hk => hk.2) (.slice Ao108 t128.length co108)) (fun _ hk => hk.2) (.slice Ao109 t131.length co109)) (fun _ h_ => h_.1))); (case q8 => exact (Kd.R_reads' HO138.out).2.1); rintro e w112 ⟨v171, rfl, ho0, hb⟩; refine ⟨_, rfl, ?_⟩; replace HO142 := Z.k (Kd.R_below (Kd.R_mono (Kd.R_far (p := ⟨gb123, 2, none⟩) (Kd.R_far (p := ⟨gb123, 1, none⟩) (Kd.R_far (p := ⟨gb123, 0, none⟩) (Kd.R_types HO142.out BK123.out (by decide)) (fun _ hk => hk.2) (.int .i64 t129)) (fun _ hk => hk.2) (.slice Ao108 t128.length co108)) (fun _ hk => hk.2) (.slice Ao109 t131.length co109)) (fun _ h_ => h_.1)) hb); have HO147 := Z.k (Kd.R_lower (Kd.R_new' (Kd.R_new' (Kd.R_new' ho0 (Kd.R_lt (Kd.R_mono (Kd.R_far (p := ⟨gb123, 2, none⟩) (Kd.R_far (p := ⟨gb123, 1, none⟩) (Kd.R_far (p := ⟨gb123, 0, none⟩) (Kd.R_types HO136.out BK123.out (by decide)) (fun _ hk => hk.2) (.int .i64 t129)) (fun _ hk => hk.2) (.slice Ao108 t128.length co108)) (fun _ hk => hk.2) (.slice Ao109 t131.length co109)) (fun _ h_ => h_.1)))) (Kd.R_lt (Kd.R_mono (Kd.R_far (p := ⟨gb123, 2, none⟩) (Kd.R_far (p := ⟨gb123, 1, none⟩) (Kd.R_far (p := ⟨gb123, 0, none⟩) (Kd.R_types HO137.out BK123.out (by decide)) (fun _ hk => hk.2) (.int .i64 t129)) (fun _ hk => hk.2) (.slice Ao108 t128.length co108)) (fun _ hk => hk.2) (.slice Ao109 t131.length co109)) (fun _ h_ => h_.1)))) (Kd.R_lt (Kd.R_mono (Kd.R_far (p := ⟨gb123, 2, none⟩) (Kd.R_far (p := ⟨gb123, 1, none⟩) (Kd.R_far (p := ⟨gb123, 0, none⟩) (Kd.R_types HO138.out BK123.out (by decide)) (fun _ hk => hk.2) (.int .i64 t129)) (fun _ hk => hk.2) (.slice Ao108 t128.length co108)) (fun _ hk => hk.2) (.slice Ao109 t131.length co109)) (fun _ h_ => h_.1)))) (below_size (Z.bs HB.out GE123.out))); replace HO136 := Z.k (Kd.R_elder' (Kd.R_mono (Kd.R_far (p := ⟨gb123, 2, none⟩) (Kd.R_far (p := ⟨gb123, 1, none⟩) (Kd.R_far (p := ⟨gb123, 0, none⟩) (Kd.R_types HO136.out BK123.out (by decide)) (fun _ hk => hk.2) (.int .i64 t129)) (fun _ hk => hk.2) (.slice Ao108 t128.length co108)) (fun _ hk => hk.2) (.slice Ao109 t131.length co109)) (fun _ h_ => h_.1)) (Kd.R_base ho0) hb); replace HO137 := Z.k (Kd.R_elder' (Kd.R_mono (Kd.R_far (p := ⟨gb123, 2, none⟩) (Kd.R_far (p := ⟨gb123, 1, none⟩) (Kd.R_far (p := ⟨gb123, 0, none⟩) (Kd.R_types HO137.out BK123.out (by decide)) (fun _ hk => hk.2) (.int .i64 t129)) (fun _ hk => hk.2) (.slice Ao108 t128.length co108)) (fun _ hk => hk.2) (.slice Ao109 t131.length co109)) (fun _ h_ => h_.1)) (Kd.R_base ho0) hb); replace HO138 := Z.k (Kd.R_elder' (Kd.R_mono (Kd.R_far (p := ⟨gb123, 2, none⟩) (Kd.R_far (p := ⟨gb123, 1, none⟩) (Kd.R_far (p := ⟨gb123, 0, none⟩) (Kd.R_types HO138.out BK123.out (by decide)) (fun _ hk => hk.2) (.int .i64 t129)) (fun _ hk => hk.2) (.slice Ao108 t128.length co108)) (fun _ hk => hk.2) (.slice Ao109 t131.length co109)) (fun _ h_ => h_.1)) (Kd.R_base ho0) hb); replace BK123 := Z.k (blk_below (g := gb123) (o := .cells #[.int .i64 t129, .slice Ao108 t128.length co108, .slice Ao109 t131.length co109] 28 (0, 0)) (by refine blk_put (cs := #[.int .i64 t129, .slice Ao108 t128.length co108, .slice none 0 0]) ?_ 2 _ rfl; refine blk_put (cs := #[.int .i64 t129, .slice none 0 0, .slice none 0 0]) ?_ 1 _ rfl; refine blk_put (cs := #[.int .i64 0, .slice none 0 0, .slice none 0 0]) ?_ 0 _ rfl; exact BK123.out) hb); replace HB := Z.st (Z.bs HB.out GE123.out) hb; (try clear hb); (try clear ho0); have hcz113 := Z.c3 BK123.out) | ((with_reducible refine gate_callee (f := 52) rfl ?_); refine goesL_ (some 32) rfl rfl Try.func52 (by kernel_rfl) rfl #[.agg #[.int .i64 t129, .slice Ao108 t128.length co108, .slice Ao109 t131.length co109], .slice Ao110 t132.length co110, .slice Ao111 t133.length co111] rfl Z.ar ?_; (with_reducible refine (spec_GuardsOf.calls k t129 _ _ t128 _ _ t131 _ _ t132 _ _ t133 t154 _ ?q1 ?q2 ?q3 ?q4 ?q5 ?q6 ?q7 ?q8 A5.out).mono ?_); (case q1 => exact (Kd.R_reads' HO136.out).2.2); (case q2 => exact (Kd.R_reads' HO136.out).2.1); (case q3 => exact (Kd.R_reads' HO142.out).2.2); (case q4 => exact (Kd.R_reads' HO142.out).2.1); (case q5 => exact (Kd.R_reads' HO137.out).2.2); (case q6 => exact (Kd.R_reads' HO137.out).2.1); (case q7 => exact (Kd.R_reads' HO138.out).2.2); (case q8 => exact (Kd.R_reads' HO138.out).2.1); rintro e w114 ⟨v172, rfl, ho0, hb⟩; refine ⟨_, rfl, ?_⟩; replace HO142 := Z.rb HO142 hb; have HO150 := Z.k (Kd.R_lower (Kd.R_new' (Kd.R_new' (Kd.R_new' (Kd.R_new' ho0 (Kd.R_lt HO136.out)) (Kd.R_lt HO137.out)) (Kd.R_lt HO138.out)) (Kd.R_lt HO147.out)) (below_size (Z.bs HB.out GE123.out))); replace HO136 := Z.k (Kd.R_elder' HO136.out (Kd.R_base ho0) hb); replace HO137 := Z.k (Kd.R_elder' HO137.out (Kd.R_base ho0) hb); replace HO138 := Z.k (Kd.R_elder' HO138.out (Kd.R_base ho0) hb); replace HO147 := Z.k (Kd.R_elder' HO147.out (Kd.R_base ho0) hb); replace BK123 := Z.bb BK123 hb; replace HB := Z.st (Z.bs HB.out GE123.out) hb; (try clear hb); (try clear ho0); obtain ⟨Ao115, co115, eo115⟩ := Kd.R_slice HO147.out; subst eo115; obtain ⟨Ao116, co116, eo116⟩ := Kd.R_slice HO150.out; subst eo116) | ((with_reducible refine gate_callee (f := 34) rfl ?_); refine goesL_ (some 33) rfl rfl Try.func34 (by kernel_rfl) rfl #[.slice Ao115 t130.length co115, .slice Ao116 t154.length co116] rfl Z.ar ?_; (with_reducible refine (laws_sameInts.calls k _ _ t130 _ _ t154 false _ ?q1 ?q2 ?q3 ?q4 A6.out).mono ?_); (case q1 => exact (Kd.R_reads' HO147.out).2.2); (case q2 => exact (Kd.R_reads' HO147.out).2.1); (case q3 => exact (Kd.R_reads' HO150.out).2.2); (case q4 => exact (Kd.R_reads' HO150.out).2.1); rintro e w' ⟨rfl, ⟨nd, rfl⟩⟩; refine ⟨_, rfl, ?_⟩))
  go_ret
  exact ⟨by rfl, Z.bs HB.out GE123.out⟩

 subst c7
 rw [if_pos rfl] at H
 revert H; refine Z.bd ?_; rintro t135 A8 H
 have H' := Z.k H
 clear H
 go_enter Try.func13, Try.ntmps13
 go_wp2_with (first | ((with_reducible refine gate_callee (f := 51) rfl ?_); refine goesL_ (some 20) rfl rfl Try.func51 (by kernel_rfl) rfl #[.slice A0 l0.length c0] rfl Z.ar ?_; (with_reducible refine (spec_DrawGuardsOf.calls k _ _ l0 t129 t128 t131 t132 t133 _ ?q1 ?q2 A3.out).mono ?_); (case q1 => exact HR0.out); (case q2 => exact HC0.out); rintro e w9 ⟨v167, v168, v169, v170, rfl, ho0, ho1, ho2, ho3, hb⟩; refine ⟨_, rfl, ?_⟩; have HO136 := Z.k (Kd.R_lower ho0 (below_size (Z.bl HB.out))); have HO142 := Z.k (Kd.R_lower ho1 (below_size (Z.bl HB.out))); have HO137 := Z.k (Kd.R_lower ho2 (below_size (Z.bl HB.out))); have HO138 := Z.k (Kd.R_lower ho3 (below_size (Z.bl HB.out))); replace HB := Z.st (Z.bl HB.out) hb; (try clear hb ho0 ho1); (try clear ho2); (try clear ho3)) | ((with_reducible refine gate_dst (N := 3) rfl ?_); (try (refine gate_guard (by rfl) ?_; dsimp only)); refine Z.bx #[.int .i64 0, .slice none 0 0, .slice none 0 0] 28 HB ?_; clear HB; intro gb123 w10 BK123 GE123 HB hg hb; have GW123 := GE123; replace HO136 := Z.rb HO136 hb; replace HO142 := Z.rb HO142 hb; replace HO137 := Z.rb HO137 hb; replace HO138 := Z.rb HO138 hb; clear hb hg; have hcz11 := Z.c3 BK123.out; obtain ⟨Ao12, co12, eo12⟩ := Kd.R_slice HO136.out; subst eo12; obtain ⟨Ao13, co13, eo13⟩ := Kd.R_slice HO142.out; subst eo13; obtain ⟨Ao14, co14, eo14⟩ := Kd.R_slice HO137.out; subst eo14; obtain ⟨Ao15, co15, eo15⟩ := Kd.R_slice HO138.out; subst eo15) | ((with_reducible refine gate_callee (f := 23) rfl ?_); refine goesL_ (some 27) rfl rfl Try.func23 (by kernel_rfl) rfl #[.agg #[.int .i64 t129, .slice Ao12 t128.length co12, .slice Ao13 t131.length co13], .slice Ao14 t132.length co14, .slice Ao15 t133.length co15] rfl Z.ar ?_; (with_reducible refine (impl_GuardsOf.calls k t129 _ _ t128 _ _ t131 _ _ t132 _ _ t133 t130 _ ?q1 ?q2 ?q3 ?q4 ?q5 ?q6 ?q7 ?q8 A4.out).mono ?_); (case q1 => refine (Kd.R_reads' (e := 3) (base := w.heap.size) (ok := fun k_ => (some k_ ≠ (.slice Ao14 t132.length co14 : Value).ownBlock ∧ some k_ ≠ (.slice Ao15 t133.length co15 : Value).ownBlock)) (n := t128.length) (c := co12) ?_).2.2; exact (Kd.R_mono (Kd.R_far (p := ⟨gb123, 2, none⟩) (Kd.R_far (p := ⟨gb123, 1, none⟩) (Kd.R_far (p := ⟨gb123, 0, none⟩) (Kd.R_types HO136.out BK123.out (by decide)) (fun _ hk => hk.2) (.int .i64 t129)) (fun _ hk => hk.2) (.slice Ao12 t128.length co12)) (fun _ hk => hk.2) (.slice Ao13 t131.length co13)) (fun _ h_ => h_.1))); (case q2 => exact (Kd.R_reads' HO136.out).2.1); (case q3 => refine (Kd.R_reads' (e := 34) (base := w.heap.size) (ok := fun k_ => True) (n := t131.length) (c := co13) ?_).2.2; exact (Kd.R_mono (Kd.R_far (p := ⟨gb123, 2, none⟩) (Kd.R_far (p := ⟨gb123, 1, none⟩) (Kd.R_far (p := ⟨gb123, 0, none⟩) (Kd.R_types HO142.out BK123.out (by decide)) (fun _ hk => hk.2) (.int .i64 t129)) (fun _ hk => hk.2) (.slice Ao12 t128.length co12)) (fun _ hk => hk.2) (.slice Ao13 t131.length co13)) (fun _ h_ => h_.1))); (case q4 => exact (Kd.R_reads' HO142.out).2.1); (case q5 => refine (Kd.R_reads' (e := 3) (base := w.heap.size) (ok := fun k_ => (some k_ ≠ (.slice Ao12 t128.length co12 : Value).ownBlock ∧ some k_ ≠ (.slice Ao15 t133.length co15 : Value).ownBlock)) (n := t132.length) (c := co14) ?_).2.2; exact (Kd.R_mono (Kd.R_far (p := ⟨gb123, 2, none⟩) (Kd.R_far (p := ⟨gb123, 1, none⟩) (Kd.R_far (p := ⟨gb123, 0, none⟩) (Kd.R_types HO137.out BK123.out (by decide)) (fun _ hk => hk.2) (.int .i64 t129)) (fun _ hk => hk.2) (.slice Ao12 t128.length co12)) (fun _ hk => hk.2) (.slice Ao13 t131.length co13)) (fun _ h_ => h_.1))); (case q6 => exact (Kd.R_reads' HO137.out).2.1); (case q7 => refine (Kd.R_reads' (e := 3) (base := w.heap.size) (ok := fun k_ => (some k_ ≠ (.slice Ao12 t128.length co12 : Value).ownBlock ∧ some k_ ≠ (.slice Ao14 t132.length co14 : Value).ownBlock)) (n := t133.length) (c := co15) ?_).2.2; exact (Kd.R_mono (Kd.R_far (p := ⟨gb123, 2, none⟩) (Kd.R_far (p := ⟨gb123, 1, none⟩) (Kd.R_far (p := ⟨gb123, 0, none⟩) (Kd.R_types HO138.out BK123.out (by decide)) (fun _ hk => hk.2) (.int .i64 t129)) (fun _ hk => hk.2) (.slice Ao12 t128.length co12)) (fun _ hk => hk.2) (.slice Ao13 t131.length co13)) (fun _ h_ => h_.1))); (case q8 => exact (Kd.R_reads' HO138.out).2.1); rintro e w16 ⟨v171, rfl, ho0, hb⟩; refine ⟨_, rfl, ?_⟩; replace HO142 := Z.k (Kd.R_below (Kd.R_mono (Kd.R_far (p := ⟨gb123, 2, none⟩) (Kd.R_far (p := ⟨gb123, 1, none⟩) (Kd.R_far (p := ⟨gb123, 0, none⟩) (Kd.R_types HO142.out BK123.out (by decide)) (fun _ hk => hk.2) (.int .i64 t129)) (fun _ hk => hk.2) (.slice Ao12 t128.length co12)) (fun _ hk => hk.2) (.slice Ao13 t131.length co13)) (fun _ h_ => h_.1)) hb); have HO147 := Z.k (Kd.R_lower (Kd.R_new' (Kd.R_new' (Kd.R_new' ho0 (Kd.R_lt (Kd.R_mono (Kd.R_far (p := ⟨gb123, 2, none⟩) (Kd.R_far (p := ⟨gb123, 1, none⟩) (Kd.R_far (p := ⟨gb123, 0, none⟩) (Kd.R_types HO136.out BK123.out (by decide)) (fun _ hk => hk.2) (.int .i64 t129)) (fun _ hk => hk.2) (.slice Ao12 t128.length co12)) (fun _ hk => hk.2) (.slice Ao13 t131.length co13)) (fun _ h_ => h_.1)))) (Kd.R_lt (Kd.R_mono (Kd.R_far (p := ⟨gb123, 2, none⟩) (Kd.R_far (p := ⟨gb123, 1, none⟩) (Kd.R_far (p := ⟨gb123, 0, none⟩) (Kd.R_types HO137.out BK123.out (by decide)) (fun _ hk => hk.2) (.int .i64 t129)) (fun _ hk => hk.2) (.slice Ao12 t128.length co12)) (fun _ hk => hk.2) (.slice Ao13 t131.length co13)) (fun _ h_ => h_.1)))) (Kd.R_lt (Kd.R_mono (Kd.R_far (p := ⟨gb123, 2, none⟩) (Kd.R_far (p := ⟨gb123, 1, none⟩) (Kd.R_far (p := ⟨gb123, 0, none⟩) (Kd.R_types HO138.out BK123.out (by decide)) (fun _ hk => hk.2) (.int .i64 t129)) (fun _ hk => hk.2) (.slice Ao12 t128.length co12)) (fun _ hk => hk.2) (.slice Ao13 t131.length co13)) (fun _ h_ => h_.1)))) (below_size (Z.bs HB.out GE123.out))); replace HO136 := Z.k (Kd.R_elder' (Kd.R_mono (Kd.R_far (p := ⟨gb123, 2, none⟩) (Kd.R_far (p := ⟨gb123, 1, none⟩) (Kd.R_far (p := ⟨gb123, 0, none⟩) (Kd.R_types HO136.out BK123.out (by decide)) (fun _ hk => hk.2) (.int .i64 t129)) (fun _ hk => hk.2) (.slice Ao12 t128.length co12)) (fun _ hk => hk.2) (.slice Ao13 t131.length co13)) (fun _ h_ => h_.1)) (Kd.R_base ho0) hb); replace HO137 := Z.k (Kd.R_elder' (Kd.R_mono (Kd.R_far (p := ⟨gb123, 2, none⟩) (Kd.R_far (p := ⟨gb123, 1, none⟩) (Kd.R_far (p := ⟨gb123, 0, none⟩) (Kd.R_types HO137.out BK123.out (by decide)) (fun _ hk => hk.2) (.int .i64 t129)) (fun _ hk => hk.2) (.slice Ao12 t128.length co12)) (fun _ hk => hk.2) (.slice Ao13 t131.length co13)) (fun _ h_ => h_.1)) (Kd.R_base ho0) hb); replace HO138 := Z.k (Kd.R_elder' (Kd.R_mono (Kd.R_far (p := ⟨gb123, 2, none⟩) (Kd.R_far (p := ⟨gb123, 1, none⟩) (Kd.R_far (p := ⟨gb123, 0, none⟩) (Kd.R_types HO138.out BK123.out (by decide)) (fun _ hk => hk.2) (.int .i64 t129)) (fun _ hk => hk.2) (.slice Ao12 t128.length co12)) (fun _ hk => hk.2) (.slice Ao13 t131.length co13)) (fun _ h_ => h_.1)) (Kd.R_base ho0) hb); replace BK123 := Z.k (blk_below (g := gb123) (o := .cells #[.int .i64 t129, .slice Ao12 t128.length co12, .slice Ao13 t131.length co13] 28 (0, 0)) (by refine blk_put (cs := #[.int .i64 t129, .slice Ao12 t128.length co12, .slice none 0 0]) ?_ 2 _ rfl; refine blk_put (cs := #[.int .i64 t129, .slice none 0 0, .slice none 0 0]) ?_ 1 _ rfl; refine blk_put (cs := #[.int .i64 0, .slice none 0 0, .slice none 0 0]) ?_ 0 _ rfl; exact BK123.out) hb); replace HB := Z.st (Z.bs HB.out GE123.out) hb; (try clear hb); (try clear ho0); have hcz17 := Z.c3 BK123.out) | ((with_reducible refine gate_callee (f := 52) rfl ?_); refine goesL_ (some 32) rfl rfl Try.func52 (by kernel_rfl) rfl #[.agg #[.int .i64 t129, .slice Ao12 t128.length co12, .slice Ao13 t131.length co13], .slice Ao14 t132.length co14, .slice Ao15 t133.length co15] rfl Z.ar ?_; (with_reducible refine (spec_GuardsOf.calls k t129 _ _ t128 _ _ t131 _ _ t132 _ _ t133 t154 _ ?q1 ?q2 ?q3 ?q4 ?q5 ?q6 ?q7 ?q8 A5.out).mono ?_); (case q1 => exact (Kd.R_reads' HO136.out).2.2); (case q2 => exact (Kd.R_reads' HO136.out).2.1); (case q3 => exact (Kd.R_reads' HO142.out).2.2); (case q4 => exact (Kd.R_reads' HO142.out).2.1); (case q5 => exact (Kd.R_reads' HO137.out).2.2); (case q6 => exact (Kd.R_reads' HO137.out).2.1); (case q7 => exact (Kd.R_reads' HO138.out).2.2); (case q8 => exact (Kd.R_reads' HO138.out).2.1); rintro e w18 ⟨v172, rfl, ho0, hb⟩; refine ⟨_, rfl, ?_⟩; replace HO142 := Z.rb HO142 hb; have HO150 := Z.k (Kd.R_lower (Kd.R_new' (Kd.R_new' (Kd.R_new' (Kd.R_new' ho0 (Kd.R_lt HO136.out)) (Kd.R_lt HO137.out)) (Kd.R_lt HO138.out)) (Kd.R_lt HO147.out)) (below_size (Z.bs HB.out GE123.out))); replace HO136 := Z.k (Kd.R_elder' HO136.out (Kd.R_base ho0) hb); replace HO137 := Z.k (Kd.R_elder' HO137.out (Kd.R_base ho0) hb); replace HO138 := Z.k (Kd.R_elder' HO138.out (Kd.R_base ho0) hb); replace HO147 := Z.k (Kd.R_elder' HO147.out (Kd.R_base ho0) hb); replace BK123 := Z.bb BK123 hb; replace HB := Z.st (Z.bs HB.out GE123.out) hb; (try clear hb); (try clear ho0); obtain ⟨Ao19, co19, eo19⟩ := Kd.R_slice HO147.out; subst eo19; obtain ⟨Ao20, co20, eo20⟩ := Kd.R_slice HO150.out; subst eo20) | ((with_reducible refine gate_callee (f := 34) rfl ?_); refine goesL_ (some 33) rfl rfl Try.func34 (by kernel_rfl) rfl #[.slice Ao19 t130.length co19, .slice Ao20 t154.length co20] rfl Z.ar ?_; (with_reducible refine (laws_sameInts.calls k _ _ t130 _ _ t154 true _ ?q1 ?q2 ?q3 ?q4 A6.out).mono ?_); (case q1 => exact (Kd.R_reads' HO147.out).2.2); (case q2 => exact (Kd.R_reads' HO147.out).2.1); (case q3 => exact (Kd.R_reads' HO150.out).2.2); (case q4 => exact (Kd.R_reads' HO150.out).2.1); rintro e w' ⟨rfl, ⟨nd, rfl⟩⟩; refine ⟨_, rfl, ?_⟩; have hcz21 := Z.c3 BK123.out) | ((with_reducible refine gate_callee (f := 21) rfl ?_); refine goesL_ (some 38) rfl rfl Try.func21 (by kernel_rfl) rfl #[.agg #[.int .i64 t129, .slice Ao12 t128.length co12, .slice Ao13 t131.length co13], .slice Ao14 t132.length co14, .slice Ao15 t133.length co15] rfl Z.ar ?_; (with_reducible refine (impl_BreakersOf.calls k t129 _ _ t128 _ _ t131 _ _ t132 _ _ t133 t135 _ ?q1 ?q2 ?q3 ?q4 ?q5 ?q6 ?q7 ?q8 A8.out).mono ?_); (case q1 => exact (Kd.R_reads' HO136.out).2.2); (case q2 => exact (Kd.R_reads' HO136.out).2.1); (case q3 => exact (Kd.R_reads' HO142.out).2.2); (case q4 => exact (Kd.R_reads' HO142.out).2.1); (case q5 => exact (Kd.R_reads' HO137.out).2.2); (case q6 => exact (Kd.R_reads' HO137.out).2.1); (case q7 => exact (Kd.R_reads' HO138.out).2.2); (case q8 => exact (Kd.R_reads' HO138.out).2.1); rintro e w22 ⟨v151, rfl, ho0, hb⟩; refine ⟨_, rfl, ?_⟩; replace HO142 := Z.rb HO142 hb; have HO173 := Z.k (Kd.R_lower (Kd.R_new' (Kd.R_new' (Kd.R_new' (Kd.R_new' (Kd.R_new' ho0 (Kd.R_lt (by (with_reducible repeat (apply Kd.R_drewN)); exact HO136.out))) (Kd.R_lt (by (with_reducible repeat (apply Kd.R_drewN)); exact HO137.out))) (Kd.R_lt (by (with_reducible repeat (apply Kd.R_drewN)); exact HO138.out))) (Kd.R_lt (by (with_reducible repeat (apply Kd.R_drewN)); exact HO147.out))) (Kd.R_lt (by (with_reducible repeat (apply Kd.R_drewN)); exact HO150.out))) (below_size (Z.bs HB.out GE123.out))); replace HO136 := Z.k (Kd.R_elder' (by (with_reducible repeat (apply Kd.R_drewN)); exact HO136.out) (Kd.R_base ho0) hb); replace HO137 := Z.k (Kd.R_elder' (by (with_reducible repeat (apply Kd.R_drewN)); exact HO137.out) (Kd.R_base ho0) hb); replace HO138 := Z.k (Kd.R_elder' (by (with_reducible repeat (apply Kd.R_drewN)); exact HO138.out) (Kd.R_base ho0) hb); replace HO147 := Z.k (Kd.R_elder' (by (with_reducible repeat (apply Kd.R_drewN)); exact HO147.out) (Kd.R_base ho0) hb); replace HO150 := Z.k (Kd.R_elder' (by (with_reducible repeat (apply Kd.R_drewN)); exact HO150.out) (Kd.R_base ho0) hb); replace BK123 := Z.bb BK123 hb; replace HB := Z.st (Z.bs HB.out GE123.out) hb; (try clear hb); (try clear ho0)))
 go_loopg [8] k (fun kq v8 w' => ∃ (x8_1 : Int), v8 = .int .i64 x8_1 ∧ Aside0 (laws_FnGuardsOf.l0 kq t132 t133 t130 t135 x8_1 t129 t128 t131 = some r) ∧ Aside0 (kq ≤ k) ∧ Aside0 (Kd.R (Kd.int .i64) 3 w' w.heap.size (fun k_ => some k_ ≠ ((.slice Ao15 t133.length co15) : Value).ownBlock ∧ some k_ ≠ ((.slice Ao19 t130.length co19) : Value).ownBlock ∧ some k_ ≠ (v151 : Value).ownBlock ∧ some k_ ≠ ((.slice Ao12 t128.length co12) : Value).ownBlock) (.slice Ao14 t132.length co14) t132) ∧ Aside0 (Kd.R (Kd.int .i64) 3 w' w.heap.size (fun k_ => some k_ ≠ ((.slice Ao14 t132.length co14) : Value).ownBlock ∧ some k_ ≠ ((.slice Ao19 t130.length co19) : Value).ownBlock ∧ some k_ ≠ (v151 : Value).ownBlock ∧ some k_ ≠ ((.slice Ao12 t128.length co12) : Value).ownBlock) (.slice Ao15 t133.length co15) t133) ∧ Aside0 (Kd.R (Kd.int .i64) 3 w' w.heap.size (fun k_ => some k_ ≠ ((.slice Ao14 t132.length co14) : Value).ownBlock ∧ some k_ ≠ ((.slice Ao15 t133.length co15) : Value).ownBlock ∧ some k_ ≠ (v151 : Value).ownBlock ∧ some k_ ≠ ((.slice Ao12 t128.length co12) : Value).ownBlock) (.slice Ao19 t130.length co19) t130) ∧ Aside0 (Kd.R (Kd.int .i64) 3 w' w.heap.size (fun k_ => some k_ ≠ ((.slice Ao14 t132.length co14) : Value).ownBlock ∧ some k_ ≠ ((.slice Ao15 t133.length co15) : Value).ownBlock ∧ some k_ ≠ ((.slice Ao19 t130.length co19) : Value).ownBlock ∧ some k_ ≠ ((.slice Ao12 t128.length co12) : Value).ownBlock) v151 t135) ∧ Aside0 (Kd.R (Kd.int .i64) 3 w' w.heap.size (fun k_ => some k_ ≠ ((.slice Ao14 t132.length co14) : Value).ownBlock ∧ some k_ ≠ ((.slice Ao15 t133.length co15) : Value).ownBlock ∧ some k_ ≠ ((.slice Ao19 t130.length co19) : Value).ownBlock ∧ some k_ ≠ (v151 : Value).ownBlock) (.slice Ao12 t128.length co12) t128) ∧ Aside0 (Kd.R (Kd.slice 37 k37) 34 w' w.heap.size (fun _ => True) (.slice Ao13 t131.length co13) t131) ∧ Aside0 (w'.heap[gb123]? = some (.cells #[.int .i64 t129, (.slice Ao12 t128.length co12), (.slice Ao13 t131.length co13)] 28 (0, 0))) ∧ Aside0 (Below w.heap.size w w'))
 case atStart => exact ⟨(0), (by rfl), H', ⟨Nat.le_refl _⟩, ⟨by exact Kd.R_mono HO137.out (fun _ hk => ⟨hk.1.1.1.2, ⟨hk.1.1.2, ⟨hk.2, hk.1.1.1.1⟩⟩⟩)⟩, ⟨by exact Kd.R_mono HO138.out (fun _ hk => ⟨hk.1.1.1.2, ⟨hk.1.1.2, ⟨hk.2, hk.1.1.1.1⟩⟩⟩)⟩, ⟨by exact Kd.R_mono HO147.out (fun _ hk => ⟨hk.1.1.1.2, ⟨hk.1.1.2, ⟨hk.2, hk.1.1.1.1.2⟩⟩⟩)⟩, ⟨by exact Kd.R_mono HO173.out (fun _ hk => ⟨hk.1.1.1.2, ⟨hk.1.1.2, ⟨hk.1.2, hk.1.1.1.1.2⟩⟩⟩)⟩, ⟨by exact Kd.R_mono HO136.out (fun _ hk => ⟨hk.1.1.1.1, ⟨hk.1.1.1.2, ⟨hk.1.1.2, hk.2⟩⟩⟩)⟩, ⟨by exact HO142.out⟩, ⟨by exact BK123.out⟩, ⟨Z.bs HB.out GE123.out⟩⟩
 clear H'
 try clear c2b0
 try clear c2b1
 obtain ⟨x8_1, rfl, HA, HK1, HO_4, HO_5, HO_6, HO_7, HO_125, HO_126, BK123, HB⟩ := hrel
 cases gk with
 | zero => exact absurd HA.out (by simp [laws_FnGuardsOf.l0])
 | succ k1 =>
  have H := HA.out
  clear HA
  simp only [laws_FnGuardsOf.l0] at H
  revert H; refine Z.fc ?_ ?_ <;> intro c23b0 H
  ·have H' := Z.k H
   clear H
   go_wp2
   go_loopg [9] k1 (fun kq v9 w' => ∃ (x9_2 : Int), v9 = .int .i64 x9_2 ∧ Aside0 (laws_FnGuardsOf.l1 kq t132 t133 t130 t135 x8_1 x9_2 t129 t128 t131 = some r) ∧ Aside0 (kq ≤ k1) ∧ Aside0 (Kd.R (Kd.int .i64) 3 w' w.heap.size (fun k_ => some k_ ≠ ((.slice Ao15 t133.length co15) : Value).ownBlock ∧ some k_ ≠ ((.slice Ao19 t130.length co19) : Value).ownBlock ∧ some k_ ≠ (v151 : Value).ownBlock ∧ some k_ ≠ ((.slice Ao12 t128.length co12) : Value).ownBlock) (.slice Ao14 t132.length co14) t132) ∧ Aside0 (Kd.R (Kd.int .i64) 3 w' w.heap.size (fun k_ => some k_ ≠ ((.slice Ao14 t132.length co14) : Value).ownBlock ∧ some k_ ≠ ((.slice Ao19 t130.length co19) : Value).ownBlock ∧ some k_ ≠ (v151 : Value).ownBlock ∧ some k_ ≠ ((.slice Ao12 t128.length co12) : Value).ownBlock) (.slice Ao15 t133.length co15) t133) ∧ Aside0 (Kd.R (Kd.int .i64) 3 w' w.heap.size (fun k_ => some k_ ≠ ((.slice Ao14 t132.length co14) : Value).ownBlock ∧ some k_ ≠ ((.slice Ao15 t133.length co15) : Value).ownBlock ∧ some k_ ≠ (v151 : Value).ownBlock ∧ some k_ ≠ ((.slice Ao12 t128.length co12) : Value).ownBlock) (.slice Ao19 t130.length co19) t130) ∧ Aside0 (Kd.R (Kd.int .i64) 3 w' w.heap.size (fun k_ => some k_ ≠ ((.slice Ao14 t132.length co14) : Value).ownBlock ∧ some k_ ≠ ((.slice Ao15 t133.length co15) : Value).ownBlock ∧ some k_ ≠ ((.slice Ao19 t130.length co19) : Value).ownBlock ∧ some k_ ≠ ((.slice Ao12 t128.length co12) : Value).ownBlock) v151 t135) ∧ Aside0 (Kd.R (Kd.int .i64) 3 w' w.heap.size (fun k_ => some k_ ≠ ((.slice Ao14 t132.length co14) : Value).ownBlock ∧ some k_ ≠ ((.slice Ao15 t133.length co15) : Value).ownBlock ∧ some k_ ≠ ((.slice Ao19 t130.length co19) : Value).ownBlock ∧ some k_ ≠ (v151 : Value).ownBlock) (.slice Ao12 t128.length co12) t128) ∧ Aside0 (Kd.R (Kd.slice 37 k37) 34 w' w.heap.size (fun _ => True) (.slice Ao13 t131.length co13) t131) ∧ Aside0 (w'.heap[gb123]? = some (.cells #[.int .i64 t129, (.slice Ao12 t128.length co12), (.slice Ao13 t131.length co13)] 28 (0, 0))) ∧ Aside0 (Below w.heap.size w w'))
   case atStart => exact ⟨(0), (by rfl), H', ⟨Nat.le_refl _⟩, ⟨by exact HO_4.out⟩, ⟨by exact HO_5.out⟩, ⟨by exact HO_6.out⟩, ⟨by exact HO_7.out⟩, ⟨by exact HO_125.out⟩, ⟨by exact HO_126.out⟩, ⟨by exact BK123.out⟩, ⟨Z.bs HB.out GE123.out⟩⟩
   clear H'
   try clear c23b0
   obtain ⟨x9_2, rfl, HA, HK2, HO_4, HO_5, HO_6, HO_7, HO_125, HO_126, BK123, HB⟩ := hrel
   cases gk with
   | zero => exact absurd HA.out (by simp [laws_FnGuardsOf.l1])
   | succ k2 =>
    have H := HA.out
    clear HA
    simp only [laws_FnGuardsOf.l1] at H
    revert H; refine Z.fc ?_ ?_ <;> intro c24b0 H
    ·obtain ⟨c25b0, H⟩ := Z.fd H
     obtain ⟨c26b0, H⟩ := Z.fd H
     obtain ⟨c27b0, H⟩ := Z.fd H
     by_cases c28 : (Go.bits .and .i64 (rd t130 x8_1) (rd t135 x9_2)) = 0
     ·rw [if_pos c28] at H
      have c28b0 : ((Go.bits .and .i64 (rd t130 x8_1) (rd t135 x9_2)) == 0) = true := beq_iff_eq.mpr c28
      have c28b1 : ((Go.bits .and .i64 (rd t130 x8_1) (rd t135 x9_2)) != 0) = false := bne_eq_false_iff_eq.mpr c28
      clear c28
      obtain rfl := Option.some.inj H
      obtain ⟨Ao29, co29, eo29⟩ := Kd.R_slice HO_7.out
      subst eo29
      try go_wp2
      replace HO_4 := Z.k (Kd.R_drew HO_4.out)
      replace HO_5 := Z.k (Kd.R_drew HO_5.out)
      replace HO_6 := Z.k (Kd.R_drew HO_6.out)
      replace HO_7 := Z.k (Kd.R_drew HO_7.out)
      replace HO_125 := Z.k (Kd.R_drew HO_125.out)
      replace HO_126 := Z.k (Kd.R_drew HO_126.out)
      replace BK123 := Z.k (blk_drew BK123.out)
      replace HB := Z.k (below_drew1 HB.out)
      have p145 : (0 ≤ (x8_1 : Int)) = True := Z.oe
      have q145 : (x8_1 < (t130.length : Int)) = True := Z.oe
      obtain ⟨ad145, e145, hx145_0⟩ := Kd.at_int (Kd.R_reads' HO_6.out).2.2 x8_1 Z.od Z.od
      cases e145
      have p146 : (0 ≤ (x9_2 : Int)) = True := Z.oe
      have q146 : (x9_2 < (t135.length : Int)) = True := Z.oe
      obtain ⟨ad146, e146, hx146_0⟩ := Kd.at_int (Kd.R_reads' HO_7.out).2.2 x9_2 Z.od Z.od
      cases e146
      refine start_ (n := 10) (S := fun w' => w'.cell? (ad145.add (x8_1).toNat) = some (.int .i64 (rd t130 x8_1)) ∧ w'.cell? (ad146.add (x9_2).toNat) = some (.int .i64 (rd t135 x9_2))) (ds := []) (Z.mb 10 0) (by kernel_rfl) rfl rfl ⟨hx145_0, hx146_0⟩ (fun hHeld => ?_); refine with_tabW laws_FnGuardsOf.tab14 laws_FnGuardsOf.bits14 (fun HT_ HW_ => ?_)
      generalize wr.drew = w30 at HO_4 HO_5 HO_6 HO_7 HO_125 HO_126 BK123 HB hx145_0 hx146_0 hHeld ⊢
      refine Z.pv 0 51 10 1 HT_.out ?_
      refine Z.pv 1 52 10 3 HT_.out ?_
      refine Z.pv 2 53 10 7 HT_.out ?_
      refine Z.pv 4 55 10 23 HT_.out ?_
      refine Z.pv 5 56 10 55 HT_.out ?_
      refine Z.pv 6 57 10 119 HT_.out ?_
      refine Z.t2 3 54 10 127 HT_.out HW_.out hHeld ?_
      refine Z.t2 7 58 10 255 HT_.out HW_.out hHeld ?_
      refine Z.pv 8 59 10 511 HT_.out ?_
      refine Z.pv 9 60 10 1023 HT_.out ?_
      refine done_ (done_of HT_.out (by kernel_rfl)) ?_
      try go_wp2
      go_ret
      exact ⟨by rfl, Z.bs HB.out GE123.out⟩
     rw [if_neg c28] at H
     have c28b0 : ((Go.bits .and .i64 (rd t130 x8_1) (rd t135 x9_2)) == 0) = false := beq_eq_false_iff_ne.mpr c28
     have c28b1 : ((Go.bits .and .i64 (rd t130 x8_1) (rd t135 x9_2)) != 0) = true := bne_iff_ne.mpr c28
     have H' := Z.k H
     clear H
     obtain ⟨Ao31, co31, eo31⟩ := Kd.R_slice HO_7.out
     subst eo31
     try go_wp2
     replace HO_4 := Z.k (Kd.R_drew HO_4.out)
     replace HO_5 := Z.k (Kd.R_drew HO_5.out)
     replace HO_6 := Z.k (Kd.R_drew HO_6.out)
     replace HO_7 := Z.k (Kd.R_drew HO_7.out)
     replace HO_125 := Z.k (Kd.R_drew HO_125.out)
     replace HO_126 := Z.k (Kd.R_drew HO_126.out)
     replace BK123 := Z.k (blk_drew BK123.out)
     replace HB := Z.k (below_drew1 HB.out)
     have p145 : 0 ≤ (x8_1 : Int) := Z.od
     have q145 : x8_1 < (t130.length : Int) := Z.od
     obtain ⟨ad145, e145, hx145_0⟩ := Kd.at_int (Kd.R_reads' HO_6.out).2.2 x8_1 p145 q145
     cases e145
     replace p145 := eq_true p145
     replace q145 := eq_true q145
     have p146 : 0 ≤ (x9_2 : Int) := Z.od
     have q146 : x9_2 < (t135.length : Int) := Z.od
     obtain ⟨ad146, e146, hx146_0⟩ := Kd.at_int (Kd.R_reads' HO_7.out).2.2 x9_2 p146 q146
     cases e146
     replace p146 := eq_true p146
     replace q146 := eq_true q146
     refine start_ (n := 10) (S := fun w' => w'.cell? (ad145.add (x8_1).toNat) = some (.int .i64 (rd t130 x8_1)) ∧ w'.cell? (ad146.add (x9_2).toNat) = some (.int .i64 (rd t135 x9_2))) (ds := []) (Z.mb 10 0) (by kernel_rfl) rfl rfl ⟨hx145_0, hx146_0⟩ (fun hHeld => ?_); refine with_tabW laws_FnGuardsOf.tab14 laws_FnGuardsOf.bits14 (fun HT_ HW_ => ?_)
     generalize wr.drew = w32 at HO_4 HO_5 HO_6 HO_7 HO_125 HO_126 BK123 HB hx145_0 hx146_0 hHeld ⊢
     refine Z.pv 0 51 10 1 HT_.out ?_
     refine Z.pv 1 52 10 3 HT_.out ?_
     refine Z.pv 2 53 10 7 HT_.out ?_
     refine Z.pv 4 55 10 23 HT_.out ?_
     refine Z.pv 5 56 10 55 HT_.out ?_
     refine Z.pv 6 57 10 119 HT_.out ?_
     refine Z.t2 3 54 10 127 HT_.out HW_.out hHeld ?_
     refine Z.t2 7 58 10 255 HT_.out HW_.out hHeld ?_
     refine Z.pv 8 59 10 511 HT_.out ?_
     refine Z.pv 9 60 10 1023 HT_.out ?_
     refine done_ (done_of HT_.out (by kernel_rfl)) ?_
     try go_wp2
     go_roundg k2
     case measure => have := HK1.out; have := HK2.out; omega
     case rel => exact ⟨(wrap64 (x9_2 + 1)), (by rfl), H', ⟨by have := HK1.out; have := HK2.out; omega⟩, ⟨by exact HO_4.out⟩, ⟨by exact HO_5.out⟩, ⟨by exact HO_6.out⟩, ⟨by exact HO_7.out⟩, ⟨by exact HO_125.out⟩, ⟨by exact HO_126.out⟩, ⟨by exact BK123.out⟩, ⟨Z.bs HB.out GE123.out⟩⟩
    have H' := Z.k H
    clear H
    obtain ⟨Ao33, co33, eo33⟩ := Kd.R_slice HO_7.out
    subst eo33
    go_wp2
    go_loopg [10] k2 (fun kq v10 w' => ∃ (x10_3 : Int), v10 = .int .i64 x10_3 ∧ Aside0 (laws_FnGuardsOf.l2 kq t132 t133 t130 t135 x8_1 x10_3 t129 t128 t131 = some r) ∧ Aside0 (kq ≤ k2) ∧ Aside0 (Kd.R (Kd.int .i64) 3 w' w.heap.size (fun k_ => some k_ ≠ ((.slice Ao15 t133.length co15) : Value).ownBlock ∧ some k_ ≠ ((.slice Ao19 t130.length co19) : Value).ownBlock ∧ some k_ ≠ ((.slice Ao33 t135.length co33) : Value).ownBlock ∧ some k_ ≠ ((.slice Ao12 t128.length co12) : Value).ownBlock) (.slice Ao14 t132.length co14) t132) ∧ Aside0 (Kd.R (Kd.int .i64) 3 w' w.heap.size (fun k_ => some k_ ≠ ((.slice Ao14 t132.length co14) : Value).ownBlock ∧ some k_ ≠ ((.slice Ao19 t130.length co19) : Value).ownBlock ∧ some k_ ≠ ((.slice Ao33 t135.length co33) : Value).ownBlock ∧ some k_ ≠ ((.slice Ao12 t128.length co12) : Value).ownBlock) (.slice Ao15 t133.length co15) t133) ∧ Aside0 (Kd.R (Kd.int .i64) 3 w' w.heap.size (fun k_ => some k_ ≠ ((.slice Ao14 t132.length co14) : Value).ownBlock ∧ some k_ ≠ ((.slice Ao15 t133.length co15) : Value).ownBlock ∧ some k_ ≠ ((.slice Ao33 t135.length co33) : Value).ownBlock ∧ some k_ ≠ ((.slice Ao12 t128.length co12) : Value).ownBlock) (.slice Ao19 t130.length co19) t130) ∧ Aside0 (Kd.R (Kd.int .i64) 3 w' w.heap.size (fun k_ => some k_ ≠ ((.slice Ao14 t132.length co14) : Value).ownBlock ∧ some k_ ≠ ((.slice Ao15 t133.length co15) : Value).ownBlock ∧ some k_ ≠ ((.slice Ao19 t130.length co19) : Value).ownBlock ∧ some k_ ≠ ((.slice Ao12 t128.length co12) : Value).ownBlock) (.slice Ao33 t135.length co33) t135) ∧ Aside0 (Kd.R (Kd.int .i64) 3 w' w.heap.size (fun k_ => some k_ ≠ ((.slice Ao14 t132.length co14) : Value).ownBlock ∧ some k_ ≠ ((.slice Ao15 t133.length co15) : Value).ownBlock ∧ some k_ ≠ ((.slice Ao19 t130.length co19) : Value).ownBlock ∧ some k_ ≠ ((.slice Ao33 t135.length co33) : Value).ownBlock) (.slice Ao12 t128.length co12) t128) ∧ Aside0 (Kd.R (Kd.slice 37 k37) 34 w' w.heap.size (fun _ => True) (.slice Ao13 t131.length co13) t131) ∧ Aside0 (w'.heap[gb123]? = some (.cells #[.int .i64 t129, (.slice Ao12 t128.length co12), (.slice Ao13 t131.length co13)] 28 (0, 0))) ∧ Aside0 (Below w.heap.size w w'))
    case atStart => exact ⟨(0), (by rfl), H', ⟨Nat.le_refl _⟩, ⟨by exact HO_4.out⟩, ⟨by exact HO_5.out⟩, ⟨by exact HO_6.out⟩, ⟨by exact HO_7.out⟩, ⟨by exact HO_125.out⟩, ⟨by exact HO_126.out⟩, ⟨by exact BK123.out⟩, ⟨Z.bs HB.out GE123.out⟩⟩
    clear H'
    try clear c24b0
    obtain ⟨x10_3, rfl, HA, HK3, HO_4, HO_5, HO_6, HO_7, HO_125, HO_126, BK123, HB⟩ := hrel
    cases gk with
    | zero => exact absurd HA.out (by simp [laws_FnGuardsOf.l2])
    | succ k3 =>
     have H := HA.out
     clear HA
     simp only [laws_FnGuardsOf.l2] at H
     revert H; refine Z.fm ?_ ?_ <;> intro c34b0 H
     ·have H' := Z.k H
      clear H
      have hcz52 := Z.c3 BK123.out
      go_wp2
      go_roundg k3
      case measure => have := HK1.out; have := HK2.out; have := HK3.out; omega
      case rel => exact ⟨(wrap64 (x8_1 + 1)), (by rfl), H', ⟨by have := HK1.out; have := HK2.out; have := HK3.out; omega⟩, ⟨by exact HO_4.out⟩, ⟨by exact HO_5.out⟩, ⟨by exact HO_6.out⟩, ⟨by exact HO_7.out⟩, ⟨by exact HO_125.out⟩, ⟨by exact HO_126.out⟩, ⟨by exact BK123.out⟩, ⟨Z.bs HB.out GE123.out⟩⟩
     obtain ⟨c35b0, H⟩ := Z.fd H
     obtain ⟨c36b0, H⟩ := Z.fd H
     obtain ⟨c37, H⟩ := Z.ifp H
     have c37b0 := eq_true c37
     have c37b1 : decide (0 ≤ x10_3) = true := decide_eq_true c37
     clear c37
     obtain ⟨ji38, hji38⟩ : ∃ j_ : Int, (shr .i64 (rd t130 x8_1) x10_3) = j_ := ⟨_, rfl⟩
     replace H : (if (Int.tmod (ji38) 2) = 0 then (laws_FnGuardsOf.l2 k3 t132 t133 t130 t135 x8_1 (wrap64 (x10_3 + 1)) t129 t128 t131) else (laws_FnGuardsOf.l3 k3 t132 t133 t130 t135 x8_1 x10_3 false 0 t129 t128 t131)) = some r := by (rw [hji38] at H; exact H)
     have hji38_ : ((rd t130 x8_1) / 2 ^ min x10_3.toNat 64) = ji38 := hji38
     have hji38z : x10_3 ≤ 64 → ((rd t130 x8_1) / 2 ^ x10_3.toNat) = ji38 := shr_small hji38
     by_cases c39 : (Int.tmod (ji38) 2) = 0
     ·rw [if_pos c39] at H
      have c39b0 : ((Int.tmod (ji38) 2) == 0) = true := beq_iff_eq.mpr c39
      have c39b1 : ((Int.tmod (ji38) 2) != 0) = false := bne_eq_false_iff_eq.mpr c39
      clear c39
      have H' := Z.k H
      clear H
      have hcz40 := Z.c3 BK123.out
      have p139 : 0 ≤ (x8_1 : Int) := Z.od
      have q139 : x8_1 < (t130.length : Int) := Z.od
      obtain ⟨ad139, e139, hx139_0⟩ := Kd.at_int (Kd.R_reads' HO_6.out).2.2 x8_1 p139 q139
      cases e139
      replace p139 := eq_true p139
      replace q139 := eq_true q139
      go_wp2
      go_roundg k3
      case measure => have := HK1.out; have := HK2.out; have := HK3.out; omega
      case rel => exact ⟨(wrap64 (x10_3 + 1)), (by rfl), H', ⟨by have := HK1.out; have := HK2.out; have := HK3.out; omega⟩, ⟨by exact HO_4.out⟩, ⟨by exact HO_5.out⟩, ⟨by exact HO_6.out⟩, ⟨by exact HO_7.out⟩, ⟨by exact HO_125.out⟩, ⟨by exact HO_126.out⟩, ⟨by exact BK123.out⟩, ⟨Z.bs HB.out GE123.out⟩⟩
     rw [if_neg c39] at H
     have c39b0 : ((Int.tmod (ji38) 2) == 0) = false := beq_eq_false_iff_ne.mpr c39
     have c39b1 : ((Int.tmod (ji38) 2) != 0) = true := bne_iff_ne.mpr c39
     have H' := Z.k H
     clear H
     have hcz41 := Z.c3 BK123.out
     have p139 : 0 ≤ (x8_1 : Int) := Z.od
     have q139 : x8_1 < (t130.length : Int) := Z.od
     obtain ⟨ad139, e139, hx139_0⟩ := Kd.at_int (Kd.R_reads' HO_6.out).2.2 x8_1 p139 q139
     cases e139
     replace p139 := eq_true p139
     replace q139 := eq_true q139
     go_wp2
     go_loopg [11, 12] k3 (fun kq v11 v12 w' => ∃ (x11_4 : Bool) (x12_4 : Int), v11 = .bool x11_4 ∧ v12 = .int .i64 x12_4 ∧ Aside0 (laws_FnGuardsOf.l3 kq t132 t133 t130 t135 x8_1 x10_3 x11_4 x12_4 t129 t128 t131 = some r) ∧ Aside0 (kq ≤ k3) ∧ Aside0 (Kd.R (Kd.int .i64) 3 w' w.heap.size (fun k_ => some k_ ≠ ((.slice Ao15 t133.length co15) : Value).ownBlock ∧ some k_ ≠ ((.slice (some ad139) t130.length co19) : Value).ownBlock ∧ some k_ ≠ ((.slice Ao33 t135.length co33) : Value).ownBlock ∧ some k_ ≠ ((.slice Ao12 t128.length co12) : Value).ownBlock) (.slice Ao14 t132.length co14) t132) ∧ Aside0 (Kd.R (Kd.int .i64) 3 w' w.heap.size (fun k_ => some k_ ≠ ((.slice Ao14 t132.length co14) : Value).ownBlock ∧ some k_ ≠ ((.slice (some ad139) t130.length co19) : Value).ownBlock ∧ some k_ ≠ ((.slice Ao33 t135.length co33) : Value).ownBlock ∧ some k_ ≠ ((.slice Ao12 t128.length co12) : Value).ownBlock) (.slice Ao15 t133.length co15) t133) ∧ Aside0 (Kd.R (Kd.int .i64) 3 w' w.heap.size (fun k_ => some k_ ≠ ((.slice Ao14 t132.length co14) : Value).ownBlock ∧ some k_ ≠ ((.slice Ao15 t133.length co15) : Value).ownBlock ∧ some k_ ≠ ((.slice Ao33 t135.length co33) : Value).ownBlock ∧ some k_ ≠ ((.slice Ao12 t128.length co12) : Value).ownBlock) (.slice (some ad139) t130.length co19) t130) ∧ Aside0 (Kd.R (Kd.int .i64) 3 w' w.heap.size (fun k_ => some k_ ≠ ((.slice Ao14 t132.length co14) : Value).ownBlock ∧ some k_ ≠ ((.slice Ao15 t133.length co15) : Value).ownBlock ∧ some k_ ≠ ((.slice (some ad139) t130.length co19) : Value).ownBlock ∧ some k_ ≠ ((.slice Ao12 t128.length co12) : Value).ownBlock) (.slice Ao33 t135.length co33) t135) ∧ Aside0 (Kd.R (Kd.int .i64) 3 w' w.heap.size (fun k_ => some k_ ≠ ((.slice Ao14 t132.length co14) : Value).ownBlock ∧ some k_ ≠ ((.slice Ao15 t133.length co15) : Value).ownBlock ∧ some k_ ≠ ((.slice (some ad139) t130.length co19) : Value).ownBlock ∧ some k_ ≠ ((.slice Ao33 t135.length co33) : Value).ownBlock) (.slice Ao12 t128.length co12) t128) ∧ Aside0 (Kd.R (Kd.slice 37 k37) 34 w' w.heap.size (fun _ => True) (.slice Ao13 t131.length co13) t131) ∧ Aside0 (w'.heap[gb123]? = some (.cells #[.int .i64 t129, (.slice Ao12 t128.length co12), (.slice Ao13 t131.length co13)] 28 (0, 0))) ∧ Aside0 (Below w.heap.size w w'))
     case atStart => exact ⟨(false), (0), (by rfl), (by rfl), H', ⟨Nat.le_refl _⟩, ⟨by exact HO_4.out⟩, ⟨by exact HO_5.out⟩, ⟨by exact HO_6.out⟩, ⟨by exact HO_7.out⟩, ⟨by exact HO_125.out⟩, ⟨by exact HO_126.out⟩, ⟨by exact BK123.out⟩, ⟨Z.bs HB.out GE123.out⟩⟩
     clear H'
     try clear c34b0
     try clear c35b0
     try clear c36b0
     try clear c37b0
     try clear c37b1
     try clear c39
     try clear c39b0
     try clear c39b1
     try clear hx139_0
     try clear p139
     try clear q139
     obtain ⟨x11_4, x12_4, rfl, rfl, HA, HK4, HO_4, HO_5, HO_6, HO_7, HO_125, HO_126, BK123, HB⟩ := hrel
     cases gk with
     | zero => exact absurd HA.out (by simp [laws_FnGuardsOf.l3])
     | succ k4 =>
      have H := HA.out
      clear HA
      simp only [laws_FnGuardsOf.l3] at H
      revert H; refine Z.fm ?_ ?_ <;> intro c42b0 H
      ·by_cases c51 : x11_4 = true
       ·subst c51
        rw [if_pos rfl] at H
        have H' := Z.k H
        clear H
        go_wp2
        go_roundg k4
        case measure => have := HK1.out; have := HK2.out; have := HK3.out; have := HK4.out; omega
        case rel => exact ⟨(wrap64 (x10_3 + 1)), (by rfl), H', ⟨by have := HK1.out; have := HK2.out; have := HK3.out; have := HK4.out; omega⟩, ⟨by exact HO_4.out⟩, ⟨by exact HO_5.out⟩, ⟨by exact HO_6.out⟩, ⟨by exact HO_7.out⟩, ⟨by exact HO_125.out⟩, ⟨by exact HO_126.out⟩, ⟨by exact BK123.out⟩, ⟨Z.bs HB.out GE123.out⟩⟩
       replace c51 := Bool.eq_false_iff.mpr c51
       subst c51
       rw [if_neg (show ¬ (false = true) by decide)] at H
       obtain rfl := Option.some.inj H
       go_wp2
       go_ret
       exact ⟨by rfl, Z.bs HB.out GE123.out⟩
      by_cases c43 : x11_4 = true
      ·subst c43
       rw [if_pos rfl] at H
       have H' := Z.k H
       clear H
       try go_wp2
       replace HO_4 := Z.k (Kd.R_drew HO_4.out)
       replace HO_5 := Z.k (Kd.R_drew HO_5.out)
       replace HO_6 := Z.k (Kd.R_drew HO_6.out)
       replace HO_7 := Z.k (Kd.R_drew HO_7.out)
       replace HO_125 := Z.k (Kd.R_drew HO_125.out)
       replace HO_126 := Z.k (Kd.R_drew HO_126.out)
       replace BK123 := Z.k (blk_drew BK123.out)
       replace HB := Z.k (below_drew1 HB.out)
       refine start_ (n := 17) (S := fun w' => True) (ds := []) (Z.mb 17 0) (by kernel_rfl) rfl rfl trivial (fun hHeld => ?_); refine with_tabW laws_FnGuardsOf.tab24 laws_FnGuardsOf.bits24 (fun HT_ HW_ => ?_)
       generalize wr.drew = w44 at HO_4 HO_5 HO_6 HO_7 HO_125 HO_126 BK123 HB hHeld ⊢
       refine Z.pv 0 82 17 1 HT_.out ?_
       refine Z.pv 1 83 17 3 HT_.out ?_
       refine Z.pu 2 84 17 7 HT_.out ?_
       refine Z.pu 3 85 17 15 HT_.out ?_
       refine Z.pu 4 86 17 31 HT_.out ?_
       refine Z.pu 5 87 17 63 HT_.out ?_
       refine Z.pu 6 88 17 127 HT_.out ?_
       refine Z.pu 7 89 17 255 HT_.out ?_
       refine Z.pu 8 90 17 511 HT_.out ?_
       refine Z.pu 9 91 17 1023 HT_.out ?_
       refine Z.pu 10 92 17 2047 HT_.out ?_
       refine Z.pu 11 93 17 4095 HT_.out ?_
       refine Z.pu 12 94 17 8191 HT_.out ?_
       refine Z.pu 13 95 17 16383 HT_.out ?_
       refine Z.pu 14 96 17 32767 HT_.out ?_
       refine Z.pv 15 97 17 65535 HT_.out ?_
       refine Z.pv 16 11 17 131071 HT_.out ?_
       refine done_ (done_of HT_.out (by kernel_rfl)) ?_
       try go_wp2
       go_roundg k4
       case measure => have := HK1.out; have := HK2.out; have := HK3.out; have := HK4.out; omega
       case rel => exact ⟨(true), (wrap64 (x12_4 + 1)), (by rfl), (by rfl), H', ⟨by have := HK1.out; have := HK2.out; have := HK3.out; have := HK4.out; omega⟩, ⟨by exact HO_4.out⟩, ⟨by exact HO_5.out⟩, ⟨by exact HO_6.out⟩, ⟨by exact HO_7.out⟩, ⟨by exact HO_125.out⟩, ⟨by exact HO_126.out⟩, ⟨by exact BK123.out⟩, ⟨Z.bs HB.out GE123.out⟩⟩
      replace c43 := Bool.eq_false_iff.mpr c43
      subst c43
      rw [if_neg (show ¬ (false = true) by decide)] at H
      obtain ⟨c45b0, H⟩ := Z.fd H
      obtain ⟨c46b0, H⟩ := Z.fd H
      obtain ⟨c47, H⟩ := Z.ifp H
      have c47b0 := eq_true c47
      have c47b1 : decide (0 ≤ x10_3) = true := decide_eq_true c47
      clear c47
      obtain ⟨ji48, hji48⟩ : ∃ j_ : Int, (shl .i64 1 x10_3) = j_ := ⟨_, rfl⟩
      replace H : (if 0 ≤ x12_4 then (laws_FnGuardsOf.l3 k4 t132 t133 t130 t135 x8_1 x10_3 ((Go.bits .and .i64 (wrap64 ((rd t130 x8_1) - (ji48))) (rd t135 x12_4)) == 0) (wrap64 (x12_4 + 1)) t129 t128 t131) else (none)) = some r := by (rw [hji48] at H; exact H)
      have hji48_ : (IntKind.i64.wrap (1 * 2 ^ min x10_3.toNat 64)) = ji48 := hji48
      have hji48z : x10_3 ≤ 64 → (IntKind.i64.wrap (1 * 2 ^ x10_3.toNat)) = ji48 := shl_small hji48
      have hji48u : (IntKind.i64.wrap (2 ^ min x10_3.toNat 64)) = ji48 := by have h_ := hji48_; rw [Int.one_mul] at h_; exact h_
      have hji48v : x10_3 ≤ 64 → (IntKind.i64.wrap (2 ^ x10_3.toNat)) = ji48 := fun hle_ => by have h_ := hji48z hle_; rw [Int.one_mul] at h_; exact h_
      have hji48y : (wrap64 (1 * 2 ^ min x10_3.toNat 64)) = ji48 := (i64_w _).symm.trans hji48_
      have hji48x : x10_3 ≤ 64 → (wrap64 (1 * 2 ^ x10_3.toNat)) = ji48 := fun h_ => (i64_w _).symm.trans (hji48z h_)
      obtain ⟨c49b0, H⟩ := Z.fd H
      have H' := Z.k H
      clear H
      try go_wp2
      replace HO_4 := Z.k (Kd.R_drew HO_4.out)
      replace HO_5 := Z.k (Kd.R_drew HO_5.out)
      replace HO_6 := Z.k (Kd.R_drew HO_6.out)
      replace HO_7 := Z.k (Kd.R_drew HO_7.out)
      replace HO_125 := Z.k (Kd.R_drew HO_125.out)
      replace HO_126 := Z.k (Kd.R_drew HO_126.out)
      replace BK123 := Z.k (blk_drew BK123.out)
      replace HB := Z.k (below_drew1 HB.out)
      have p148 : 0 ≤ (x8_1 : Int) := Z.od
      have q148 : x8_1 < (t130.length : Int) := Z.od
      obtain ⟨ad148, e148, hx148_0⟩ := Kd.at_int (Kd.R_reads' HO_6.out).2.2 x8_1 p148 q148
      obtain rfl : ad139 = ad148 := (by injection e148)
      replace p148 := eq_true p148
      replace q148 := eq_true q148
      have p149 : 0 ≤ (x12_4 : Int) := Z.od
      have q149 : x12_4 < (t135.length : Int) := Z.od
      obtain ⟨ad149, e149, hx149_0⟩ := Kd.at_int (Kd.R_reads' HO_7.out).2.2 x12_4 p149 q149
      cases e149
      replace p149 := eq_true p149
      replace q149 := eq_true q149
      refine start_ (n := 17) (S := fun w' => w'.cell? (ad139.add (x8_1).toNat) = some (.int .i64 (rd t130 x8_1)) ∧ w'.cell? (ad149.add (x12_4).toNat) = some (.int .i64 (rd t135 x12_4))) (ds := []) (Z.mb 17 0) (by kernel_rfl) rfl rfl ⟨hx148_0, hx149_0⟩ (fun hHeld => ?_); refine with_tabW laws_FnGuardsOf.tab24 laws_FnGuardsOf.bits24 (fun HT_ HW_ => ?_)
      generalize wr.drew = w50 at HO_4 HO_5 HO_6 HO_7 HO_125 HO_126 BK123 HB hx148_0 hx149_0 hHeld ⊢
      refine Z.pv 0 82 17 1 HT_.out ?_
      refine Z.pv 1 83 17 3 HT_.out ?_
      refine Z.pv 2 84 17 7 HT_.out ?_
      refine Z.pv 3 85 17 15 HT_.out ?_
      refine Z.pv 4 86 17 31 HT_.out ?_
      refine Z.pv 6 88 17 95 HT_.out ?_
      refine Z.pv 7 89 17 223 HT_.out ?_
      refine Z.pv 9 91 17 735 HT_.out ?_
      refine Z.pv 10 92 17 1759 HT_.out ?_
      refine Z.pv 11 93 17 3807 HT_.out ?_
      refine Z.t2 5 87 17 3839 HT_.out HW_.out hHeld ?_
      refine Z.pv 8 90 17 4095 HT_.out ?_
      refine Z.t2 12 94 17 8191 HT_.out HW_.out hHeld ?_
      refine Z.pv 13 95 17 16383 HT_.out ?_
      refine Z.pv 14 96 17 32767 HT_.out ?_
      refine Z.pv 15 97 17 65535 HT_.out ?_
      refine Z.pv 16 11 17 131071 HT_.out ?_
      refine done_ (done_of HT_.out (by kernel_rfl)) ?_
      try go_wp2
      go_roundg k4
      case measure => have := HK1.out; have := HK2.out; have := HK3.out; have := HK4.out; omega
      case rel => exact ⟨(((Go.bits .and .i64 (wrap64 ((rd t130 x8_1) - (ji48))) (rd t135 x12_4)) == 0)), (wrap64 (x12_4 + 1)), (by rfl), (by rfl), H', ⟨by have := HK1.out; have := HK2.out; have := HK3.out; have := HK4.out; omega⟩, ⟨by exact HO_4.out⟩, ⟨by exact HO_5.out⟩, ⟨by exact HO_6.out⟩, ⟨by exact HO_7.out⟩, ⟨by exact HO_125.out⟩, ⟨by exact HO_126.out⟩, ⟨by exact BK123.out⟩, ⟨Z.bs HB.out GE123.out⟩⟩
  have HC53 := Z.k H
  clear H
  go_upto_region 27 with (fail)
  go_cut [13] (fun v13 wc => ∃ (kq : Nat) (x13_52 : Bool), v13 = .bool x13_52 ∧ Aside0 (laws_FnGuardsOf.j4 kq t132 t133 t130 x13_52 t129 t128 t131 = some r) ∧ Aside0 (kq ≤ k1) ∧ Aside0 (Kd.R (Kd.int .i64) 3 wc w.heap.size (fun k_ => some k_ ≠ ((.slice Ao15 t133.length co15) : Value).ownBlock ∧ some k_ ≠ ((.slice Ao19 t130.length co19) : Value).ownBlock ∧ some k_ ≠ ((.slice Ao12 t128.length co12) : Value).ownBlock) (.slice Ao14 t132.length co14) t132) ∧ Aside0 (Kd.R (Kd.int .i64) 3 wc w.heap.size (fun k_ => some k_ ≠ ((.slice Ao14 t132.length co14) : Value).ownBlock ∧ some k_ ≠ ((.slice Ao19 t130.length co19) : Value).ownBlock ∧ some k_ ≠ ((.slice Ao12 t128.length co12) : Value).ownBlock) (.slice Ao15 t133.length co15) t133) ∧ Aside0 (Kd.R (Kd.int .i64) 3 wc w.heap.size (fun k_ => some k_ ≠ ((.slice Ao14 t132.length co14) : Value).ownBlock ∧ some k_ ≠ ((.slice Ao15 t133.length co15) : Value).ownBlock ∧ some k_ ≠ ((.slice Ao12 t128.length co12) : Value).ownBlock) (.slice Ao19 t130.length co19) t130) ∧ Aside0 (Kd.R (Kd.int .i64) 3 wc w.heap.size (fun k_ => some k_ ≠ ((.slice Ao14 t132.length co14) : Value).ownBlock ∧ some k_ ≠ ((.slice Ao15 t133.length co15) : Value).ownBlock ∧ some k_ ≠ ((.slice Ao19 t130.length co19) : Value).ownBlock) (.slice Ao12 t128.length co12) t128) ∧ Aside0 (Kd.R (Kd.slice 37 k37) 34 wc w.heap.size (fun _ => True) (.slice Ao13 t131.length co13) t131) ∧ Aside0 (wc.heap[gb123]? = some (.cells #[.int .i64 t129, (.slice Ao12 t128.length co12), (.slice Ao13 t131.length co13)] 28 (0, 0))) ∧ Aside0 (Below w.heap.size w wc))
  case first =>
   have H := HC53.out
   clear HC53
   revert H; refine Z.bd ?_; rintro t162 A54 H
   by_cases c55 : t162 = true
   ·subst c55
    rw [if_pos rfl] at H
    revert H; refine Z.bd ?_; rintro t159 A56 H
    have H' := Z.k H
    clear H
    have hcz57 := Z.c3 BK123.out
    go_wp2_with (first | ((with_reducible refine gate_callee (f := 16) rfl ?_); refine goesL_ (some 102) rfl rfl Try.func16 (by kernel_rfl) rfl #[.agg #[.int .i64 t129, .slice Ao12 t128.length co12, .slice Ao13 t131.length co13], .slice Ao14 t132.length co14] rfl Z.ar ?_; (with_reducible refine (spec_StateOk.calls k1 t129 _ _ t128 _ _ t131 _ _ t132 true _ ?q1 ?q2 ?q3 ?q4 ?q5 ?q6 A54.out).mono ?_); (case q1 => exact (Kd.R_reads' HO_125.out).2.2); (case q2 => exact (Kd.R_reads' HO_125.out).2.1); (case q3 => exact (Kd.R_reads' HO_126.out).2.2); (case q4 => exact (Kd.R_reads' HO_126.out).2.1); (case q5 => exact (Kd.R_reads' HO_4.out).2.2); (case q6 => exact (Kd.R_reads' HO_4.out).2.1); rintro e w58 ⟨rfl, hb⟩; refine ⟨_, rfl, ?_⟩; replace HO_4 := Z.rb HO_4 hb; replace HO_5 := Z.rb HO_5 hb; replace HO_6 := Z.rb HO_6 hb; replace HO_7 := Z.rb HO_7 hb; replace HO_125 := Z.rb HO_125 hb; replace HO_126 := Z.rb HO_126 hb; replace BK123 := Z.bb BK123 hb; replace HB := Z.st (Z.bs HB.out GE123.out) hb; (try clear hb); have hcz59 := Z.c3 BK123.out) | (go_at_call 22; (with_reducible refine (impl_SafeFor.calls k1 t129 _ _ t128 _ _ t131 _ _ t132 _ _ t133 0 t159 _ ?q1 ?q2 ?q3 ?q4 ?q5 ?q6 ?q7 ?q8 A56.out).mono ?_); (case q1 => exact (Kd.R_reads' HO_125.out).2.2); (case q2 => exact (Kd.R_reads' HO_125.out).2.1); (case q3 => exact (Kd.R_reads' HO_126.out).2.2); (case q4 => exact (Kd.R_reads' HO_126.out).2.1); (case q5 => exact (Kd.R_reads' HO_4.out).2.2); (case q6 => exact (Kd.R_reads' HO_4.out).2.1); (case q7 => exact (Kd.R_reads' HO_5.out).2.2); (case q8 => exact (Kd.R_reads' HO_5.out).2.1); rintro e w60 ⟨rfl, hb⟩; replace HO_4 := Z.rb HO_4 hb; replace HO_5 := Z.rb HO_5 hb; replace HO_6 := Z.rb HO_6 hb; replace HO_7 := Z.rb HO_7 hb; replace HO_125 := Z.rb HO_125 hb; replace HO_126 := Z.rb HO_126 hb; replace BK123 := Z.bb BK123 hb; replace HB := Z.st (Z.bs HB.out GE123.out) hb; (try clear hb)))
    go_meet
    case rel => exact ⟨_, (t159), (by rfl), H', ⟨by have := HK1.out; omega⟩, ⟨by exact Kd.R_mono HO_4.out (fun _ hk => ⟨hk.1, ⟨hk.2.1, hk.2.2.2⟩⟩)⟩, ⟨by exact Kd.R_mono HO_5.out (fun _ hk => ⟨hk.1, ⟨hk.2.1, hk.2.2.2⟩⟩)⟩, ⟨by exact Kd.R_mono HO_6.out (fun _ hk => ⟨hk.1, ⟨hk.2.1, hk.2.2.2⟩⟩)⟩, ⟨by exact Kd.R_mono HO_125.out (fun _ hk => ⟨hk.1, ⟨hk.2.1, hk.2.2.1⟩⟩)⟩, ⟨by exact HO_126.out⟩, ⟨by exact BK123.out⟩, ⟨Z.bs HB.out GE123.out⟩⟩
   replace c55 := Bool.eq_false_iff.mpr c55
   subst c55
   rw [if_neg (show ¬ (false = true) by decide)] at H
   have H' := Z.k H
   clear H
   have hcz61 := Z.c3 BK123.out
   go_wp2_with (((with_reducible refine gate_callee (f := 16) rfl ?_); refine goesL_ (some 102) rfl rfl Try.func16 (by kernel_rfl) rfl #[.agg #[.int .i64 t129, .slice Ao12 t128.length co12, .slice Ao13 t131.length co13], .slice Ao14 t132.length co14] rfl Z.ar ?_; (with_reducible refine (spec_StateOk.calls k1 t129 _ _ t128 _ _ t131 _ _ t132 false _ ?q1 ?q2 ?q3 ?q4 ?q5 ?q6 A54.out).mono ?_); (case q1 => exact (Kd.R_reads' HO_125.out).2.2); (case q2 => exact (Kd.R_reads' HO_125.out).2.1); (case q3 => exact (Kd.R_reads' HO_126.out).2.2); (case q4 => exact (Kd.R_reads' HO_126.out).2.1); (case q5 => exact (Kd.R_reads' HO_4.out).2.2); (case q6 => exact (Kd.R_reads' HO_4.out).2.1); rintro e w62 ⟨rfl, hb⟩; refine ⟨_, rfl, ?_⟩; replace HO_4 := Z.rb HO_4 hb; replace HO_5 := Z.rb HO_5 hb; replace HO_6 := Z.rb HO_6 hb; replace HO_7 := Z.rb HO_7 hb; replace HO_125 := Z.rb HO_125 hb; replace HO_126 := Z.rb HO_126 hb; replace BK123 := Z.bb BK123 hb; replace HB := Z.st (Z.bs HB.out GE123.out) hb; (try clear hb)))
   go_meet
   case rel => exact ⟨_, (false), (by rfl), H', ⟨by have := HK1.out; omega⟩, ⟨by exact Kd.R_mono HO_4.out (fun _ hk => ⟨hk.1, ⟨hk.2.1, hk.2.2.2⟩⟩)⟩, ⟨by exact Kd.R_mono HO_5.out (fun _ hk => ⟨hk.1, ⟨hk.2.1, hk.2.2.2⟩⟩)⟩, ⟨by exact Kd.R_mono HO_6.out (fun _ hk => ⟨hk.1, ⟨hk.2.1, hk.2.2.2⟩⟩)⟩, ⟨by exact Kd.R_mono HO_125.out (fun _ hk => ⟨hk.1, ⟨hk.2.1, hk.2.2.1⟩⟩)⟩, ⟨by exact HO_126.out⟩, ⟨by exact BK123.out⟩, ⟨Z.bs HB.out GE123.out⟩⟩
  case rest =>
   clear HC53
   try clear c23b0
   obtain ⟨kq, x13_52, rfl, HA, HJ52, HO_4, HO_5, HO_6, HO_125, HO_126, BK123, HB⟩ := hcut
   cases kq with
   | zero => exact absurd HA.out (by simp [laws_FnGuardsOf.j4])
   | succ kj52 =>
    have H := HA.out
    clear HA
    simp only [laws_FnGuardsOf.j4] at H
    revert H; refine Z.bd ?_; rintro t163 A63 H
    by_cases c64 : t163 = true
    rotate_left
    ·replace c64 := Bool.eq_false_iff.mpr c64
     subst c64
     rw [if_neg (show ¬ (false = true) by decide)] at H
     revert H; refine Z.bd ?_; rintro t164 A95 H
     by_cases c96 : t164 = true
     rotate_left
     ·replace c96 := Bool.eq_false_iff.mpr c96
      subst c96
      rw [if_neg (show ¬ (false = true) by decide)] at H
      obtain rfl := Option.some.inj H
      try go_wp2
      replace HO_4 := Z.k (Kd.R_drew HO_4.out)
      replace HO_5 := Z.k (Kd.R_drew HO_5.out)
      replace HO_6 := Z.k (Kd.R_drew HO_6.out)
      replace HO_125 := Z.k (Kd.R_drew HO_125.out)
      replace HO_126 := Z.k (Kd.R_drew HO_126.out)
      replace BK123 := Z.k (blk_drew BK123.out)
      replace HB := Z.k (below_drew1 HB.out)
      refine start_ (n := 15) (S := fun w' => w'.cell? ⟨gb123, 0, none⟩ = some (.int .i64 t129) ∧ w'.cell? ⟨gb123, 1, none⟩ = some (.slice Ao12 t128.length co12) ∧ w'.cell? ⟨gb123, 2, none⟩ = some (.slice Ao13 t131.length co13)) (ds := []) (Z.mb 15 0) (by kernel_rfl) rfl rfl ⟨Z.b BK123 0, Z.b BK123 1, Z.b BK123 2⟩ (fun hHeld => ?_); refine with_tabW laws_FnGuardsOf.tab28 laws_FnGuardsOf.bits28 (fun HT_ HW_ => ?_)
      generalize wc.drew = w103 at HO_4 HO_5 HO_6 HO_125 HO_126 BK123 HB hHeld ⊢
      refine Z.pv 1 110 15 2 HT_.out ?_
      refine Z.t3 0 109 15 3 HT_.out HW_.out hHeld ?_
      refine one_ (i := 2) (N := some 111) (Z.mb 15 7) rfl rfl (one_of HT_.out (by kernel_rfl)) (by decide) (fun K hK => ?_)
      refine goes_ Try.func16 (by kernel_rfl) rfl #[.agg #[.int .i64 t129, .slice Ao12 t128.length co12, .slice Ao13 t131.length co13], .slice Ao14 t132.length co14] (by rfl) rfl rfl Z.ar ?_
      with_reducible refine (spec_StateOk.calls kj52 t129 _ _ t128 _ _ t131 _ _ t132 false _ ?q1 ?q2 ?q3 ?q4 ?q5 ?q6 A63.out).mono ?_
      (case q1 => exact (Kd.R_reads' HO_125.out).2.2)
      (case q2 => exact (Kd.R_reads' HO_125.out).2.1)
      (case q3 => exact (Kd.R_reads' HO_126.out).2.2)
      (case q4 => exact (Kd.R_reads' HO_126.out).2.1)
      (case q5 => exact (Kd.R_reads' HO_4.out).2.2)
      (case q6 => exact (Kd.R_reads' HO_4.out).2.1)
      rintro e w104 ⟨rfl, hb⟩
      refine ⟨_, rfl, ?_⟩
      replace HO_4 := Z.rb HO_4 hb
      replace HO_5 := Z.rb HO_5 hb
      replace HO_6 := Z.rb HO_6 hb
      replace HO_125 := Z.rb HO_125 hb
      replace HO_126 := Z.rb HO_126 hb
      replace BK123 := Z.bb BK123 hb
      replace HB := Z.st (Z.bs HB.out GE123.out) hb
      (try clear hb)
      refine hK.out _ _ ⟨Z.b BK123 0, Z.b BK123 1, Z.b BK123 2⟩ (fun hHeld => ?_)
      clear hK K
      refine Z.nm ?_
      refine Z.pv 3 112 15 15 HT_.out ?_
      refine Z.pu 4 113 15 31 HT_.out ?_
      refine Z.pu 5 114 15 63 HT_.out ?_
      refine Z.pu 6 115 15 127 HT_.out ?_
      refine Z.pu 7 116 15 255 HT_.out ?_
      refine Z.pu 8 117 15 511 HT_.out ?_
      refine Z.pu 9 118 15 1023 HT_.out ?_
      refine Z.pu 10 119 15 2047 HT_.out ?_
      refine Z.pu 11 120 15 4095 HT_.out ?_
      refine Z.pu 12 121 15 8191 HT_.out ?_
      refine Z.pv 13 122 15 16383 HT_.out ?_
      refine Z.pv 14 14 15 32767 HT_.out ?_
      refine done_ (done_of HT_.out (by kernel_rfl)) ?_
      try go_wp2_with (((with_reducible refine gate_callee (f := 39) rfl ?_); refine goesL_ (some 124) rfl rfl Try.func39 (by kernel_rfl) rfl #[.slice Ao19 t130.length co19] rfl Z.ar ?_; (with_reducible refine (laws_ascend.calls kj52 _ _ t130 false _ ?q1 ?q2 A95.out).mono ?_); (case q1 => exact (Kd.R_reads' HO_6.out).2.2); (case q2 => exact (Kd.R_reads' HO_6.out).2.1); rintro e w' ⟨rfl, ⟨nd, rfl⟩⟩; refine ⟨_, rfl, ?_⟩))
      go_ret
      exact ⟨by rfl, Z.bs HB.out GE123.out⟩
     subst c96
     rw [if_pos rfl] at H
     by_cases c97 : ((decide ((t130.length : Int) > 0)) == x13_52) = true
     ·rw [if_pos c97] at H
      have c97b0 : ((decide ((t130.length : Int) > 0)) == x13_52) = true := c97
      (try (have c97b1 : decide ((decide ((t130.length : Int) > 0)) = x13_52) = true := by simpa using c97))
      (try (have c97b2 : ((decide ((t130.length : Int) > 0)) == x13_52) = true := by simpa using c97))
      clear c97
      revert H; refine Z.bd ?_; rintro t165 A98 H
      obtain rfl := Option.some.inj H
      try go_wp2
      replace HO_4 := Z.k (Kd.R_drew HO_4.out)
      replace HO_5 := Z.k (Kd.R_drew HO_5.out)
      replace HO_6 := Z.k (Kd.R_drew HO_6.out)
      replace HO_125 := Z.k (Kd.R_drew HO_125.out)
      replace HO_126 := Z.k (Kd.R_drew HO_126.out)
      replace BK123 := Z.k (blk_drew BK123.out)
      replace HB := Z.k (below_drew1 HB.out)
      refine start_ (n := 15) (S := fun w' => w'.cell? ⟨gb123, 0, none⟩ = some (.int .i64 t129) ∧ w'.cell? ⟨gb123, 1, none⟩ = some (.slice Ao12 t128.length co12) ∧ w'.cell? ⟨gb123, 2, none⟩ = some (.slice Ao13 t131.length co13)) (ds := []) (Z.mb 15 0) (by kernel_rfl) rfl rfl ⟨Z.b BK123 0, Z.b BK123 1, Z.b BK123 2⟩ (fun hHeld => ?_); refine with_tabW laws_FnGuardsOf.tab28 laws_FnGuardsOf.bits28 (fun HT_ HW_ => ?_)
      generalize wc.drew = w99 at HO_4 HO_5 HO_6 HO_125 HO_126 BK123 HB hHeld ⊢
      refine Z.pv 1 110 15 2 HT_.out ?_
      refine Z.t3 0 109 15 3 HT_.out HW_.out hHeld ?_
      refine one_ (i := 2) (N := some 111) (Z.mb 15 7) rfl rfl (one_of HT_.out (by kernel_rfl)) (by decide) (fun K hK => ?_)
      refine goes_ Try.func16 (by kernel_rfl) rfl #[.agg #[.int .i64 t129, .slice Ao12 t128.length co12, .slice Ao13 t131.length co13], .slice Ao14 t132.length co14] (by rfl) rfl rfl Z.ar ?_
      with_reducible refine (spec_StateOk.calls kj52 t129 _ _ t128 _ _ t131 _ _ t132 false _ ?q1 ?q2 ?q3 ?q4 ?q5 ?q6 A63.out).mono ?_
      (case q1 => exact (Kd.R_reads' HO_125.out).2.2)
      (case q2 => exact (Kd.R_reads' HO_125.out).2.1)
      (case q3 => exact (Kd.R_reads' HO_126.out).2.2)
      (case q4 => exact (Kd.R_reads' HO_126.out).2.1)
      (case q5 => exact (Kd.R_reads' HO_4.out).2.2)
      (case q6 => exact (Kd.R_reads' HO_4.out).2.1)
      rintro e w100 ⟨rfl, hb⟩
      refine ⟨_, rfl, ?_⟩
      replace HO_4 := Z.rb HO_4 hb
      replace HO_5 := Z.rb HO_5 hb
      replace HO_6 := Z.rb HO_6 hb
      replace HO_125 := Z.rb HO_125 hb
      replace HO_126 := Z.rb HO_126 hb
      replace BK123 := Z.bb BK123 hb
      replace HB := Z.st (Z.bs HB.out GE123.out) hb
      (try clear hb)
      refine hK.out _ _ ⟨Z.b BK123 0, Z.b BK123 1, Z.b BK123 2⟩ (fun hHeld => ?_)
      clear hK K
      refine Z.nm ?_
      refine Z.pv 3 112 15 15 HT_.out ?_
      refine Z.pu 4 113 15 31 HT_.out ?_
      refine Z.pu 5 114 15 63 HT_.out ?_
      refine Z.pu 6 115 15 127 HT_.out ?_
      refine Z.pu 7 116 15 255 HT_.out ?_
      refine Z.pu 8 117 15 511 HT_.out ?_
      refine Z.pu 9 118 15 1023 HT_.out ?_
      refine Z.pu 10 119 15 2047 HT_.out ?_
      refine Z.pu 11 120 15 4095 HT_.out ?_
      refine Z.pu 12 121 15 8191 HT_.out ?_
      refine Z.pv 13 122 15 16383 HT_.out ?_
      refine Z.pv 14 14 15 32767 HT_.out ?_
      refine done_ (done_of HT_.out (by kernel_rfl)) ?_
      try go_wp2_with (first | ((with_reducible refine gate_callee (f := 39) rfl ?_); refine goesL_ (some 124) rfl rfl Try.func39 (by kernel_rfl) rfl #[.slice Ao19 t130.length co19] rfl Z.ar ?_; (with_reducible refine (laws_ascend.calls kj52 _ _ t130 true _ ?q1 ?q2 A95.out).mono ?_); (case q1 => exact (Kd.R_reads' HO_6.out).2.2); (case q2 => exact (Kd.R_reads' HO_6.out).2.1); rintro e w' ⟨rfl, ⟨nd, rfl⟩⟩; refine ⟨_, rfl, ?_⟩) | (go_at_call 18; (with_reducible refine (laws_alive.calls  t165 _ A98.out).mono ?_); rintro e w' ⟨rfl, ⟨nd, rfl⟩⟩))
      all_goals (first | (exfalso; rename_i hn_; have hx_ := c97b0; cases hb_ : x13_52 <;> simp only [hb_, beq_iff_eq, beq_eq_false_iff_ne, ne_eq, decide_eq_true_eq, decide_eq_false_iff_not, decide_eq_decide, not_true_eq_false, not_false_eq_true, Bool.not_eq_true, Bool.not_eq_false, gt_iff_lt, ge_iff_le, reduceCtorEq] at hx_ hn_ <;> omega; done) | (go_ret; exact ⟨by rfl, Z.bs HB.out GE123.out⟩))
      skip
     rw [if_neg c97] at H
     have c97b0 : ((decide ((t130.length : Int) > 0)) == x13_52) = false := by simpa using c97
     (try (have c97b1 : decide ((decide ((t130.length : Int) > 0)) = x13_52) = false := by simpa using c97))
     (try (have c97b2 : ((decide ((t130.length : Int) > 0)) == x13_52) = false := by simpa using c97))
     (try (have c97b3 : ¬ ((decide ((t130.length : Int) > 0)) = x13_52) := by simpa using c97))
     clear c97
     obtain rfl := Option.some.inj H
     try go_wp2
     replace HO_4 := Z.k (Kd.R_drew HO_4.out)
     replace HO_5 := Z.k (Kd.R_drew HO_5.out)
     replace HO_6 := Z.k (Kd.R_drew HO_6.out)
     replace HO_125 := Z.k (Kd.R_drew HO_125.out)
     replace HO_126 := Z.k (Kd.R_drew HO_126.out)
     replace BK123 := Z.k (blk_drew BK123.out)
     replace HB := Z.k (below_drew1 HB.out)
     refine start_ (n := 15) (S := fun w' => w'.cell? ⟨gb123, 0, none⟩ = some (.int .i64 t129) ∧ w'.cell? ⟨gb123, 1, none⟩ = some (.slice Ao12 t128.length co12) ∧ w'.cell? ⟨gb123, 2, none⟩ = some (.slice Ao13 t131.length co13)) (ds := []) (Z.mb 15 0) (by kernel_rfl) rfl rfl ⟨Z.b BK123 0, Z.b BK123 1, Z.b BK123 2⟩ (fun hHeld => ?_); refine with_tabW laws_FnGuardsOf.tab28 laws_FnGuardsOf.bits28 (fun HT_ HW_ => ?_)
     generalize wc.drew = w101 at HO_4 HO_5 HO_6 HO_125 HO_126 BK123 HB hHeld ⊢
     refine Z.pv 1 110 15 2 HT_.out ?_
     refine Z.t3 0 109 15 3 HT_.out HW_.out hHeld ?_
     refine one_ (i := 2) (N := some 111) (Z.mb 15 7) rfl rfl (one_of HT_.out (by kernel_rfl)) (by decide) (fun K hK => ?_)
     refine goes_ Try.func16 (by kernel_rfl) rfl #[.agg #[.int .i64 t129, .slice Ao12 t128.length co12, .slice Ao13 t131.length co13], .slice Ao14 t132.length co14] (by rfl) rfl rfl Z.ar ?_
     with_reducible refine (spec_StateOk.calls kj52 t129 _ _ t128 _ _ t131 _ _ t132 false _ ?q1 ?q2 ?q3 ?q4 ?q5 ?q6 A63.out).mono ?_
     (case q1 => exact (Kd.R_reads' HO_125.out).2.2)
     (case q2 => exact (Kd.R_reads' HO_125.out).2.1)
     (case q3 => exact (Kd.R_reads' HO_126.out).2.2)
     (case q4 => exact (Kd.R_reads' HO_126.out).2.1)
     (case q5 => exact (Kd.R_reads' HO_4.out).2.2)
     (case q6 => exact (Kd.R_reads' HO_4.out).2.1)
     rintro e w102 ⟨rfl, hb⟩
     refine ⟨_, rfl, ?_⟩
     replace HO_4 := Z.rb HO_4 hb
     replace HO_5 := Z.rb HO_5 hb
     replace HO_6 := Z.rb HO_6 hb
     replace HO_125 := Z.rb HO_125 hb
     replace HO_126 := Z.rb HO_126 hb
     replace BK123 := Z.bb BK123 hb
     replace HB := Z.st (Z.bs HB.out GE123.out) hb
     (try clear hb)
     refine hK.out _ _ ⟨Z.b BK123 0, Z.b BK123 1, Z.b BK123 2⟩ (fun hHeld => ?_)
     clear hK K
     refine Z.nm ?_
     refine Z.pv 3 112 15 15 HT_.out ?_
     refine Z.pu 4 113 15 31 HT_.out ?_
     refine Z.pu 5 114 15 63 HT_.out ?_
     refine Z.pu 6 115 15 127 HT_.out ?_
     refine Z.pu 7 116 15 255 HT_.out ?_
     refine Z.pu 8 117 15 511 HT_.out ?_
     refine Z.pu 9 118 15 1023 HT_.out ?_
     refine Z.pu 10 119 15 2047 HT_.out ?_
     refine Z.pu 11 120 15 4095 HT_.out ?_
     refine Z.pu 12 121 15 8191 HT_.out ?_
     refine Z.pv 13 122 15 16383 HT_.out ?_
     refine Z.pv 14 14 15 32767 HT_.out ?_
     refine done_ (done_of HT_.out (by kernel_rfl)) ?_
     have c97e : (decide (0 < t130.length) = x13_52) = False := eq_false (fun e_ => by have hx_ := c97b0; rw [← e_] at hx_; simp at hx_)
     try go_wp2_with (((with_reducible refine gate_callee (f := 39) rfl ?_); refine goesL_ (some 124) rfl rfl Try.func39 (by kernel_rfl) rfl #[.slice Ao19 t130.length co19] rfl Z.ar ?_; (with_reducible refine (laws_ascend.calls kj52 _ _ t130 true _ ?q1 ?q2 A95.out).mono ?_); (case q1 => exact (Kd.R_reads' HO_6.out).2.2); (case q2 => exact (Kd.R_reads' HO_6.out).2.1); rintro e w' ⟨rfl, ⟨nd, rfl⟩⟩; refine ⟨_, rfl, ?_⟩))
     all_goals ((go_ret; exact ⟨by rfl, Z.bs HB.out GE123.out⟩))
     skip
    subst c64
    rw [if_pos rfl] at H
    obtain ⟨c65, H⟩ := Z.ifp H
    have c65b0 := eq_true c65
    have c65b1 : decide (0 ≤ t129) = true := decide_eq_true c65
    clear c65
    obtain ⟨ji66, hji66⟩ : ∃ j_ : Int, (shl .i64 1 t129) = j_ := ⟨_, rfl⟩
    replace H : ((impl_SafeFor.f kj52 t129 t128 t131 t132 t133 (wrap64 ((ji66) - 1))).bind fun t155 => ((laws_ascend.f kj52 t130).bind fun t156 => (if t156 = true then (if ((decide ((t130.length : Int) > 0)) == x13_52) = true then (if t155 = true then (if (t130.length : Int) = 1 then (if 0 < (t130.length : Int) then (if (rd t130 0) = 0 then ((laws_alive.f).bind fun t157 => (some t157)) else (some false)) else (none)) else (some false)) else ((laws_alive.f).bind fun t158 => (some t158))) else (some false)) else (some false)))) = some r := by (rw [hji66] at H; exact H)
    have hji66_ : (IntKind.i64.wrap (1 * 2 ^ min t129.toNat 64)) = ji66 := hji66
    have hji66z : t129 ≤ 64 → (IntKind.i64.wrap (1 * 2 ^ t129.toNat)) = ji66 := shl_small hji66
    have hji66u : (IntKind.i64.wrap (2 ^ min t129.toNat 64)) = ji66 := by have h_ := hji66_; rw [Int.one_mul] at h_; exact h_
    have hji66v : t129 ≤ 64 → (IntKind.i64.wrap (2 ^ t129.toNat)) = ji66 := fun hle_ => by have h_ := hji66z hle_; rw [Int.one_mul] at h_; exact h_
    have hji66y : (wrap64 (1 * 2 ^ min t129.toNat 64)) = ji66 := (i64_w _).symm.trans hji66_
    have hji66x : t129 ≤ 64 → (wrap64 (1 * 2 ^ t129.toNat)) = ji66 := fun h_ => (i64_w _).symm.trans (hji66z h_)
    revert H; refine Z.bd ?_; rintro t155 A67 H
    revert H; refine Z.bd ?_; rintro t156 A68 H
    by_cases c69 : t156 = true
    rotate_left
    ·replace c69 := Bool.eq_false_iff.mpr c69
     subst c69
     rw [if_neg (show ¬ (false = true) by decide)] at H
     obtain rfl := Option.some.inj H
     try go_wp2
     replace HO_4 := Z.k (Kd.R_drew HO_4.out)
     replace HO_5 := Z.k (Kd.R_drew HO_5.out)
     replace HO_6 := Z.k (Kd.R_drew HO_6.out)
     replace HO_125 := Z.k (Kd.R_drew HO_125.out)
     replace HO_126 := Z.k (Kd.R_drew HO_126.out)
     replace BK123 := Z.k (blk_drew BK123.out)
     replace HB := Z.k (below_drew1 HB.out)
     refine start_ (n := 15) (S := fun w' => w'.cell? ⟨gb123, 0, none⟩ = some (.int .i64 t129) ∧ w'.cell? ⟨gb123, 1, none⟩ = some (.slice Ao12 t128.length co12) ∧ w'.cell? ⟨gb123, 2, none⟩ = some (.slice Ao13 t131.length co13)) (ds := []) (Z.mb 15 0) (by kernel_rfl) rfl rfl ⟨Z.b BK123 0, Z.b BK123 1, Z.b BK123 2⟩ (fun hHeld => ?_); refine with_tabW laws_FnGuardsOf.tab28 laws_FnGuardsOf.bits28 (fun HT_ HW_ => ?_)
     generalize wc.drew = w92 at HO_4 HO_5 HO_6 HO_125 HO_126 BK123 HB hHeld ⊢
     refine Z.pv 1 110 15 2 HT_.out ?_
     refine Z.t3 0 109 15 3 HT_.out HW_.out hHeld ?_
     refine one_ (i := 2) (N := some 111) (Z.mb 15 7) rfl rfl (one_of HT_.out (by kernel_rfl)) (by decide) (fun K hK => ?_)
     refine goes_ Try.func16 (by kernel_rfl) rfl #[.agg #[.int .i64 t129, .slice Ao12 t128.length co12, .slice Ao13 t131.length co13], .slice Ao14 t132.length co14] (by rfl) rfl rfl Z.ar ?_
     with_reducible refine (spec_StateOk.calls kj52 t129 _ _ t128 _ _ t131 _ _ t132 true _ ?q1 ?q2 ?q3 ?q4 ?q5 ?q6 A63.out).mono ?_
     (case q1 => exact (Kd.R_reads' HO_125.out).2.2)
     (case q2 => exact (Kd.R_reads' HO_125.out).2.1)
     (case q3 => exact (Kd.R_reads' HO_126.out).2.2)
     (case q4 => exact (Kd.R_reads' HO_126.out).2.1)
     (case q5 => exact (Kd.R_reads' HO_4.out).2.2)
     (case q6 => exact (Kd.R_reads' HO_4.out).2.1)
     rintro e w93 ⟨rfl, hb⟩
     refine ⟨_, rfl, ?_⟩
     replace HO_4 := Z.rb HO_4 hb
     replace HO_5 := Z.rb HO_5 hb
     replace HO_6 := Z.rb HO_6 hb
     replace HO_125 := Z.rb HO_125 hb
     replace HO_126 := Z.rb HO_126 hb
     replace BK123 := Z.bb BK123 hb
     replace HB := Z.st (Z.bs HB.out GE123.out) hb
     (try clear hb)
     refine hK.out _ _ ⟨Z.b BK123 0, Z.b BK123 1, Z.b BK123 2⟩ (fun hHeld => ?_)
     clear hK K
     refine Z.nm ?_
     refine Z.pv 3 112 15 15 HT_.out ?_
     refine Z.pv 5 114 15 47 HT_.out ?_
     refine Z.pv 6 115 15 111 HT_.out ?_
     refine Z.pv 7 116 15 239 HT_.out ?_
     refine Z.pv 8 117 15 495 HT_.out ?_
     refine Z.t3 4 113 15 511 HT_.out HW_.out hHeld ?_
     refine Z.t3 9 118 15 1023 HT_.out HW_.out hHeld ?_
     refine Z.pv 10 119 15 2047 HT_.out ?_
     refine Z.pv 11 120 15 4095 HT_.out ?_
     refine one_ (i := 12) (N := some 121) (Z.mb 15 8191) rfl rfl (one_of HT_.out (by kernel_rfl)) (by decide) (fun K hK => ?_)
     refine goes_ Try.func22 (by kernel_rfl) rfl #[.agg #[.int .i64 t129, .slice Ao12 t128.length co12, .slice Ao13 t131.length co13], .slice Ao14 t132.length co14, .slice Ao15 t133.length co15, .int .i64 (wrap64 ((ji66) - 1))] (by rfl) rfl rfl (by (try simp only [List.map_toArray, List.map_cons, List.map_nil]); rfl) ?_
     with_reducible refine (impl_SafeFor.calls kj52 t129 _ _ t128 _ _ t131 _ _ t132 _ _ t133 (wrap64 ((ji66) - 1)) t155 _ ?q1 ?q2 ?q3 ?q4 ?q5 ?q6 ?q7 ?q8 A67.out).mono ?_
     (case q1 => exact (Kd.R_reads' HO_125.out).2.2)
     (case q2 => exact (Kd.R_reads' HO_125.out).2.1)
     (case q3 => exact (Kd.R_reads' HO_126.out).2.2)
     (case q4 => exact (Kd.R_reads' HO_126.out).2.1)
     (case q5 => exact (Kd.R_reads' HO_4.out).2.2)
     (case q6 => exact (Kd.R_reads' HO_4.out).2.1)
     (case q7 => exact (Kd.R_reads' HO_5.out).2.2)
     (case q8 => exact (Kd.R_reads' HO_5.out).2.1)
     rintro e w94 ⟨rfl, hb⟩
     refine ⟨_, rfl, ?_⟩
     replace HO_4 := Z.rb HO_4 hb
     replace HO_5 := Z.rb HO_5 hb
     replace HO_6 := Z.rb HO_6 hb
     replace HO_125 := Z.rb HO_125 hb
     replace HO_126 := Z.rb HO_126 hb
     replace BK123 := Z.bb BK123 hb
     replace HB := Z.st (Z.bs HB.out GE123.out) hb
     (try clear hb)
     refine hK.out _ _ ⟨Z.b BK123 0, Z.b BK123 1, Z.b BK123 2⟩ (fun hHeld => ?_)
     clear hK K
     refine Z.nm ?_
     refine Z.pv 13 122 15 16383 HT_.out ?_
     refine Z.pv 14 14 15 32767 HT_.out ?_
     refine done_ (done_of HT_.out (by kernel_rfl)) ?_
     try go_wp2_with (((with_reducible refine gate_callee (f := 39) rfl ?_); refine goesL_ (some 124) rfl rfl Try.func39 (by kernel_rfl) rfl #[.slice Ao19 t130.length co19] rfl Z.ar ?_; (with_reducible refine (laws_ascend.calls kj52 _ _ t130 false _ ?q1 ?q2 A68.out).mono ?_); (case q1 => exact (Kd.R_reads' HO_6.out).2.2); (case q2 => exact (Kd.R_reads' HO_6.out).2.1); rintro e w' ⟨rfl, ⟨nd, rfl⟩⟩; refine ⟨_, rfl, ?_⟩))
     go_ret
     exact ⟨by rfl, Z.bs HB.out GE123.out⟩
    subst c69
    rw [if_pos rfl] at H
    by_cases c70 : ((decide ((t130.length : Int) > 0)) == x13_52) = true
    rotate_left
    ·rw [if_neg c70] at H
     have c70b0 : ((decide ((t130.length : Int) > 0)) == x13_52) = false := by simpa using c70
     (try (have c70b1 : decide ((decide ((t130.length : Int) > 0)) = x13_52) = false := by simpa using c70))
     (try (have c70b2 : ((decide ((t130.length : Int) > 0)) == x13_52) = false := by simpa using c70))
     (try (have c70b3 : ¬ ((decide ((t130.length : Int) > 0)) = x13_52) := by simpa using c70))
     clear c70
     obtain rfl := Option.some.inj H
     try go_wp2
     replace HO_4 := Z.k (Kd.R_drew HO_4.out)
     replace HO_5 := Z.k (Kd.R_drew HO_5.out)
     replace HO_6 := Z.k (Kd.R_drew HO_6.out)
     replace HO_125 := Z.k (Kd.R_drew HO_125.out)
     replace HO_126 := Z.k (Kd.R_drew HO_126.out)
     replace BK123 := Z.k (blk_drew BK123.out)
     replace HB := Z.k (below_drew1 HB.out)
     refine start_ (n := 15) (S := fun w' => w'.cell? ⟨gb123, 0, none⟩ = some (.int .i64 t129) ∧ w'.cell? ⟨gb123, 1, none⟩ = some (.slice Ao12 t128.length co12) ∧ w'.cell? ⟨gb123, 2, none⟩ = some (.slice Ao13 t131.length co13)) (ds := []) (Z.mb 15 0) (by kernel_rfl) rfl rfl ⟨Z.b BK123 0, Z.b BK123 1, Z.b BK123 2⟩ (fun hHeld => ?_); refine with_tabW laws_FnGuardsOf.tab28 laws_FnGuardsOf.bits28 (fun HT_ HW_ => ?_)
     generalize wc.drew = w89 at HO_4 HO_5 HO_6 HO_125 HO_126 BK123 HB hHeld ⊢
     refine Z.pv 1 110 15 2 HT_.out ?_
     refine Z.t3 0 109 15 3 HT_.out HW_.out hHeld ?_
     refine one_ (i := 2) (N := some 111) (Z.mb 15 7) rfl rfl (one_of HT_.out (by kernel_rfl)) (by decide) (fun K hK => ?_)
     refine goes_ Try.func16 (by kernel_rfl) rfl #[.agg #[.int .i64 t129, .slice Ao12 t128.length co12, .slice Ao13 t131.length co13], .slice Ao14 t132.length co14] (by rfl) rfl rfl Z.ar ?_
     with_reducible refine (spec_StateOk.calls kj52 t129 _ _ t128 _ _ t131 _ _ t132 true _ ?q1 ?q2 ?q3 ?q4 ?q5 ?q6 A63.out).mono ?_
     (case q1 => exact (Kd.R_reads' HO_125.out).2.2)
     (case q2 => exact (Kd.R_reads' HO_125.out).2.1)
     (case q3 => exact (Kd.R_reads' HO_126.out).2.2)
     (case q4 => exact (Kd.R_reads' HO_126.out).2.1)
     (case q5 => exact (Kd.R_reads' HO_4.out).2.2)
     (case q6 => exact (Kd.R_reads' HO_4.out).2.1)
     rintro e w90 ⟨rfl, hb⟩
     refine ⟨_, rfl, ?_⟩
     replace HO_4 := Z.rb HO_4 hb
     replace HO_5 := Z.rb HO_5 hb
     replace HO_6 := Z.rb HO_6 hb
     replace HO_125 := Z.rb HO_125 hb
     replace HO_126 := Z.rb HO_126 hb
     replace BK123 := Z.bb BK123 hb
     replace HB := Z.st (Z.bs HB.out GE123.out) hb
     (try clear hb)
     refine hK.out _ _ ⟨Z.b BK123 0, Z.b BK123 1, Z.b BK123 2⟩ (fun hHeld => ?_)
     clear hK K
     refine Z.nm ?_
     refine Z.pv 3 112 15 15 HT_.out ?_
     refine Z.pv 5 114 15 47 HT_.out ?_
     refine Z.pv 6 115 15 111 HT_.out ?_
     refine Z.pv 7 116 15 239 HT_.out ?_
     refine Z.pv 8 117 15 495 HT_.out ?_
     refine Z.t3 4 113 15 511 HT_.out HW_.out hHeld ?_
     refine Z.t3 9 118 15 1023 HT_.out HW_.out hHeld ?_
     refine Z.pv 10 119 15 2047 HT_.out ?_
     refine Z.pv 11 120 15 4095 HT_.out ?_
     refine one_ (i := 12) (N := some 121) (Z.mb 15 8191) rfl rfl (one_of HT_.out (by kernel_rfl)) (by decide) (fun K hK => ?_)
     refine goes_ Try.func22 (by kernel_rfl) rfl #[.agg #[.int .i64 t129, .slice Ao12 t128.length co12, .slice Ao13 t131.length co13], .slice Ao14 t132.length co14, .slice Ao15 t133.length co15, .int .i64 (wrap64 ((ji66) - 1))] (by rfl) rfl rfl (by (try simp only [List.map_toArray, List.map_cons, List.map_nil]); rfl) ?_
     with_reducible refine (impl_SafeFor.calls kj52 t129 _ _ t128 _ _ t131 _ _ t132 _ _ t133 (wrap64 ((ji66) - 1)) t155 _ ?q1 ?q2 ?q3 ?q4 ?q5 ?q6 ?q7 ?q8 A67.out).mono ?_
     (case q1 => exact (Kd.R_reads' HO_125.out).2.2)
     (case q2 => exact (Kd.R_reads' HO_125.out).2.1)
     (case q3 => exact (Kd.R_reads' HO_126.out).2.2)
     (case q4 => exact (Kd.R_reads' HO_126.out).2.1)
     (case q5 => exact (Kd.R_reads' HO_4.out).2.2)
     (case q6 => exact (Kd.R_reads' HO_4.out).2.1)
     (case q7 => exact (Kd.R_reads' HO_5.out).2.2)
     (case q8 => exact (Kd.R_reads' HO_5.out).2.1)
     rintro e w91 ⟨rfl, hb⟩
     refine ⟨_, rfl, ?_⟩
     replace HO_4 := Z.rb HO_4 hb
     replace HO_5 := Z.rb HO_5 hb
     replace HO_6 := Z.rb HO_6 hb
     replace HO_125 := Z.rb HO_125 hb
     replace HO_126 := Z.rb HO_126 hb
     replace BK123 := Z.bb BK123 hb
     replace HB := Z.st (Z.bs HB.out GE123.out) hb
     (try clear hb)
     refine hK.out _ _ ⟨Z.b BK123 0, Z.b BK123 1, Z.b BK123 2⟩ (fun hHeld => ?_)
     clear hK K
     refine Z.nm ?_
     refine Z.pv 13 122 15 16383 HT_.out ?_
     refine Z.pv 14 14 15 32767 HT_.out ?_
     refine done_ (done_of HT_.out (by kernel_rfl)) ?_
     have c70e : (decide (0 < t130.length) = x13_52) = False := eq_false (fun e_ => by have hx_ := c70b0; rw [← e_] at hx_; simp at hx_)
     try go_wp2_with (((with_reducible refine gate_callee (f := 39) rfl ?_); refine goesL_ (some 124) rfl rfl Try.func39 (by kernel_rfl) rfl #[.slice Ao19 t130.length co19] rfl Z.ar ?_; (with_reducible refine (laws_ascend.calls kj52 _ _ t130 true _ ?q1 ?q2 A68.out).mono ?_); (case q1 => exact (Kd.R_reads' HO_6.out).2.2); (case q2 => exact (Kd.R_reads' HO_6.out).2.1); rintro e w' ⟨rfl, ⟨nd, rfl⟩⟩; refine ⟨_, rfl, ?_⟩))
     all_goals ((go_ret; exact ⟨by rfl, Z.bs HB.out GE123.out⟩))
     skip
    rw [if_pos c70] at H
    have c70b0 : ((decide ((t130.length : Int) > 0)) == x13_52) = true := c70
    (try (have c70b1 : decide ((decide ((t130.length : Int) > 0)) = x13_52) = true := by simpa using c70))
    (try (have c70b2 : ((decide ((t130.length : Int) > 0)) == x13_52) = true := by simpa using c70))
    clear c70
    by_cases c71 : t155 = true
    rotate_left
    ·replace c71 := Bool.eq_false_iff.mpr c71
     subst c71
     rw [if_neg (show ¬ (false = true) by decide)] at H
     revert H; refine Z.bd ?_; rintro t158 A85 H
     obtain rfl := Option.some.inj H
     try go_wp2
     replace HO_4 := Z.k (Kd.R_drew HO_4.out)
     replace HO_5 := Z.k (Kd.R_drew HO_5.out)
     replace HO_6 := Z.k (Kd.R_drew HO_6.out)
     replace HO_125 := Z.k (Kd.R_drew HO_125.out)
     replace HO_126 := Z.k (Kd.R_drew HO_126.out)
     replace BK123 := Z.k (blk_drew BK123.out)
     replace HB := Z.k (below_drew1 HB.out)
     refine start_ (n := 15) (S := fun w' => w'.cell? ⟨gb123, 0, none⟩ = some (.int .i64 t129) ∧ w'.cell? ⟨gb123, 1, none⟩ = some (.slice Ao12 t128.length co12) ∧ w'.cell? ⟨gb123, 2, none⟩ = some (.slice Ao13 t131.length co13)) (ds := []) (Z.mb 15 0) (by kernel_rfl) rfl rfl ⟨Z.b BK123 0, Z.b BK123 1, Z.b BK123 2⟩ (fun hHeld => ?_); refine with_tabW laws_FnGuardsOf.tab28 laws_FnGuardsOf.bits28 (fun HT_ HW_ => ?_)
     generalize wc.drew = w86 at HO_4 HO_5 HO_6 HO_125 HO_126 BK123 HB hHeld ⊢
     refine Z.pv 1 110 15 2 HT_.out ?_
     refine Z.t3 0 109 15 3 HT_.out HW_.out hHeld ?_
     refine one_ (i := 2) (N := some 111) (Z.mb 15 7) rfl rfl (one_of HT_.out (by kernel_rfl)) (by decide) (fun K hK => ?_)
     refine goes_ Try.func16 (by kernel_rfl) rfl #[.agg #[.int .i64 t129, .slice Ao12 t128.length co12, .slice Ao13 t131.length co13], .slice Ao14 t132.length co14] (by rfl) rfl rfl Z.ar ?_
     with_reducible refine (spec_StateOk.calls kj52 t129 _ _ t128 _ _ t131 _ _ t132 true _ ?q1 ?q2 ?q3 ?q4 ?q5 ?q6 A63.out).mono ?_
     (case q1 => exact (Kd.R_reads' HO_125.out).2.2)
     (case q2 => exact (Kd.R_reads' HO_125.out).2.1)
     (case q3 => exact (Kd.R_reads' HO_126.out).2.2)
     (case q4 => exact (Kd.R_reads' HO_126.out).2.1)
     (case q5 => exact (Kd.R_reads' HO_4.out).2.2)
     (case q6 => exact (Kd.R_reads' HO_4.out).2.1)
     rintro e w87 ⟨rfl, hb⟩
     refine ⟨_, rfl, ?_⟩
     replace HO_4 := Z.rb HO_4 hb
     replace HO_5 := Z.rb HO_5 hb
     replace HO_6 := Z.rb HO_6 hb
     replace HO_125 := Z.rb HO_125 hb
     replace HO_126 := Z.rb HO_126 hb
     replace BK123 := Z.bb BK123 hb
     replace HB := Z.st (Z.bs HB.out GE123.out) hb
     (try clear hb)
     refine hK.out _ _ ⟨Z.b BK123 0, Z.b BK123 1, Z.b BK123 2⟩ (fun hHeld => ?_)
     clear hK K
     refine Z.nm ?_
     refine Z.pv 3 112 15 15 HT_.out ?_
     refine Z.pv 5 114 15 47 HT_.out ?_
     refine Z.pv 6 115 15 111 HT_.out ?_
     refine Z.pv 7 116 15 239 HT_.out ?_
     refine Z.pv 8 117 15 495 HT_.out ?_
     refine Z.t3 4 113 15 511 HT_.out HW_.out hHeld ?_
     refine Z.t3 9 118 15 1023 HT_.out HW_.out hHeld ?_
     refine Z.pv 10 119 15 2047 HT_.out ?_
     refine Z.pv 11 120 15 4095 HT_.out ?_
     refine one_ (i := 12) (N := some 121) (Z.mb 15 8191) rfl rfl (one_of HT_.out (by kernel_rfl)) (by decide) (fun K hK => ?_)
     refine goes_ Try.func22 (by kernel_rfl) rfl #[.agg #[.int .i64 t129, .slice Ao12 t128.length co12, .slice Ao13 t131.length co13], .slice Ao14 t132.length co14, .slice Ao15 t133.length co15, .int .i64 (wrap64 ((ji66) - 1))] (by rfl) rfl rfl (by (try simp only [List.map_toArray, List.map_cons, List.map_nil]); rfl) ?_
     with_reducible refine (impl_SafeFor.calls kj52 t129 _ _ t128 _ _ t131 _ _ t132 _ _ t133 (wrap64 ((ji66) - 1)) false _ ?q1 ?q2 ?q3 ?q4 ?q5 ?q6 ?q7 ?q8 A67.out).mono ?_
     (case q1 => exact (Kd.R_reads' HO_125.out).2.2)
     (case q2 => exact (Kd.R_reads' HO_125.out).2.1)
     (case q3 => exact (Kd.R_reads' HO_126.out).2.2)
     (case q4 => exact (Kd.R_reads' HO_126.out).2.1)
     (case q5 => exact (Kd.R_reads' HO_4.out).2.2)
     (case q6 => exact (Kd.R_reads' HO_4.out).2.1)
     (case q7 => exact (Kd.R_reads' HO_5.out).2.2)
     (case q8 => exact (Kd.R_reads' HO_5.out).2.1)
     rintro e w88 ⟨rfl, hb⟩
     refine ⟨_, rfl, ?_⟩
     replace HO_4 := Z.rb HO_4 hb
     replace HO_5 := Z.rb HO_5 hb
     replace HO_6 := Z.rb HO_6 hb
     replace HO_125 := Z.rb HO_125 hb
     replace HO_126 := Z.rb HO_126 hb
     replace BK123 := Z.bb BK123 hb
     replace HB := Z.st (Z.bs HB.out GE123.out) hb
     (try clear hb)
     refine hK.out _ _ ⟨Z.b BK123 0, Z.b BK123 1, Z.b BK123 2⟩ (fun hHeld => ?_)
     clear hK K
     refine Z.nm ?_
     refine Z.pv 13 122 15 16383 HT_.out ?_
     refine Z.pv 14 14 15 32767 HT_.out ?_
     refine done_ (done_of HT_.out (by kernel_rfl)) ?_
     try go_wp2_with (first | ((with_reducible refine gate_callee (f := 39) rfl ?_); refine goesL_ (some 124) rfl rfl Try.func39 (by kernel_rfl) rfl #[.slice Ao19 t130.length co19] rfl Z.ar ?_; (with_reducible refine (laws_ascend.calls kj52 _ _ t130 true _ ?q1 ?q2 A68.out).mono ?_); (case q1 => exact (Kd.R_reads' HO_6.out).2.2); (case q2 => exact (Kd.R_reads' HO_6.out).2.1); rintro e w' ⟨rfl, ⟨nd, rfl⟩⟩; refine ⟨_, rfl, ?_⟩) | (go_at_call 18; (with_reducible refine (laws_alive.calls  t158 _ A85.out).mono ?_); rintro e w' ⟨rfl, ⟨nd, rfl⟩⟩))
     all_goals (first | (exfalso; rename_i hn_; have hx_ := c70b0; cases hb_ : x13_52 <;> simp only [hb_, beq_iff_eq, beq_eq_false_iff_ne, ne_eq, decide_eq_true_eq, decide_eq_false_iff_not, decide_eq_decide, not_true_eq_false, not_false_eq_true, Bool.not_eq_true, Bool.not_eq_false, gt_iff_lt, ge_iff_le, reduceCtorEq] at hx_ hn_ <;> omega; done) | (go_ret; exact ⟨by rfl, Z.bs HB.out GE123.out⟩))
     skip
    subst c71
    rw [if_pos rfl] at H
    by_cases c72 : (t130.length : Int) = 1
    rotate_left
    ·rw [if_neg c72] at H
     have c72b0 : ((t130.length : Int) == 1) = false := beq_eq_false_iff_ne.mpr c72
     have c72b1 : ((t130.length : Int) != 1) = true := bne_iff_ne.mpr c72
     obtain rfl := Option.some.inj H
     try go_wp2
     replace HO_4 := Z.k (Kd.R_drew HO_4.out)
     replace HO_5 := Z.k (Kd.R_drew HO_5.out)
     replace HO_6 := Z.k (Kd.R_drew HO_6.out)
     replace HO_125 := Z.k (Kd.R_drew HO_125.out)
     replace HO_126 := Z.k (Kd.R_drew HO_126.out)
     replace BK123 := Z.k (blk_drew BK123.out)
     replace HB := Z.k (below_drew1 HB.out)
     refine start_ (n := 15) (S := fun w' => w'.cell? ⟨gb123, 0, none⟩ = some (.int .i64 t129) ∧ w'.cell? ⟨gb123, 1, none⟩ = some (.slice Ao12 t128.length co12) ∧ w'.cell? ⟨gb123, 2, none⟩ = some (.slice Ao13 t131.length co13)) (ds := []) (Z.mb 15 0) (by kernel_rfl) rfl rfl ⟨Z.b BK123 0, Z.b BK123 1, Z.b BK123 2⟩ (fun hHeld => ?_); refine with_tabW laws_FnGuardsOf.tab28 laws_FnGuardsOf.bits28 (fun HT_ HW_ => ?_)
     generalize wc.drew = w82 at HO_4 HO_5 HO_6 HO_125 HO_126 BK123 HB hHeld ⊢
     refine Z.pv 1 110 15 2 HT_.out ?_
     refine Z.t3 0 109 15 3 HT_.out HW_.out hHeld ?_
     refine one_ (i := 2) (N := some 111) (Z.mb 15 7) rfl rfl (one_of HT_.out (by kernel_rfl)) (by decide) (fun K hK => ?_)
     refine goes_ Try.func16 (by kernel_rfl) rfl #[.agg #[.int .i64 t129, .slice Ao12 t128.length co12, .slice Ao13 t131.length co13], .slice Ao14 t132.length co14] (by rfl) rfl rfl Z.ar ?_
     with_reducible refine (spec_StateOk.calls kj52 t129 _ _ t128 _ _ t131 _ _ t132 true _ ?q1 ?q2 ?q3 ?q4 ?q5 ?q6 A63.out).mono ?_
     (case q1 => exact (Kd.R_reads' HO_125.out).2.2)
     (case q2 => exact (Kd.R_reads' HO_125.out).2.1)
     (case q3 => exact (Kd.R_reads' HO_126.out).2.2)
     (case q4 => exact (Kd.R_reads' HO_126.out).2.1)
     (case q5 => exact (Kd.R_reads' HO_4.out).2.2)
     (case q6 => exact (Kd.R_reads' HO_4.out).2.1)
     rintro e w83 ⟨rfl, hb⟩
     refine ⟨_, rfl, ?_⟩
     replace HO_4 := Z.rb HO_4 hb
     replace HO_5 := Z.rb HO_5 hb
     replace HO_6 := Z.rb HO_6 hb
     replace HO_125 := Z.rb HO_125 hb
     replace HO_126 := Z.rb HO_126 hb
     replace BK123 := Z.bb BK123 hb
     replace HB := Z.st (Z.bs HB.out GE123.out) hb
     (try clear hb)
     refine hK.out _ _ ⟨Z.b BK123 0, Z.b BK123 1, Z.b BK123 2⟩ (fun hHeld => ?_)
     clear hK K
     refine Z.nm ?_
     refine Z.pv 3 112 15 15 HT_.out ?_
     refine Z.pv 5 114 15 47 HT_.out ?_
     refine Z.pv 6 115 15 111 HT_.out ?_
     refine Z.pv 7 116 15 239 HT_.out ?_
     refine Z.pv 8 117 15 495 HT_.out ?_
     refine Z.t3 4 113 15 511 HT_.out HW_.out hHeld ?_
     refine Z.t3 9 118 15 1023 HT_.out HW_.out hHeld ?_
     refine Z.pv 10 119 15 2047 HT_.out ?_
     refine Z.pv 11 120 15 4095 HT_.out ?_
     refine one_ (i := 12) (N := some 121) (Z.mb 15 8191) rfl rfl (one_of HT_.out (by kernel_rfl)) (by decide) (fun K hK => ?_)
     refine goes_ Try.func22 (by kernel_rfl) rfl #[.agg #[.int .i64 t129, .slice Ao12 t128.length co12, .slice Ao13 t131.length co13], .slice Ao14 t132.length co14, .slice Ao15 t133.length co15, .int .i64 (wrap64 ((ji66) - 1))] (by rfl) rfl rfl (by (try simp only [List.map_toArray, List.map_cons, List.map_nil]); rfl) ?_
     with_reducible refine (impl_SafeFor.calls kj52 t129 _ _ t128 _ _ t131 _ _ t132 _ _ t133 (wrap64 ((ji66) - 1)) true _ ?q1 ?q2 ?q3 ?q4 ?q5 ?q6 ?q7 ?q8 A67.out).mono ?_
     (case q1 => exact (Kd.R_reads' HO_125.out).2.2)
     (case q2 => exact (Kd.R_reads' HO_125.out).2.1)
     (case q3 => exact (Kd.R_reads' HO_126.out).2.2)
     (case q4 => exact (Kd.R_reads' HO_126.out).2.1)
     (case q5 => exact (Kd.R_reads' HO_4.out).2.2)
     (case q6 => exact (Kd.R_reads' HO_4.out).2.1)
     (case q7 => exact (Kd.R_reads' HO_5.out).2.2)
     (case q8 => exact (Kd.R_reads' HO_5.out).2.1)
     rintro e w84 ⟨rfl, hb⟩
     refine ⟨_, rfl, ?_⟩
     replace HO_4 := Z.rb HO_4 hb
     replace HO_5 := Z.rb HO_5 hb
     replace HO_6 := Z.rb HO_6 hb
     replace HO_125 := Z.rb HO_125 hb
     replace HO_126 := Z.rb HO_126 hb
     replace BK123 := Z.bb BK123 hb
     replace HB := Z.st (Z.bs HB.out GE123.out) hb
     (try clear hb)
     refine hK.out _ _ ⟨Z.b BK123 0, Z.b BK123 1, Z.b BK123 2⟩ (fun hHeld => ?_)
     clear hK K
     refine Z.nm ?_
     refine Z.pv 13 122 15 16383 HT_.out ?_
     refine Z.pv 14 14 15 32767 HT_.out ?_
     refine done_ (done_of HT_.out (by kernel_rfl)) ?_
     try go_wp2_with (((with_reducible refine gate_callee (f := 39) rfl ?_); refine goesL_ (some 124) rfl rfl Try.func39 (by kernel_rfl) rfl #[.slice Ao19 t130.length co19] rfl Z.ar ?_; (with_reducible refine (laws_ascend.calls kj52 _ _ t130 true _ ?q1 ?q2 A68.out).mono ?_); (case q1 => exact (Kd.R_reads' HO_6.out).2.2); (case q2 => exact (Kd.R_reads' HO_6.out).2.1); rintro e w' ⟨rfl, ⟨nd, rfl⟩⟩; refine ⟨_, rfl, ?_⟩))
     all_goals (first | (exfalso; rename_i hn_; have hx_ := c70b0; cases hb_ : x13_52 <;> simp only [hb_, beq_iff_eq, beq_eq_false_iff_ne, ne_eq, decide_eq_true_eq, decide_eq_false_iff_not, decide_eq_decide, not_true_eq_false, not_false_eq_true, Bool.not_eq_true, Bool.not_eq_false, gt_iff_lt, ge_iff_le, reduceCtorEq] at hx_ hn_ <;> omega; done) | (go_ret; exact ⟨by rfl, Z.bs HB.out GE123.out⟩))
     skip
    rw [if_pos c72] at H
    have c72b0 : ((t130.length : Int) == 1) = true := beq_iff_eq.mpr c72
    have c72b1 : ((t130.length : Int) != 1) = false := bne_eq_false_iff_eq.mpr c72
    clear c72
    obtain ⟨c73, H⟩ := Z.ifp H
    have c73b0 : decide (0 < (t130.length : Int)) = true := decide_eq_true c73
    have c73b1 : decide (0 < t130.length) = true := decide_eq_true (by omega)
    clear c73
    by_cases c74 : (rd t130 0) = 0
    ·rw [if_pos c74] at H
     have c74b0 : ((rd t130 0) == 0) = true := beq_iff_eq.mpr c74
     have c74b1 : ((rd t130 0) != 0) = false := bne_eq_false_iff_eq.mpr c74
     clear c74
     revert H; refine Z.bd ?_; rintro t157 A75 H
     obtain rfl := Option.some.inj H
     try go_wp2
     replace HO_4 := Z.k (Kd.R_drew HO_4.out)
     replace HO_5 := Z.k (Kd.R_drew HO_5.out)
     replace HO_6 := Z.k (Kd.R_drew HO_6.out)
     replace HO_125 := Z.k (Kd.R_drew HO_125.out)
     replace HO_126 := Z.k (Kd.R_drew HO_126.out)
     replace BK123 := Z.k (blk_drew BK123.out)
     replace HB := Z.k (below_drew1 HB.out)
     refine start_ (n := 15) (S := fun w' => w'.cell? ⟨gb123, 0, none⟩ = some (.int .i64 t129) ∧ w'.cell? ⟨gb123, 1, none⟩ = some (.slice Ao12 t128.length co12) ∧ w'.cell? ⟨gb123, 2, none⟩ = some (.slice Ao13 t131.length co13)) (ds := []) (Z.mb 15 0) (by kernel_rfl) rfl rfl ⟨Z.b BK123 0, Z.b BK123 1, Z.b BK123 2⟩ (fun hHeld => ?_); refine with_tabW laws_FnGuardsOf.tab28 laws_FnGuardsOf.bits28 (fun HT_ HW_ => ?_)
     generalize wc.drew = w76 at HO_4 HO_5 HO_6 HO_125 HO_126 BK123 HB hHeld ⊢
     refine Z.pv 1 110 15 2 HT_.out ?_
     refine Z.t3 0 109 15 3 HT_.out HW_.out hHeld ?_
     refine one_ (i := 2) (N := some 111) (Z.mb 15 7) rfl rfl (one_of HT_.out (by kernel_rfl)) (by decide) (fun K hK => ?_)
     refine goes_ Try.func16 (by kernel_rfl) rfl #[.agg #[.int .i64 t129, .slice Ao12 t128.length co12, .slice Ao13 t131.length co13], .slice Ao14 t132.length co14] (by rfl) rfl rfl Z.ar ?_
     with_reducible refine (spec_StateOk.calls kj52 t129 _ _ t128 _ _ t131 _ _ t132 true _ ?q1 ?q2 ?q3 ?q4 ?q5 ?q6 A63.out).mono ?_
     (case q1 => exact (Kd.R_reads' HO_125.out).2.2)
     (case q2 => exact (Kd.R_reads' HO_125.out).2.1)
     (case q3 => exact (Kd.R_reads' HO_126.out).2.2)
     (case q4 => exact (Kd.R_reads' HO_126.out).2.1)
     (case q5 => exact (Kd.R_reads' HO_4.out).2.2)
     (case q6 => exact (Kd.R_reads' HO_4.out).2.1)
     rintro e w77 ⟨rfl, hb⟩
     refine ⟨_, rfl, ?_⟩
     replace HO_4 := Z.rb HO_4 hb
     replace HO_5 := Z.rb HO_5 hb
     replace HO_6 := Z.rb HO_6 hb
     replace HO_125 := Z.rb HO_125 hb
     replace HO_126 := Z.rb HO_126 hb
     replace BK123 := Z.bb BK123 hb
     replace HB := Z.st (Z.bs HB.out GE123.out) hb
     (try clear hb)
     refine hK.out _ _ ⟨Z.b BK123 0, Z.b BK123 1, Z.b BK123 2⟩ (fun hHeld => ?_)
     clear hK K
     refine Z.nm ?_
     refine Z.pv 3 112 15 15 HT_.out ?_
     refine Z.pv 5 114 15 47 HT_.out ?_
     refine Z.pv 6 115 15 111 HT_.out ?_
     refine Z.pv 7 116 15 239 HT_.out ?_
     refine Z.pv 8 117 15 495 HT_.out ?_
     refine Z.t3 4 113 15 511 HT_.out HW_.out hHeld ?_
     refine Z.t3 9 118 15 1023 HT_.out HW_.out hHeld ?_
     refine Z.pv 10 119 15 2047 HT_.out ?_
     refine Z.pv 11 120 15 4095 HT_.out ?_
     refine one_ (i := 12) (N := some 121) (Z.mb 15 8191) rfl rfl (one_of HT_.out (by kernel_rfl)) (by decide) (fun K hK => ?_)
     refine goes_ Try.func22 (by kernel_rfl) rfl #[.agg #[.int .i64 t129, .slice Ao12 t128.length co12, .slice Ao13 t131.length co13], .slice Ao14 t132.length co14, .slice Ao15 t133.length co15, .int .i64 (wrap64 ((ji66) - 1))] (by rfl) rfl rfl (by (try simp only [List.map_toArray, List.map_cons, List.map_nil]); rfl) ?_
     with_reducible refine (impl_SafeFor.calls kj52 t129 _ _ t128 _ _ t131 _ _ t132 _ _ t133 (wrap64 ((ji66) - 1)) true _ ?q1 ?q2 ?q3 ?q4 ?q5 ?q6 ?q7 ?q8 A67.out).mono ?_
     (case q1 => exact (Kd.R_reads' HO_125.out).2.2)
     (case q2 => exact (Kd.R_reads' HO_125.out).2.1)
     (case q3 => exact (Kd.R_reads' HO_126.out).2.2)
     (case q4 => exact (Kd.R_reads' HO_126.out).2.1)
     (case q5 => exact (Kd.R_reads' HO_4.out).2.2)
     (case q6 => exact (Kd.R_reads' HO_4.out).2.1)
     (case q7 => exact (Kd.R_reads' HO_5.out).2.2)
     (case q8 => exact (Kd.R_reads' HO_5.out).2.1)
     rintro e w78 ⟨rfl, hb⟩
     refine ⟨_, rfl, ?_⟩
     replace HO_4 := Z.rb HO_4 hb
     replace HO_5 := Z.rb HO_5 hb
     replace HO_6 := Z.rb HO_6 hb
     replace HO_125 := Z.rb HO_125 hb
     replace HO_126 := Z.rb HO_126 hb
     replace BK123 := Z.bb BK123 hb
     replace HB := Z.st (Z.bs HB.out GE123.out) hb
     (try clear hb)
     refine hK.out _ _ ⟨Z.b BK123 0, Z.b BK123 1, Z.b BK123 2⟩ (fun hHeld => ?_)
     clear hK K
     refine Z.nm ?_
     refine Z.pv 13 122 15 16383 HT_.out ?_
     refine Z.pv 14 14 15 32767 HT_.out ?_
     refine done_ (done_of HT_.out (by kernel_rfl)) ?_
     try go_wp2_with (first | ((with_reducible refine gate_callee (f := 39) rfl ?_); refine goesL_ (some 124) rfl rfl Try.func39 (by kernel_rfl) rfl #[.slice Ao19 t130.length co19] rfl Z.ar ?_; (with_reducible refine (laws_ascend.calls kj52 _ _ t130 true _ ?q1 ?q2 A68.out).mono ?_); (case q1 => exact (Kd.R_reads' HO_6.out).2.2); (case q2 => exact (Kd.R_reads' HO_6.out).2.1); rintro e w' ⟨rfl, ⟨nd, rfl⟩⟩; refine ⟨_, rfl, ?_⟩; have p140 : 0 ≤ (0 : Int) := (by omega); have q140 : 0 < (t130.length : Int) := Z.od; obtain ⟨ad140, e140, hx140_0⟩ := Kd.at_int (Kd.R_reads' HO_6.out).2.2 0 p140 q140; cases e140; have qi140 : (0 < t130.length) = True := eq_true (by omega); (try rw [show ((0 : Int)).toNat = 0 from rfl] at hx140_0); (try rw [Addr.add_zero'] at hx140_0); replace p140 := eq_true p140; replace q140 := eq_true q140) | (go_at_call 18; (with_reducible refine (laws_alive.calls  t157 _ A75.out).mono ?_); rintro e w' ⟨rfl, ⟨nd, rfl⟩⟩))
     all_goals (first | (exfalso; rename_i hn_; have hx_ := c70b0; (try simp only [beq_iff_eq] at c72b0); cases hb_ : x13_52 <;> simp only [hb_, beq_iff_eq, beq_eq_false_iff_ne, ne_eq, decide_eq_true_eq, decide_eq_false_iff_not, decide_eq_decide, not_true_eq_false, not_false_eq_true, Bool.not_eq_true, Bool.not_eq_false, gt_iff_lt, ge_iff_le, reduceCtorEq] at hx_ hn_ <;> omega; done) | (go_ret; exact ⟨by rfl, Z.bs HB.out GE123.out⟩))
     skip
    rw [if_neg c74] at H
    have c74b0 : ((rd t130 0) == 0) = false := beq_eq_false_iff_ne.mpr c74
    have c74b1 : ((rd t130 0) != 0) = true := bne_iff_ne.mpr c74
    obtain rfl := Option.some.inj H
    try go_wp2
    replace HO_4 := Z.k (Kd.R_drew HO_4.out)
    replace HO_5 := Z.k (Kd.R_drew HO_5.out)
    replace HO_6 := Z.k (Kd.R_drew HO_6.out)
    replace HO_125 := Z.k (Kd.R_drew HO_125.out)
    replace HO_126 := Z.k (Kd.R_drew HO_126.out)
    replace BK123 := Z.k (blk_drew BK123.out)
    replace HB := Z.k (below_drew1 HB.out)
    refine start_ (n := 15) (S := fun w' => w'.cell? ⟨gb123, 0, none⟩ = some (.int .i64 t129) ∧ w'.cell? ⟨gb123, 1, none⟩ = some (.slice Ao12 t128.length co12) ∧ w'.cell? ⟨gb123, 2, none⟩ = some (.slice Ao13 t131.length co13)) (ds := []) (Z.mb 15 0) (by kernel_rfl) rfl rfl ⟨Z.b BK123 0, Z.b BK123 1, Z.b BK123 2⟩ (fun hHeld => ?_); refine with_tabW laws_FnGuardsOf.tab28 laws_FnGuardsOf.bits28 (fun HT_ HW_ => ?_)
    generalize wc.drew = w79 at HO_4 HO_5 HO_6 HO_125 HO_126 BK123 HB hHeld ⊢
    refine Z.pv 1 110 15 2 HT_.out ?_
    refine Z.t3 0 109 15 3 HT_.out HW_.out hHeld ?_
    refine one_ (i := 2) (N := some 111) (Z.mb 15 7) rfl rfl (one_of HT_.out (by kernel_rfl)) (by decide) (fun K hK => ?_)
    refine goes_ Try.func16 (by kernel_rfl) rfl #[.agg #[.int .i64 t129, .slice Ao12 t128.length co12, .slice Ao13 t131.length co13], .slice Ao14 t132.length co14] (by rfl) rfl rfl Z.ar ?_
    with_reducible refine (spec_StateOk.calls kj52 t129 _ _ t128 _ _ t131 _ _ t132 true _ ?q1 ?q2 ?q3 ?q4 ?q5 ?q6 A63.out).mono ?_
    (case q1 => exact (Kd.R_reads' HO_125.out).2.2)
    (case q2 => exact (Kd.R_reads' HO_125.out).2.1)
    (case q3 => exact (Kd.R_reads' HO_126.out).2.2)
    (case q4 => exact (Kd.R_reads' HO_126.out).2.1)
    (case q5 => exact (Kd.R_reads' HO_4.out).2.2)
    (case q6 => exact (Kd.R_reads' HO_4.out).2.1)
    rintro e w80 ⟨rfl, hb⟩
    refine ⟨_, rfl, ?_⟩
    replace HO_4 := Z.rb HO_4 hb
    replace HO_5 := Z.rb HO_5 hb
    replace HO_6 := Z.rb HO_6 hb
    replace HO_125 := Z.rb HO_125 hb
    replace HO_126 := Z.rb HO_126 hb
    replace BK123 := Z.bb BK123 hb
    replace HB := Z.st (Z.bs HB.out GE123.out) hb
    (try clear hb)
    refine hK.out _ _ ⟨Z.b BK123 0, Z.b BK123 1, Z.b BK123 2⟩ (fun hHeld => ?_)
    clear hK K
    refine Z.nm ?_
    refine Z.pv 3 112 15 15 HT_.out ?_
    refine Z.pv 5 114 15 47 HT_.out ?_
    refine Z.pv 6 115 15 111 HT_.out ?_
    refine Z.pv 7 116 15 239 HT_.out ?_
    refine Z.pv 8 117 15 495 HT_.out ?_
    refine Z.t3 4 113 15 511 HT_.out HW_.out hHeld ?_
    refine Z.t3 9 118 15 1023 HT_.out HW_.out hHeld ?_
    refine Z.pv 10 119 15 2047 HT_.out ?_
    refine Z.pv 11 120 15 4095 HT_.out ?_
    refine one_ (i := 12) (N := some 121) (Z.mb 15 8191) rfl rfl (one_of HT_.out (by kernel_rfl)) (by decide) (fun K hK => ?_)
    refine goes_ Try.func22 (by kernel_rfl) rfl #[.agg #[.int .i64 t129, .slice Ao12 t128.length co12, .slice Ao13 t131.length co13], .slice Ao14 t132.length co14, .slice Ao15 t133.length co15, .int .i64 (wrap64 ((ji66) - 1))] (by rfl) rfl rfl (by (try simp only [List.map_toArray, List.map_cons, List.map_nil]); rfl) ?_
    with_reducible refine (impl_SafeFor.calls kj52 t129 _ _ t128 _ _ t131 _ _ t132 _ _ t133 (wrap64 ((ji66) - 1)) true _ ?q1 ?q2 ?q3 ?q4 ?q5 ?q6 ?q7 ?q8 A67.out).mono ?_
    (case q1 => exact (Kd.R_reads' HO_125.out).2.2)
    (case q2 => exact (Kd.R_reads' HO_125.out).2.1)
    (case q3 => exact (Kd.R_reads' HO_126.out).2.2)
    (case q4 => exact (Kd.R_reads' HO_126.out).2.1)
    (case q5 => exact (Kd.R_reads' HO_4.out).2.2)
    (case q6 => exact (Kd.R_reads' HO_4.out).2.1)
    (case q7 => exact (Kd.R_reads' HO_5.out).2.2)
    (case q8 => exact (Kd.R_reads' HO_5.out).2.1)
    rintro e w81 ⟨rfl, hb⟩
    refine ⟨_, rfl, ?_⟩
    replace HO_4 := Z.rb HO_4 hb
    replace HO_5 := Z.rb HO_5 hb
    replace HO_6 := Z.rb HO_6 hb
    replace HO_125 := Z.rb HO_125 hb
    replace HO_126 := Z.rb HO_126 hb
    replace BK123 := Z.bb BK123 hb
    replace HB := Z.st (Z.bs HB.out GE123.out) hb
    (try clear hb)
    refine hK.out _ _ ⟨Z.b BK123 0, Z.b BK123 1, Z.b BK123 2⟩ (fun hHeld => ?_)
    clear hK K
    refine Z.nm ?_
    refine Z.pv 13 122 15 16383 HT_.out ?_
    refine Z.pv 14 14 15 32767 HT_.out ?_
    refine done_ (done_of HT_.out (by kernel_rfl)) ?_
    try go_wp2_with (((with_reducible refine gate_callee (f := 39) rfl ?_); refine goesL_ (some 124) rfl rfl Try.func39 (by kernel_rfl) rfl #[.slice Ao19 t130.length co19] rfl Z.ar ?_; (with_reducible refine (laws_ascend.calls kj52 _ _ t130 true _ ?q1 ?q2 A68.out).mono ?_); (case q1 => exact (Kd.R_reads' HO_6.out).2.2); (case q2 => exact (Kd.R_reads' HO_6.out).2.1); rintro e w' ⟨rfl, ⟨nd, rfl⟩⟩; refine ⟨_, rfl, ?_⟩; have p140 : 0 ≤ (0 : Int) := (by omega); have q140 : 0 < (t130.length : Int) := Z.od; obtain ⟨ad140, e140, hx140_0⟩ := Kd.at_int (Kd.R_reads' HO_6.out).2.2 0 p140 q140; cases e140; have qi140 : (0 < t130.length) = True := eq_true (by omega); (try rw [show ((0 : Int)).toNat = 0 from rfl] at hx140_0); (try rw [Addr.add_zero'] at hx140_0); replace p140 := eq_true p140; replace q140 := eq_true q140))
    all_goals (first | (exfalso; rename_i hn_; have hx_ := c70b0; (try simp only [beq_iff_eq] at c72b0); cases hb_ : x13_52 <;> simp only [hb_, beq_iff_eq, beq_eq_false_iff_ne, ne_eq, decide_eq_true_eq, decide_eq_false_iff_not, decide_eq_decide, not_true_eq_false, not_false_eq_true, Bool.not_eq_true, Bool.not_eq_false, gt_iff_lt, ge_iff_le, reduceCtorEq] at hx_ hn_ <;> omega; done) | (go_ret; exact ⟨by rfl, Z.bs HB.out GE123.out⟩))
    skip
/-- THE ONE PURE STATEMENT of laws_FnGuardsOf: yours. -/
def laws_FnGuardsOf.Pure : Prop := ∀ (l0 : List Int), l0.length ≤ maxLen → l0.length * 1 ≤ 140737488351232 → (∀ x ∈ l0, (Lit.int .u8 x).wf = true) → ∃ k, laws_FnGuardsOf.f k l0 = some true
theorem laws_FnGuardsOf.walk (P : laws_FnGuardsOf.Pure) (a0 : Option Addr) (len0 cap0 : Nat) (z0 : List Int) (w : World) (w0 : (a0 = none ∧ len0 = 0 ∧ cap0 = 0 ∧ z0 = []) ∨ ∃ x, a0 = some x ∧ len0 ≤ cap0 ∧ cap0 ≤ maxLen ∧ z0.length = cap0 ∧ (∀ i, i < z0.length → w.cell? (x.add i) = some (.int .u8 (z0.getD i 0))) ∧ ∀ n ∈ z0, (Lit.int .u8 n).wf = true) (y0 : len0 * 1 ≤ 140737488351232) :
  Calls Try.prog 13 #[.slice a0 len0 cap0] w fun e w' => e = .returned (.bool true) ∧ Below w.heap.size w w' := by
 obtain ⟨l0, rfl, hr0, hm0, hw0, hc0⟩ := ReadsInt.ofRowC w0
 obtain ⟨k, h⟩ := P l0 hm0 y0 hw0
 refine (laws_FnGuardsOf.calls k _ _ l0 true w (Kd.C_of_reads (d := (0 : Int)) (h1 := fun _ => rfl) hr0) hc0 h).mono ?_
 rintro e w' ⟨rfl, hd⟩
 exact ⟨rfl, hd⟩

end Go.Proofs.Ytkogboechfieeaa.PAll

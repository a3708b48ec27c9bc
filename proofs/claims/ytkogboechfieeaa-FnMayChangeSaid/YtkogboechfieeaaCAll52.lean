/- Walks of functions that laws of this seat reach, in the form of the print. -/
import Derived.Test.YtkogboechfieeaaCAll0
import Derived.Test.YtkogboechfieeaaCAll1
import Derived.Test.YtkogboechfieeaaCAll19
import Derived.Test.YtkogboechfieeaaCAll22
import Derived.Test.YtkogboechfieeaaCAll23
import Derived.Test.YtkogboechfieeaaCAll43
import Derived.Test.YtkogboechfieeaaCAll6
import Derived.Test.YtkogboechfieeaaCAll72
import Derived.Test.YtkogboechfieeaaZ
-- PRINTED
namespace Go.Proofs.Ytkogboechfieeaa.PAll
open Go.RowKit Go.Proofs.YtkogboechfieeaaW.PrintWords Go.Proofs.YtkogboechfieeaaW.PrintLast Go.Proofs.YtkogboechfieeaaW.PrintMore
attribute [local go_sem] max2_int min2_int max_two min_two max_three min_three max_four min_four
set_option linter.unusedVariables false
set_option linter.unusedSimpArgs false

/-! ### laws_FnMayChange: function 5 -/
def laws_FnMayChange.l0 : Nat → List Int → Int → Int → Int → Int → Int → List Int → List (List (S37)) → Option (Bool)
 | 0, _, _, _, _, _, _, _, _ => none
 | k + 1, x4, x5, x6, x7, x9, x715000, x715001, x715002 => if x9 < x715000 then (if 0 ≤ x9 then ((impl_MayChange.f k x715000 x715001 x715002 x4 x5 x6 (Go.bits .or .i64 x7 (shl .i64 1 x9))).bind fun t718 => (if t718 = true then (laws_FnMayChange.l0 k x4 x5 x6 x7 (wrap64 (x9 + 1)) x715000 x715001 x715002) else (some false))) else (none)) else ((some (([] : List Int) : List Int)).bind fun y719 => (if y719.length + x4.length < 17592186044416 then ((some (y719 ++ x4 : List Int)).bind fun y722 => (if 0 ≤ x5 then (if x5 < (y722.length : Int) then ((some (y722.set (x5 : Int).toNat x6 : List Int)).bind fun y725 => ((impl_ReachOf.f k x715000 x715001 x715002 x4 x7).bind fun t726 => ((impl_StateNumber.f k x715000 x715001 x715002 y725).bind fun t729 => ((laws_hasInt.f k t726 t729).bind fun t730 => (if t730 = true then (if x5 < (x715002.length : Int) then (if ((rd_L5 x715002 x5).length : Int) > 1 then ((impl_ChangesTo.f k x715000 x715001 x715002 x4 y725 x7).bind fun t732 => (some (t732 == 1))) else (some false)) else (none)) else (some false)))))) else (none)) else (none))) else (none)))
def laws_FnMayChange.f (k : Nat) (l0 : List Int) : Option (Bool) := if (l0.length : Int) > 1048576 then (some true) else ((spec_DrawMayChange.f k l0).bind fun bt701 => ((impl_MayChange.f k bt701.1 bt701.2.1 bt701.2.2.1 bt701.2.2.2.1 bt701.2.2.2.2.1 bt701.2.2.2.2.2.1 bt701.2.2.2.2.2.2).bind fun t715 => ((spec_MayChange.f k bt701.1 bt701.2.1 bt701.2.2.1 bt701.2.2.2.1 bt701.2.2.2.2.1 bt701.2.2.2.2.2.1 bt701.2.2.2.2.2.2).bind fun t716 => (if (t715 != t716) = true then (some false) else (if t715 = true then (laws_FnMayChange.l0 k bt701.2.2.2.1 bt701.2.2.2.2.1 bt701.2.2.2.2.2.1 bt701.2.2.2.2.2.2 0 bt701.1 bt701.2.1 bt701.2.2.1) else ((laws_alive.f).bind fun t717 => (some t717)))))))
def laws_FnMayChange.T12 : Bool × List (List Nat × List Nat) := (true, [([], []), ([], []), ([], []), ([], []), ([], []), ([], []), ([5], [5]), ([4, 6], [4, 6]), ([0, 1, 2, 3, 7], [0, 1, 2, 3, 7]), ([8], [8])])
def laws_FnMayChange.B12 : List Nat := [0, 0, 0, 0, 0, 0, 32, 112, 255, 511]
theorem laws_FnMayChange.tab12 : rtab .any (opsOf Try.f5 12) = laws_FnMayChange.T12 := by kernel_rfl
theorem laws_FnMayChange.bits12 : waitsOk laws_FnMayChange.T12.2 laws_FnMayChange.B12 = true := by kernel_rfl
def laws_FnMayChange.T16 : Bool × List (List Nat × List Nat) := (true, [([], []), ([], []), ([], []), ([0, 1, 2], [0, 1, 2]), ([], []), ([], []), ([4, 5, 3], [4, 5]), ([3, 6, 6], [3, 6]), ([7, 7], [7]), ([8], [8]), ([9, 8], [8, 9]), ([8], [8]), ([10, 11, 8], [8, 10, 11]), ([12, 8], [8, 12]), ([13, 8], [8, 13]), ([14, 8], [8, 14]), ([8, 15], [8, 15]), ([16, 8], [16]), ([17], [17]), ([17], [17]), ([17], [17]), ([17], [17]), ([18, 19, 20, 21, 17, 17], [17, 18, 19, 20, 21]), ([22, 17], [17, 22]), ([17, 23], [17, 23]), ([24, 22, 0, 1, 2, 3, 4, 5, 6, 7, 8, 9, 10, 11, 12, 13, 14, 15, 16, 17, 18, 19, 20, 21, 22, 23, 24], [24])])
def laws_FnMayChange.B16 : List Nat := [0, 0, 0, 7, 0, 0, 63, 127, 255, 511, 1023, 511, 4095, 8191, 16383, 32767, 65535, 131071, 262143, 262143, 262143, 262143, 4194303, 8388607, 16777215, 33554431]
theorem laws_FnMayChange.tab16 : rtab .any (opsOf Try.f5 16) = laws_FnMayChange.T16 := by kernel_rfl
theorem laws_FnMayChange.bits16 : waitsOk laws_FnMayChange.T16.2 laws_FnMayChange.B16 = true := by kernel_rfl
set_option maxHeartbeats 8000000 in
set_option maxRecDepth 100000 in
theorem laws_FnMayChange.calls (k : Nat) (A0 : Option Addr) (c0 : Nat) (l0 : List Int) (r : Bool) (w : World) (hr0 : Kd.C (Kd.int .u8) w A0 l0.length l0) (hc0 : l0.length ≤ c0) (h : laws_FnMayChange.f k l0 = some r) :
  Calls Try.prog 5 #[.slice A0 l0.length c0] w fun e w' => e = .returned (.bool r) ∧ Below w.heap.size w w' := by
 have hu28 := Try.underlying28
 have HR0 := Z.k hr0
 have HC0 := Z.k hc0
 clear hr0 hc0
 have HB := Z.k (Below.refl w.heap.size w)
 have H := h
 clear h
 unfold laws_FnMayChange.f at H
 by_cases c2 : (l0.length : Int) > 1048576
 ·rw [if_pos c2] at H
  have c2b0 : decide (1048576 < (l0.length : Int)) = true := decide_eq_true c2
  have c2b1 : decide (1048576 < l0.length) = true := decide_eq_true (by omega)
  clear c2
  obtain rfl := Option.some.inj H
  go_enter Try.func5, Try.ntmps5
  go_wp2
  go_ret
  exact ⟨by rfl, Z.bl HB.out⟩
 ·rw [if_neg c2] at H
  have c2b0 : decide (1048576 < (l0.length : Int)) = false := decide_eq_false c2
  have c2b1 : decide (1048576 < l0.length) = false := decide_eq_false (by omega)
  clear c2
  replace H := Option.bind_eq_some_iff.mp H
  obtain ⟨⟨t701, t702, t705, t708, t711, t712, t713⟩, A30, H⟩ := H
  try dsimp only at H
  have A3 := Z.k A30
  clear A30
  replace H := Option.bind_eq_some_iff.mp H
  obtain ⟨t715, A40, H⟩ := H
  have A4 := Z.k A40
  clear A40
  replace H := Option.bind_eq_some_iff.mp H
  obtain ⟨t716, A50, H⟩ := H
  have A5 := Z.k A50
  clear A50
  by_cases c6 : (t715 != t716) = true
  ·rw [if_pos c6] at H
   have c6b0 : (t715 != t716) = true := c6
   (try (have c6b4 : (!t715 == t716) = true := (by decide : ∀ a b : Bool, (a != b) = true → (!a == b) = true) _ _ c6b0))
   (try (have c6b1 : decide (t715 = t716) = false := by simpa using c6))
   (try (have c6b2 : (t715 == t716) = false := by simpa using c6))
   (try (have c6b3 : ¬ (t715 = t716) := by simpa using c6))
   clear c6
   obtain rfl := Option.some.inj H
   go_enter Try.func5, Try.ntmps5
   go_wp2_with (first | ((with_reducible refine gate_callee (f := 25) rfl ?_); refine goesL_ (some 16) rfl rfl Try.func25 (by kernel_rfl) rfl #[.slice A0 l0.length c0] rfl Z.ar ?_; (with_reducible refine (spec_DrawMayChange.calls k _ _ l0 t701 t702 t705 t708 t711 t712 t713 _ ?q1 ?q2 A3.out).mono ?_); (case q1 => exact HR0.out); (case q2 => exact HC0.out); rintro e w7 ⟨v703, v706, v709, rfl, ho0, ho1, ho2, hb⟩; refine ⟨_, rfl, ?_⟩; have HO704 := Z.k (Kd.R_lower ho0 (below_size (Z.bl HB.out))); have HO707 := Z.k (Kd.R_lower ho1 (below_size (Z.bl HB.out))); have HO710 := Z.k (Kd.R_lower ho2 (below_size (Z.bl HB.out))); replace HB := Z.st (Z.bl HB.out) hb; (try clear hb); (try clear ho0); (try clear ho1); (try clear ho2)) | ((with_reducible refine gate_dst (N := 3) rfl ?_); (try (refine gate_guard (by rfl) ?_; dsimp only)); refine Z.bx #[.int .i64 0, .slice none 0 0, .slice none 0 0] 28 HB ?_; clear HB; intro gb714 w8 BK714 GE714 HB hg hb; have GW714 := GE714; replace HO704 := Z.k (Kd.R_below HO704.out hb); replace HO707 := Z.k (Kd.R_below HO707.out hb); replace HO710 := Z.k (Kd.R_below HO710.out hb); clear hb hg; have hcz9 := Z.c3 BK714.out; obtain ⟨Ao10, co10, eo10⟩ := Kd.R_slice HO704.out; subst eo10; obtain ⟨Ao11, co11, eo11⟩ := Kd.R_slice HO707.out; subst eo11; obtain ⟨Ao12, co12, eo12⟩ := Kd.R_slice HO710.out; subst eo12) | ((with_reducible refine gate_callee (f := 26) rfl ?_); refine goesL_ (some 27) rfl rfl Try.func26 (by kernel_rfl) rfl #[.agg #[.int .i64 t701, .slice Ao10 t702.length co10, .slice Ao11 t705.length co11], .slice Ao12 t708.length co12, .int .i64 t711, .int .i64 t712, .int .i64 t713] rfl Z.ar ?_; (with_reducible refine (impl_MayChange.calls k t701 _ _ t702 _ _ t705 _ _ t708 t711 t712 t713 t715 _ ?q1 ?q2 ?q3 ?q4 ?q5 ?q6 A4.out).mono ?_); (case q1 => refine (Kd.R_reads' (e := 3) (base := w.heap.size) (ok := fun k_ => some k_ ≠ (.slice Ao12 t708.length co12 : Value).ownBlock) (n := t702.length) (c := co10) ?_).2.2; exact (Kd.R_mono (Kd.R_far (p := ⟨gb714, 2, none⟩) (Kd.R_far (p := ⟨gb714, 1, none⟩) (Kd.R_far (p := ⟨gb714, 0, none⟩) (Kd.R_types HO704.out BK714.out (by decide)) (fun _ hk => hk.2) (.int .i64 t701)) (fun _ hk => hk.2) (.slice Ao10 t702.length co10)) (fun _ hk => hk.2) (.slice Ao11 t705.length co11)) (fun _ h_ => h_.1))); (case q2 => exact (Kd.R_reads' HO704.out).2.1); (case q3 => refine (Kd.R_reads' (e := 34) (base := w.heap.size) (ok := fun k_ => True) (n := t705.length) (c := co11) ?_).2.2; exact (Kd.R_mono (Kd.R_far (p := ⟨gb714, 2, none⟩) (Kd.R_far (p := ⟨gb714, 1, none⟩) (Kd.R_far (p := ⟨gb714, 0, none⟩) (Kd.R_types HO707.out BK714.out (by decide)) (fun _ hk => hk.2) (.int .i64 t701)) (fun _ hk => hk.2) (.slice Ao10 t702.length co10)) (fun _ hk => hk.2) (.slice Ao11 t705.length co11)) (fun _ h_ => h_.1))); (case q4 => exact (Kd.R_reads' HO707.out).2.1); (case q5 => refine (Kd.R_reads' (e := 3) (base := w.heap.size) (ok := fun k_ => some k_ ≠ (.slice Ao10 t702.length co10 : Value).ownBlock) (n := t708.length) (c := co12) ?_).2.2; exact (Kd.R_mono (Kd.R_far (p := ⟨gb714, 2, none⟩) (Kd.R_far (p := ⟨gb714, 1, none⟩) (Kd.R_far (p := ⟨gb714, 0, none⟩) (Kd.R_types HO710.out BK714.out (by decide)) (fun _ hk => hk.2) (.int .i64 t701)) (fun _ hk => hk.2) (.slice Ao10 t702.length co10)) (fun _ hk => hk.2) (.slice Ao11 t705.length co11)) (fun _ h_ => h_.1))); (case q6 => exact (Kd.R_reads' HO710.out).2.1); rintro e w13 ⟨rfl, hb⟩; refine ⟨_, rfl, ?_⟩; replace HO704 := Z.k (Kd.R_below (Kd.R_mono (Kd.R_far (p := ⟨gb714, 2, none⟩) (Kd.R_far (p := ⟨gb714, 1, none⟩) (Kd.R_far (p := ⟨gb714, 0, none⟩) (Kd.R_types HO704.out BK714.out (by decide)) (fun _ hk => hk.2) (.int .i64 t701)) (fun _ hk => hk.2) (.slice Ao10 t702.length co10)) (fun _ hk => hk.2) (.slice Ao11 t705.length co11)) (fun _ h_ => h_.1)) hb); replace HO707 := Z.k (Kd.R_below (Kd.R_mono (Kd.R_far (p := ⟨gb714, 2, none⟩) (Kd.R_far (p := ⟨gb714, 1, none⟩) (Kd.R_far (p := ⟨gb714, 0, none⟩) (Kd.R_types HO707.out BK714.out (by decide)) (fun _ hk => hk.2) (.int .i64 t701)) (fun _ hk => hk.2) (.slice Ao10 t702.length co10)) (fun _ hk => hk.2) (.slice Ao11 t705.length co11)) (fun _ h_ => h_.1)) hb); replace HO710 := Z.k (Kd.R_below (Kd.R_mono (Kd.R_far (p := ⟨gb714, 2, none⟩) (Kd.R_far (p := ⟨gb714, 1, none⟩) (Kd.R_far (p := ⟨gb714, 0, none⟩) (Kd.R_types HO710.out BK714.out (by decide)) (fun _ hk => hk.2) (.int .i64 t701)) (fun _ hk => hk.2) (.slice Ao10 t702.length co10)) (fun _ hk => hk.2) (.slice Ao11 t705.length co11)) (fun _ h_ => h_.1)) hb); replace BK714 := Z.k (blk_below (g := gb714) (o := .cells #[.int .i64 t701, .slice Ao10 t702.length co10, .slice Ao11 t705.length co11] 28 (0, 0)) (by refine blk_put (cs := #[.int .i64 t701, .slice Ao10 t702.length co10, .slice none 0 0]) ?_ 2 _ rfl; refine blk_put (cs := #[.int .i64 t701, .slice none 0 0, .slice none 0 0]) ?_ 1 _ rfl; refine blk_put (cs := #[.int .i64 0, .slice none 0 0, .slice none 0 0]) ?_ 0 _ rfl; exact BK714.out) hb); replace HB := Z.st (Z.bs HB.out GE714.out) hb; (try clear hb); have hcz14 := Z.c3 BK714.out) | ((with_reducible refine gate_callee (f := 27) rfl ?_); refine goesL_ (some 34) rfl rfl Try.func27 (by kernel_rfl) rfl #[.agg #[.int .i64 t701, .slice Ao10 t702.length co10, .slice Ao11 t705.length co11], .slice Ao12 t708.length co12, .int .i64 t711, .int .i64 t712, .int .i64 t713] rfl Z.ar ?_; (with_reducible refine (spec_MayChange.calls k t701 _ _ t702 _ _ t705 _ _ t708 t711 t712 t713 t716 _ ?q1 ?q2 ?q3 ?q4 ?q5 ?q6 A5.out).mono ?_); (case q1 => exact (Kd.R_reads' HO704.out).2.2); (case q2 => exact (Kd.R_reads' HO704.out).2.1); (case q3 => exact (Kd.R_reads' HO707.out).2.2); (case q4 => exact (Kd.R_reads' HO707.out).2.1); (case q5 => exact (Kd.R_reads' HO710.out).2.2); (case q6 => exact (Kd.R_reads' HO710.out).2.1); rintro e w15 ⟨rfl, hb⟩; refine ⟨_, rfl, ?_⟩; replace HO704 := Z.k (Kd.R_below HO704.out hb); replace HO707 := Z.k (Kd.R_below HO707.out hb); replace HO710 := Z.k (Kd.R_below HO710.out hb); replace BK714 := Z.bb BK714 hb; replace HB := Z.st (Z.bs HB.out GE714.out) hb; (try clear hb)))
   go_ret
   exact ⟨by rfl, Z.bs HB.out GE714.out⟩
  ·rw [if_neg c6] at H
   have c6b0 : (t715 != t716) = false := by simpa using c6
   (try (have c6b4 : (!t715 == t716) = false := (by decide : ∀ a b : Bool, (a != b) = false → (!a == b) = false) _ _ c6b0))
   (try (have c6b1 : decide (t715 = t716) = true := by simpa using c6))
   (try (have c6b2 : (t715 == t716) = true := by simpa using c6))
   clear c6
   by_cases c16 : t715 = true
   ·subst c16
    rw [if_pos rfl] at H
    have H' := Z.k H
    clear H
    go_enter Try.func5, Try.ntmps5
    go_wp2_with (first | ((with_reducible refine gate_callee (f := 25) rfl ?_); refine goesL_ (some 16) rfl rfl Try.func25 (by kernel_rfl) rfl #[.slice A0 l0.length c0] rfl Z.ar ?_; (with_reducible refine (spec_DrawMayChange.calls k _ _ l0 t701 t702 t705 t708 t711 t712 t713 _ ?q1 ?q2 A3.out).mono ?_); (case q1 => exact HR0.out); (case q2 => exact HC0.out); rintro e w17 ⟨v703, v706, v709, rfl, ho0, ho1, ho2, hb⟩; refine ⟨_, rfl, ?_⟩; have HO704 := Z.k (Kd.R_lower ho0 (below_size (Z.bl HB.out))); have HO707 := Z.k (Kd.R_lower ho1 (below_size (Z.bl HB.out))); have HO710 := Z.k (Kd.R_lower ho2 (below_size (Z.bl HB.out))); replace HB := Z.st (Z.bl HB.out) hb; (try clear hb); (try clear ho0); (try clear ho1); (try clear ho2)) | ((with_reducible refine gate_dst (N := 3) rfl ?_); (try (refine gate_guard (by rfl) ?_; dsimp only)); refine Z.bx #[.int .i64 0, .slice none 0 0, .slice none 0 0] 28 HB ?_; clear HB; intro gb714 w18 BK714 GE714 HB hg hb; have GW714 := GE714; replace HO704 := Z.k (Kd.R_below HO704.out hb); replace HO707 := Z.k (Kd.R_below HO707.out hb); replace HO710 := Z.k (Kd.R_below HO710.out hb); clear hb hg; have hcz19 := Z.c3 BK714.out; obtain ⟨Ao20, co20, eo20⟩ := Kd.R_slice HO704.out; subst eo20; obtain ⟨Ao21, co21, eo21⟩ := Kd.R_slice HO707.out; subst eo21; obtain ⟨Ao22, co22, eo22⟩ := Kd.R_slice HO710.out; subst eo22) | ((with_reducible refine gate_callee (f := 26) rfl ?_); refine goesL_ (some 27) rfl rfl Try.func26 (by kernel_rfl) rfl #[.agg #[.int .i64 t701, .slice Ao20 t702.length co20, .slice Ao21 t705.length co21], .slice Ao22 t708.length co22, .int .i64 t711, .int .i64 t712, .int .i64 t713] rfl Z.ar ?_; (with_reducible refine (impl_MayChange.calls k t701 _ _ t702 _ _ t705 _ _ t708 t711 t712 t713 true _ ?q1 ?q2 ?q3 ?q4 ?q5 ?q6 A4.out).mono ?_); (case q1 => refine (Kd.R_reads' (e := 3) (base := w.heap.size) (ok := fun k_ => some k_ ≠ (.slice Ao22 t708.length co22 : Value).ownBlock) (n := t702.length) (c := co20) ?_).2.2; exact (Kd.R_mono (Kd.R_far (p := ⟨gb714, 2, none⟩) (Kd.R_far (p := ⟨gb714, 1, none⟩) (Kd.R_far (p := ⟨gb714, 0, none⟩) (Kd.R_types HO704.out BK714.out (by decide)) (fun _ hk => hk.2) (.int .i64 t701)) (fun _ hk => hk.2) (.slice Ao20 t702.length co20)) (fun _ hk => hk.2) (.slice Ao21 t705.length co21)) (fun _ h_ => h_.1))); (case q2 => exact (Kd.R_reads' HO704.out).2.1); (case q3 => refine (Kd.R_reads' (e := 34) (base := w.heap.size) (ok := fun k_ => True) (n := t705.length) (c := co21) ?_).2.2; exact (Kd.R_mono (Kd.R_far (p := ⟨gb714, 2, none⟩) (Kd.R_far (p := ⟨gb714, 1, none⟩) (Kd.R_far (p := ⟨gb714, 0, none⟩) (Kd.R_types HO707.out BK714.out (by decide)) (fun _ hk => hk.2) (.int .i64 t701)) (fun _ hk => hk.2) (.slice Ao20 t702.length co20)) (fun _ hk => hk.2) (.slice Ao21 t705.length co21)) (fun _ h_ => h_.1))); (case q4 => exact (Kd.R_reads' HO707.out).2.1); (case q5 => refine (Kd.R_reads' (e := 3) (base := w.heap.size) (ok := fun k_ => some k_ ≠ (.slice Ao20 t702.length co20 : Value).ownBlock) (n := t708.length) (c := co22) ?_).2.2; exact (Kd.R_mono (Kd.R_far (p := ⟨gb714, 2, none⟩) (Kd.R_far (p := ⟨gb714, 1, none⟩) (Kd.R_far (p := ⟨gb714, 0, none⟩) (Kd.R_types HO710.out BK714.out (by decide)) (fun _ hk => hk.2) (.int .i64 t701)) (fun _ hk => hk.2) (.slice Ao20 t702.length co20)) (fun _ hk => hk.2) (.slice Ao21 t705.length co21)) (fun _ h_ => h_.1))); (case q6 => exact (Kd.R_reads' HO710.out).2.1); rintro e w23 ⟨rfl, hb⟩; refine ⟨_, rfl, ?_⟩; replace HO704 := Z.k (Kd.R_below (Kd.R_mono (Kd.R_far (p := ⟨gb714, 2, none⟩) (Kd.R_far (p := ⟨gb714, 1, none⟩) (Kd.R_far (p := ⟨gb714, 0, none⟩) (Kd.R_types HO704.out BK714.out (by decide)) (fun _ hk => hk.2) (.int .i64 t701)) (fun _ hk => hk.2) (.slice Ao20 t702.length co20)) (fun _ hk => hk.2) (.slice Ao21 t705.length co21)) (fun _ h_ => h_.1)) hb); replace HO707 := Z.k (Kd.R_below (Kd.R_mono (Kd.R_far (p := ⟨gb714, 2, none⟩) (Kd.R_far (p := ⟨gb714, 1, none⟩) (Kd.R_far (p := ⟨gb714, 0, none⟩) (Kd.R_types HO707.out BK714.out (by decide)) (fun _ hk => hk.2) (.int .i64 t701)) (fun _ hk => hk.2) (.slice Ao20 t702.length co20)) (fun _ hk => hk.2) (.slice Ao21 t705.length co21)) (fun _ h_ => h_.1)) hb); replace HO710 := Z.k (Kd.R_below (Kd.R_mono (Kd.R_far (p := ⟨gb714, 2, none⟩) (Kd.R_far (p := ⟨gb714, 1, none⟩) (Kd.R_far (p := ⟨gb714, 0, none⟩) (Kd.R_types HO710.out BK714.out (by decide)) (fun _ hk => hk.2) (.int .i64 t701)) (fun _ hk => hk.2) (.slice Ao20 t702.length co20)) (fun _ hk => hk.2) (.slice Ao21 t705.length co21)) (fun _ h_ => h_.1)) hb); replace BK714 := Z.k (blk_below (g := gb714) (o := .cells #[.int .i64 t701, .slice Ao20 t702.length co20, .slice Ao21 t705.length co21] 28 (0, 0)) (by refine blk_put (cs := #[.int .i64 t701, .slice Ao20 t702.length co20, .slice none 0 0]) ?_ 2 _ rfl; refine blk_put (cs := #[.int .i64 t701, .slice none 0 0, .slice none 0 0]) ?_ 1 _ rfl; refine blk_put (cs := #[.int .i64 0, .slice none 0 0, .slice none 0 0]) ?_ 0 _ rfl; exact BK714.out) hb); replace HB := Z.st (Z.bs HB.out GE714.out) hb; (try clear hb); have hcz24 := Z.c3 BK714.out) | ((with_reducible refine gate_callee (f := 27) rfl ?_); refine goesL_ (some 34) rfl rfl Try.func27 (by kernel_rfl) rfl #[.agg #[.int .i64 t701, .slice Ao20 t702.length co20, .slice Ao21 t705.length co21], .slice Ao22 t708.length co22, .int .i64 t711, .int .i64 t712, .int .i64 t713] rfl Z.ar ?_; (with_reducible refine (spec_MayChange.calls k t701 _ _ t702 _ _ t705 _ _ t708 t711 t712 t713 t716 _ ?q1 ?q2 ?q3 ?q4 ?q5 ?q6 A5.out).mono ?_); (case q1 => exact (Kd.R_reads' HO704.out).2.2); (case q2 => exact (Kd.R_reads' HO704.out).2.1); (case q3 => exact (Kd.R_reads' HO707.out).2.2); (case q4 => exact (Kd.R_reads' HO707.out).2.1); (case q5 => exact (Kd.R_reads' HO710.out).2.2); (case q6 => exact (Kd.R_reads' HO710.out).2.1); rintro e w25 ⟨rfl, hb⟩; refine ⟨_, rfl, ?_⟩; replace HO704 := Z.k (Kd.R_below HO704.out hb); replace HO707 := Z.k (Kd.R_below HO707.out hb); replace HO710 := Z.k (Kd.R_below HO710.out hb); replace BK714 := Z.bb BK714 hb; replace HB := Z.st (Z.bs HB.out GE714.out) hb; (try clear hb)))
    go_loopg [9] k (fun kq v9 w' => ∃ (x9_1 : Int), v9 = .int .i64 x9_1 ∧ Aside0 (laws_FnMayChange.l0 kq t708 t711 t712 t713 x9_1 t701 t702 t705 = some r) ∧ Aside0 (kq ≤ k) ∧ Aside0 (Kd.R (Kd.int .i64) 3 w' w.heap.size (fun k_ => some k_ ≠ ((.slice Ao20 t702.length co20) : Value).ownBlock) (.slice Ao22 t708.length co22) t708) ∧ Aside0 (Kd.R (Kd.int .i64) 3 w' w.heap.size (fun k_ => some k_ ≠ ((.slice Ao22 t708.length co22) : Value).ownBlock) (.slice Ao20 t702.length co20) t702) ∧ Aside0 (Kd.R (Kd.slice 37 k37) 34 w' w.heap.size (fun _ => True) (.slice Ao21 t705.length co21) t705) ∧ Aside0 (w'.heap[gb714]? = some (.cells #[.int .i64 t701, (.slice Ao20 t702.length co20), (.slice Ao21 t705.length co21)] 28 (0, 0))) ∧ Aside0 (Below w.heap.size w w'))
    case atStart => exact ⟨(0), (by rfl), H', ⟨Nat.le_refl _⟩, ⟨by exact HO710.out⟩, ⟨by exact HO704.out⟩, ⟨by exact HO707.out⟩, ⟨by exact BK714.out⟩, ⟨Z.bs HB.out GE714.out⟩⟩
    case round =>
     clear H'
     try clear c2b0
     try clear c2b1
     try clear c6b0
     try clear c6b1
     try clear c6b2
     obtain ⟨x9_1, rfl, HA, HK1, HO_4, HO_715001, HO_715002, BK714, HB⟩ := hrel
     cases gk with
     | zero => exact absurd HA.out (by simp [laws_FnMayChange.l0])
     | succ k1 =>
      have H := HA.out
      clear HA
      simp only [laws_FnMayChange.l0] at H
      by_cases c26 : x9_1 < t701
      ·rw [if_pos c26] at H
       have c26b0 := decide_eq_true c26
       clear c26
       obtain ⟨c27, H⟩ := Z.ifp H
       have c27b0 := eq_true c27
       have c27b1 : decide (0 ≤ x9_1) = true := decide_eq_true c27
       clear c27
       obtain ⟨ji28, hji28⟩ : ∃ j_ : Int, (shl .i64 1 x9_1) = j_ := ⟨_, rfl⟩
       replace H : ((impl_MayChange.f k1 t701 t702 t705 t708 t711 t712 (Go.bits .or .i64 t713 (ji28))).bind fun t718 => (if t718 = true then (laws_FnMayChange.l0 k1 t708 t711 t712 t713 (wrap64 (x9_1 + 1)) t701 t702 t705) else (some false))) = some r := by (rw [hji28] at H; exact H)
       have hji28_ : (IntKind.i64.wrap (1 * 2 ^ min x9_1.toNat 64)) = ji28 := hji28
       have hji28z : x9_1 ≤ 64 → (IntKind.i64.wrap (1 * 2 ^ x9_1.toNat)) = ji28 := shl_small hji28
       have hji28u : (IntKind.i64.wrap (2 ^ min x9_1.toNat 64)) = ji28 := by have h_ := hji28_; rw [Int.one_mul] at h_; exact h_
       have hji28v : x9_1 ≤ 64 → (IntKind.i64.wrap (2 ^ x9_1.toNat)) = ji28 := fun hle_ => by have h_ := hji28z hle_; rw [Int.one_mul] at h_; exact h_
       have hji28y : (wrap64 (1 * 2 ^ min x9_1.toNat 64)) = ji28 := (i64_w _).symm.trans hji28_
       have hji28x : x9_1 ≤ 64 → (wrap64 (1 * 2 ^ x9_1.toNat)) = ji28 := fun h_ => (i64_w _).symm.trans (hji28z h_)
       replace H := Option.bind_eq_some_iff.mp H
       obtain ⟨t718, A290, H⟩ := H
       have A29 := Z.k A290
       clear A290
       by_cases c30 : t718 = true
       ·subst c30
        rw [if_pos rfl] at H
        have H' := Z.k H
        clear H
        have hcz31 := Z.c3 BK714.out
        try go_wp2
        replace HO_4 := Z.k (Kd.R_drew HO_4.out)
        replace HO_715001 := Z.k (Kd.R_drew HO_715001.out)
        replace HO_715002 := Z.k (Kd.R_drew HO_715002.out)
        replace BK714 := Z.k (blk_drew BK714.out)
        replace HB := Z.k (below_drew1 HB.out)
        refine start_ (n := 10) (S := fun w' => w'.cell? ⟨gb714, 0, none⟩ = some (.int .i64 t701) ∧ w'.cell? ⟨gb714, 1, none⟩ = some (.slice Ao20 t702.length co20) ∧ w'.cell? ⟨gb714, 2, none⟩ = some (.slice Ao21 t705.length co21)) (ds := []) #[false, false, false, false, false, false, false, false, false, false] (by kernel_rfl) rfl rfl ⟨(blk_cell BK714.out 0).trans rfl, (blk_cell BK714.out 1).trans rfl, (blk_cell BK714.out 2).trans rfl⟩ (fun hHeld => ?_); refine with_tabW laws_FnMayChange.tab12 laws_FnMayChange.bits12 (fun HT_ HW_ => ?_)
        generalize wr.drew = w32 at HO_4 HO_715001 HO_715002 BK714 HB hHeld ⊢
        refine Z.pv 1 47 10 2 HT_.out ?_
        refine Z.pv 2 48 10 6 HT_.out ?_
        refine Z.pv 3 49 10 14 HT_.out ?_
        refine Z.pv 4 50 10 30 HT_.out ?_
        refine Z.pv 5 51 10 62 HT_.out ?_
        refine Z.pv 6 52 10 126 HT_.out ?_
        refine Z.pv 7 53 10 254 HT_.out ?_
        refine Z.t3 0 46 10 255 HT_.out HW_.out hHeld ?_
        refine one_ (i := 8) (N := some 54) (Z.mb 10 511) rfl rfl (one_of HT_.out (by kernel_rfl)) (by decide) (fun K hK => ?_)
        refine goes_ Try.func26 (by kernel_rfl) rfl #[.agg #[.int .i64 t701, .slice Ao20 t702.length co20, .slice Ao21 t705.length co21], .slice Ao22 t708.length co22, .int .i64 t711, .int .i64 t712, .int .i64 (Go.bits .or .i64 t713 (ji28))] (by rfl) rfl rfl (by (try simp only [List.map_toArray, List.map_cons, List.map_nil]); rfl) ?_
        with_reducible refine (impl_MayChange.calls k1 t701 _ _ t702 _ _ t705 _ _ t708 t711 t712 (Go.bits .or .i64 t713 (ji28)) true _ ?q1 ?q2 ?q3 ?q4 ?q5 ?q6 A29.out).mono ?_
        (case q1 => exact (Kd.R_reads' HO_715001.out).2.2)
        (case q2 => exact (Kd.R_reads' HO_715001.out).2.1)
        (case q3 => exact (Kd.R_reads' HO_715002.out).2.2)
        (case q4 => exact (Kd.R_reads' HO_715002.out).2.1)
        (case q5 => exact (Kd.R_reads' HO_4.out).2.2)
        (case q6 => exact (Kd.R_reads' HO_4.out).2.1)
        rintro e w33 ⟨rfl, hb⟩
        refine ⟨_, rfl, ?_⟩
        replace HO_4 := Z.k (Kd.R_below HO_4.out hb)
        replace HO_715001 := Z.k (Kd.R_below HO_715001.out hb)
        replace HO_715002 := Z.k (Kd.R_below HO_715002.out hb)
        replace BK714 := Z.bb BK714 hb
        replace HB := Z.st (Z.bs HB.out GE714.out) hb
        (try clear hb)
        refine hK.out _ _ ⟨(blk_cell BK714.out 0).trans rfl, (blk_cell BK714.out 1).trans rfl, (blk_cell BK714.out 2).trans rfl⟩ (fun hHeld => ?_)
        clear hK K
        refine Z.nm ?_
        refine Z.pv 9 55 10 1023 HT_.out ?_
        refine done_ (done_of HT_.out (by kernel_rfl)) ?_
        try go_wp2
        go_roundg k1
        case measure => have := HK1.out; omega
        case rel => exact ⟨(wrap64 (x9_1 + 1)), (by rfl), H', ⟨by have := HK1.out; omega⟩, ⟨by exact HO_4.out⟩, ⟨by exact HO_715001.out⟩, ⟨by exact HO_715002.out⟩, ⟨by exact BK714.out⟩, ⟨Z.bs HB.out GE714.out⟩⟩
       ·replace c30 := Bool.eq_false_iff.mpr c30
        subst c30
        rw [if_neg (show ¬ (false = true) by decide)] at H
        obtain rfl := Option.some.inj H
        have hcz34 := Z.c3 BK714.out
        try go_wp2
        replace HO_4 := Z.k (Kd.R_drew HO_4.out)
        replace HO_715001 := Z.k (Kd.R_drew HO_715001.out)
        replace HO_715002 := Z.k (Kd.R_drew HO_715002.out)
        replace BK714 := Z.k (blk_drew BK714.out)
        replace HB := Z.k (below_drew1 HB.out)
        refine start_ (n := 10) (S := fun w' => w'.cell? ⟨gb714, 0, none⟩ = some (.int .i64 t701) ∧ w'.cell? ⟨gb714, 1, none⟩ = some (.slice Ao20 t702.length co20) ∧ w'.cell? ⟨gb714, 2, none⟩ = some (.slice Ao21 t705.length co21)) (ds := []) #[false, false, false, false, false, false, false, false, false, false] (by kernel_rfl) rfl rfl ⟨(blk_cell BK714.out 0).trans rfl, (blk_cell BK714.out 1).trans rfl, (blk_cell BK714.out 2).trans rfl⟩ (fun hHeld => ?_); refine with_tabW laws_FnMayChange.tab12 laws_FnMayChange.bits12 (fun HT_ HW_ => ?_)
        generalize wr.drew = w35 at HO_4 HO_715001 HO_715002 BK714 HB hHeld ⊢
        refine Z.pv 1 47 10 2 HT_.out ?_
        refine Z.pv 2 48 10 6 HT_.out ?_
        refine Z.pv 3 49 10 14 HT_.out ?_
        refine Z.pv 4 50 10 30 HT_.out ?_
        refine Z.pv 5 51 10 62 HT_.out ?_
        refine Z.pv 6 52 10 126 HT_.out ?_
        refine Z.pv 7 53 10 254 HT_.out ?_
        refine Z.t3 0 46 10 255 HT_.out HW_.out hHeld ?_
        refine one_ (i := 8) (N := some 54) (Z.mb 10 511) rfl rfl (one_of HT_.out (by kernel_rfl)) (by decide) (fun K hK => ?_)
        refine goes_ Try.func26 (by kernel_rfl) rfl #[.agg #[.int .i64 t701, .slice Ao20 t702.length co20, .slice Ao21 t705.length co21], .slice Ao22 t708.length co22, .int .i64 t711, .int .i64 t712, .int .i64 (Go.bits .or .i64 t713 (ji28))] (by rfl) rfl rfl (by (try simp only [List.map_toArray, List.map_cons, List.map_nil]); rfl) ?_
        with_reducible refine (impl_MayChange.calls k1 t701 _ _ t702 _ _ t705 _ _ t708 t711 t712 (Go.bits .or .i64 t713 (ji28)) false _ ?q1 ?q2 ?q3 ?q4 ?q5 ?q6 A29.out).mono ?_
        (case q1 => exact (Kd.R_reads' HO_715001.out).2.2)
        (case q2 => exact (Kd.R_reads' HO_715001.out).2.1)
        (case q3 => exact (Kd.R_reads' HO_715002.out).2.2)
        (case q4 => exact (Kd.R_reads' HO_715002.out).2.1)
        (case q5 => exact (Kd.R_reads' HO_4.out).2.2)
        (case q6 => exact (Kd.R_reads' HO_4.out).2.1)
        rintro e w36 ⟨rfl, hb⟩
        refine ⟨_, rfl, ?_⟩
        replace HO_4 := Z.k (Kd.R_below HO_4.out hb)
        replace HO_715001 := Z.k (Kd.R_below HO_715001.out hb)
        replace HO_715002 := Z.k (Kd.R_below HO_715002.out hb)
        replace BK714 := Z.bb BK714 hb
        replace HB := Z.st (Z.bs HB.out GE714.out) hb
        (try clear hb)
        refine hK.out _ _ ⟨(blk_cell BK714.out 0).trans rfl, (blk_cell BK714.out 1).trans rfl, (blk_cell BK714.out 2).trans rfl⟩ (fun hHeld => ?_)
        clear hK K
        refine Z.nm ?_
        refine Z.pv 9 55 10 1023 HT_.out ?_
        refine done_ (done_of HT_.out (by kernel_rfl)) ?_
        try go_wp2
        go_ret
        exact ⟨by rfl, Z.bs HB.out GE714.out⟩
      ·rw [if_neg c26] at H
       have c26b0 := decide_eq_false c26
       clear c26
       obtain ⟨y719, hy719⟩ : ∃ y_ : List Int, y_ = (([] : List Int)) := ⟨_, rfl⟩
       replace H : (if y719.length + t708.length < 17592186044416 then ((some (y719 ++ t708 : List Int)).bind fun y722 => (if 0 ≤ t711 then (if t711 < (y722.length : Int) then ((some (y722.set (t711 : Int).toNat t712 : List Int)).bind fun y725 => ((impl_ReachOf.f k1 t701 t702 t705 t708 t713).bind fun t726 => ((impl_StateNumber.f k1 t701 t702 t705 y725).bind fun t729 => ((laws_hasInt.f k1 t726 t729).bind fun t730 => (if t730 = true then (if t711 < (t705.length : Int) then (if ((rd_L5 t705 t711).length : Int) > 1 then ((impl_ChangesTo.f k1 t701 t702 t705 t708 y725 t713).bind fun t732 => (some (t732 == 1))) else (some false)) else (none)) else (some false)))))) else (none)) else (none))) else (none)) = some r := by (have H2_ := (Option.bind_some _ _).symm.trans H; rw [hy719]; with_reducible exact H2_)
       have Ny719 := Z.k hy719
       clear hy719
       obtain ⟨c37, H⟩ := Z.ifp H
       have LMc37 := Z.k c37
       clear c37
       obtain ⟨y722, hy722⟩ : ∃ y_ : List Int, y_ = (y719 ++ t708) := ⟨_, rfl⟩
       replace H : (if 0 ≤ t711 then (if t711 < (y722.length : Int) then ((some (y722.set (t711 : Int).toNat t712 : List Int)).bind fun y725 => ((impl_ReachOf.f k1 t701 t702 t705 t708 t713).bind fun t726 => ((impl_StateNumber.f k1 t701 t702 t705 y725).bind fun t729 => ((laws_hasInt.f k1 t726 t729).bind fun t730 => (if t730 = true then (if t711 < (t705.length : Int) then (if ((rd_L5 t705 t711).length : Int) > 1 then ((impl_ChangesTo.f k1 t701 t702 t705 t708 y725 t713).bind fun t732 => (some (t732 == 1))) else (some false)) else (none)) else (some false)))))) else (none)) else (none)) = some r := by (have H2_ := (Option.bind_some _ _).symm.trans H; rw [hy722]; with_reducible exact H2_)
       have Ny722 := Z.k hy722
       clear hy722
       obtain ⟨c38, H⟩ := Z.ifp H
       have c38b0 : decide (0 ≤ t711) = true := decide_eq_true c38
       clear c38
       obtain ⟨c39, H⟩ := Z.ifp H
       have c39b0 : decide (t711 < (y722.length : Int)) = true := decide_eq_true c39
       clear c39
       obtain ⟨y725, hy725⟩ : ∃ y_ : List Int, y_ = (y722.set (t711 : Int).toNat t712) := ⟨_, rfl⟩
       replace H : ((impl_ReachOf.f k1 t701 t702 t705 t708 t713).bind fun t726 => ((impl_StateNumber.f k1 t701 t702 t705 y725).bind fun t729 => ((laws_hasInt.f k1 t726 t729).bind fun t730 => (if t730 = true then (if t711 < (t705.length : Int) then (if ((rd_L5 t705 t711).length : Int) > 1 then ((impl_ChangesTo.f k1 t701 t702 t705 t708 y725 t713).bind fun t732 => (some (t732 == 1))) else (some false)) else (none)) else (some false))))) = some r := by (have H2_ := (Option.bind_some _ _).symm.trans H; rw [hy725]; with_reducible exact H2_)
       have Ny725 := Z.k hy725
       clear hy725
       replace H := Option.bind_eq_some_iff.mp H
       obtain ⟨t726, A410, H⟩ := H
       have A41 := Z.k A410
       clear A410
       replace H := Option.bind_eq_some_iff.mp H
       obtain ⟨t729, A420, H⟩ := H
       have A42 := Z.k A420
       clear A420
       replace H := Option.bind_eq_some_iff.mp H
       obtain ⟨t730, A430, H⟩ := H
       have A43 := Z.k A430
       clear A430
       by_cases c44 : t730 = true
       ·subst c44
        rw [if_pos rfl] at H
        obtain ⟨c45, H⟩ := Z.ifp H
        have c45b0 : decide (t711 < (t705.length : Int)) = true := decide_eq_true c45
        clear c45
        by_cases c46 : ((rd_L5 t705 t711).length : Int) > 1
        ·rw [if_pos c46] at H
         have c46b0 : decide (1 < ((rd_L5 t705 t711).length : Int)) = true := decide_eq_true c46
         have c46b1 : decide (1 < (rd_L5 t705 t711).length) = true := decide_eq_true (by omega)
         clear c46
         replace H := Option.bind_eq_some_iff.mp H
         obtain ⟨t732, A470, H⟩ := H
         have A47 := Z.k A470
         clear A470
         obtain rfl := Option.some.inj H
         have hcz48 := Z.c3 BK714.out
         try go_wp2_with (first | ((with_reducible refine gate_dst (N := 56) rfl ?_); (try (refine gate_guard (by rfl) ?_; dsimp only)); refine Kd.R_lit (Kd.int .i64) _ 3 ?hg (N := 56) ?hd (xs := ([] : List Int)) (inner := []) (ok := fun _ => True) (okp := fun _ => True) ?hr ?hp (fun _ hk => hk) trivial (Below.refl _ _) (Nat.le_refl _) (by simp) ?_; (case hd | hg => rfl); (case hr => (go_simp; done)); (case hp => exact (Reps.none _ _)); intro v720 w49 ho50 hb hg_ hnew_; clear hg_ hnew_; (rw [← Ny719.out] at ho50); replace HO_715002 := Z.k (Kd.R_below HO_715002.out hb); have HO721 := Z.k (Kd.R_lower (Kd.R_new' (Kd.R_new' ho50 (Kd.R_lt HO_4.out)) (Kd.R_lt HO_715001.out)) (below_size (Z.bs HB.out GE714.out))); replace HO_4 := Z.k (Kd.R_elder' HO_4.out (Kd.R_base ho50) hb); replace HO_715001 := Z.k (Kd.R_elder' HO_715001.out (Kd.R_base ho50) hb); replace BK714 := Z.bb BK714 hb; replace HB := Z.st (Z.bs HB.out GE714.out) hb; clear hb ho50) | ((with_reducible refine gate_builtin (b := .append) (xs := #[.tmp 56, .tmp 57]) rfl ?_); (try (refine gate_guard (by rfl) ?_; dsimp only)); at_builtin; refine Kd.R_append_rows (Kd.int .i64) (w0 := w) w.heap.size rfl (.tmp 56) (.tmp 57) 23 3 (.int .i64 0) 8 rfl Try.underlying23 info3 rfl (by decide) (by omega) v720 y719 t708 _ _ _ (fun k_ => some k_ ≠ (.slice Ao22 t708.length co22 : Value).ownBlock ∧ some k_ ≠ (.slice Ao20 t702.length co20 : Value).ownBlock) (fun _ => False) rfl rfl ?aO ?aR (fun _ _ h => h) (fun _ h => h.elim) ?aF ?aB ?aS ?aL ?_; (case aR => exact (Kd.R_reads' HO_4.out).2.2); (case aB => exact (Z.bs HB.out GE714.out)); (case aF => exact (fun k_ hk => ⟨Kd.fresh' (Kd.R_lt HO_4.out) k_ hk, Kd.fresh' (Kd.R_lt HO_715001.out) k_ hk⟩)); (case aO => exact (Kd.R_mono HO721.out (fun _ hk => ⟨hk.1.2, hk.2⟩))); (case aS => exact (below_size (Z.bs HB.out GE714.out))); (case aL => have := LMc37.out; omega); intro v723 w51 ho hb hg hat; rw [← Ny722.out] at ho; replace HO_4 := Z.k (Kd.R_after (ok := (fun k_ => some k_ ≠ (.slice Ao20 t702.length co20 : Value).ownBlock)) HO_4.out hg hat); replace HO_715001 := Z.k (Kd.R_after (ok := (fun k_ => some k_ ≠ (.slice Ao22 t708.length co22 : Value).ownBlock)) HO_715001.out hg hat); replace HO_715002 := Z.k (Kd.R_over' HO_715002.out (Kd.R_typed HO721.out) (by decide) hg); replace BK714 := Z.k (blk_grown (g := gb714) (o := .cells #[.int .i64 t701, .slice Ao20 t702.length co20, .slice Ao21 t705.length co21] 28 (0, 0)) (Z.bk BK714.out) hg (Kd.R_ne HO721.out BK714.out (by decide))); replace HB := Z.k (hb); have HO724 := Z.k (ho); clear HO721; clear ho hb hg hat; have p40 : 0 ≤ (t711 : Int) := Z.od; have q40 : (t711 : Int) < ((y722.length : Int) : Int) := Z.od; obtain ⟨go40, co40, eo40, gb40, gl40, cl40, HG40⟩ := Kd.R_form HO724.out (by omega); (cases eo40); have GB40 := Z.k gb40; have GG40 := Z.k HG40; clear gb40 gl40 HG40; obtain ⟨hx40_0, hf40_0⟩ := Kd.R_celln 0 HO724.out (t711 : Int) p40 q40; replace p40 := eq_true p40; replace q40 := eq_true q40; obtain ⟨hy52_, hz52_⟩ := Kd.R_celln 0 HO724.out (t711 : Int) (Z.od) (Z.od); have HP52 := Kd.R_putg HO724.out (t711 : Int) t712) | ((with_reducible refine gate_store (t := 3) (p := 62) rfl ?_); refine store_event (t := 3) (p := 62) (v := ?vo_w53) (w1 := (w51.setCell ⟨go40, (t711 : Int).toNat, none⟩ (.int .i64 t712))) ?hg ?ho ?hn ?hr ?_; (case ho => rfl); (case hg => rfl); (case hn => rfl); (case hr => (go_simp; done)); intro w53 hw; have hg : w51.grownBy w53 (some go40) := (by rw [hw]; exact HP52.2); have hp_ : Kd.R (Kd.int .i64) 3 w53 w.heap.size (fun k_ => some k_ ≠ (.slice Ao22 t708.length co22 : Value).ownBlock ∧ some k_ ≠ (.slice Ao20 t702.length co20 : Value).ownBlock) (.slice (some ⟨go40, 0, none⟩) y722.length co40) y725 := (by rw [hw, Ny725.out]; exact HP52.1); clear HP52; replace HO_4 := Z.k (Kd.R_after (v := (.slice (some ⟨go40, 0, none⟩) y722.length co40)) (v1 := (.slice (some ⟨go40, 0, none⟩) y722.length co40)) (ok := (fun k_ => some k_ ≠ (.slice Ao20 t702.length co20 : Value).ownBlock)) HO_4.out hg (.inl rfl)); replace HO_715001 := Z.k (Kd.R_after (v := (.slice (some ⟨go40, 0, none⟩) y722.length co40)) (v1 := (.slice (some ⟨go40, 0, none⟩) y722.length co40)) (ok := (fun k_ => some k_ ≠ (.slice Ao22 t708.length co22 : Value).ownBlock)) HO_715001.out hg (.inl rfl)); replace HO_715002 := Z.k (Kd.R_over' (v := (.slice (some ⟨go40, 0, none⟩) y722.length co40)) HO_715002.out (Kd.R_typed HO724.out) (by decide) hg); replace BK714 := Z.k (blk_grown (g := gb714) (o := .cells #[.int .i64 t701, .slice Ao20 t702.length co20, .slice Ao21 t705.length co21] 28 (0, 0)) (Z.bk BK714.out) hg (Kd.R_ne HO724.out BK714.out (by decide))); replace HO724 := Z.k (hp_); replace HB := Z.k ((by rw [hw]; exact below_set (HB.out) GB40.out : Below w.heap.size w w53)); clear hg hw hp_))
         replace HO_4 := Z.k (Kd.R_drew HO_4.out)
         replace HO_715001 := Z.k (Kd.R_drew HO_715001.out)
         replace HO_715002 := Z.k (Kd.R_drew HO_715002.out)
         replace HO724 := Z.k (Kd.R_drew HO724.out)
         replace BK714 := Z.k (blk_drew BK714.out)
         replace HB := Z.k (below_drew1 HB.out)
         have p731 : 0 ≤ (t711 : Int) := Z.od
         have q731 : t711 < (t705.length : Int) := Z.od
         obtain ⟨ad731, A731_0, c731_0, e731, hx731_0, hl731_0, hi731_0⟩ := at_L5 (Kd.R_reads' HO_715002.out).2.2 t711 p731 q731
         cases e731
         obtain ⟨ce731, hce731, hMe731, hcc731⟩ := Kd.R_get HO_715002.out [] t711 p731 q731
         obtain ⟨ve731_0, rfl, ge731_0⟩ := hMe731
         have hv731_0 := hcc731 0 _ rfl
         rw [Nat.add_zero, show ((Kd.slice 37 k37)).sz = 1 from rfl, Nat.mul_one] at hv731_0
         replace hv731_0 := Option.some.inj (hv731_0.symm.trans hx731_0)
         rw [hv731_0] at ge731_0
         have HL731_0 := Z.k (show Kd.R k37 37 _ _ _ _ (rd_L5 t705 t711) from ge731_0)
         clear hv731_0 ge731_0
         clear hcc731 hce731
         have HR731_0 := Z.k hi731_0
         have HC731_0 := Z.k hl731_0
         clear hi731_0 hl731_0
         replace p731 := eq_true p731
         replace q731 := eq_true q731
         refine start_ (n := 26) (S := fun w' => w'.cell? ⟨gb714, 0, none⟩ = some (.int .i64 t701) ∧ w'.cell? ⟨gb714, 1, none⟩ = some (.slice Ao20 t702.length co20) ∧ w'.cell? ⟨gb714, 2, none⟩ = some (.slice (some ad731) t705.length co21) ∧ w'.cell? (ad731.add (t711).toNat) = some (.slice A731_0 (rd_L5 t705 t711).length c731_0)) (ds := []) #[false, false, false, false, false, false, false, false, false, false, false, false, false, false, false, false, false, false, false, false, false, false, false, false, false, false] (by kernel_rfl) rfl rfl ⟨(blk_cell BK714.out 0).trans rfl, (blk_cell BK714.out 1).trans rfl, (blk_cell BK714.out 2).trans rfl, hx731_0⟩ (fun hHeld => ?_); refine with_tabW laws_FnMayChange.tab16 laws_FnMayChange.bits16 (fun HT_ HW_ => ?_)
         generalize w53.drew = w54 at HO_4 HO_715001 HO_715002 HO724 BK714 HB HL731_0 HR731_0 hx731_0 hHeld ⊢
         refine Z.pv 1 64 26 2 HT_.out ?_
         refine Z.pv 2 65 26 6 HT_.out ?_
         refine Z.pv 5 68 26 38 HT_.out ?_
         refine Z.t4 0 63 26 39 HT_.out HW_.out hHeld ?_
         refine Z.t4 4 67 26 55 HT_.out HW_.out hHeld ?_
         refine one_ (i := 3) (N := some 66) (Z.mb 26 63) rfl rfl (one_of HT_.out (by kernel_rfl)) (by decide) (fun K hK => ?_)
         refine goes_ Try.func19 (by kernel_rfl) rfl #[.agg #[.int .i64 t701, .slice Ao20 t702.length co20, .slice (some ad731) t705.length co21], .slice Ao22 t708.length co22, .int .i64 t713] (by rfl) rfl rfl Z.ar ?_
         with_reducible refine (impl_ReachOf.calls k1 t701 _ _ t702 _ _ t705 _ _ t708 t713 t726 _ ?q1 ?q2 ?q3 ?q4 ?q5 ?q6 A41.out).mono ?_
         (case q1 => exact (Kd.R_reads' HO_715001.out).2.2)
         (case q2 => exact (Kd.R_reads' HO_715001.out).2.1)
         (case q3 => exact (Kd.R_reads' HO_715002.out).2.2)
         (case q4 => exact (Kd.R_reads' HO_715002.out).2.1)
         (case q5 => exact (Kd.R_reads' HO_4.out).2.2)
         (case q6 => exact (Kd.R_reads' HO_4.out).2.1)
         rintro e w55 ⟨v727, rfl, ho0, hb⟩
         have HS3_ := (hb.cell (World.block_lt_of_cell? _ _ (hHeld.2.2.2))).trans (hHeld.2.2.2)
         refine ⟨_, rfl, ?_⟩
         replace HO_715002 := Z.k (Kd.R_below HO_715002.out hb)
         have HO728 := Z.k (Kd.R_lower (Kd.R_new' (Kd.R_new' (Kd.R_new' ho0 (Kd.R_lt HO_4.out)) (Kd.R_lt HO_715001.out)) (Kd.R_lt HO724.out)) (below_size (Z.bs HB.out GE714.out)))
         replace HO_4 := Z.k (Kd.R_elder' HO_4.out (Kd.R_base ho0) hb)
         replace HO_715001 := Z.k (Kd.R_elder' HO_715001.out (Kd.R_base ho0) hb)
         replace HO724 := Z.k (Kd.R_elder' HO724.out (Kd.R_base ho0) hb)
         replace BK714 := Z.bb BK714 hb
         replace HB := Z.st (Z.bs HB.out GE714.out) hb
         (try clear hb)
         (try clear ho0)
         refine hK.out _ _ ⟨(blk_cell BK714.out 0).trans rfl, (blk_cell BK714.out 1).trans rfl, (blk_cell BK714.out 2).trans rfl, HS3_⟩ (fun hHeld => ?_)
         clear hK K
         refine Z.nm ?_
         refine one_ (i := 6) (N := some 69) (Z.mb 26 127) rfl rfl (one_of HT_.out (by kernel_rfl)) (by decide) (fun K hK => ?_)
         refine goes_ Try.func29 (by kernel_rfl) rfl #[.agg #[.int .i64 t701, .slice Ao20 t702.length co20, .slice (some ad731) t705.length co21], .slice (some ⟨go40, 0, none⟩) y725.length co40] (by rfl) rfl rfl (by (try simp only [List.map_toArray, List.map_cons, List.map_nil]); (rw [show y725.length = y722.length from (Kd.R_reads' HO724.out).1.symm] <;> rfl)) ?_
         with_reducible refine (impl_StateNumber.calls k1 t701 _ _ t702 _ _ t705 _ _ y725 t729 _ ?q1 ?q2 ?q3 ?q4 ?q5 ?q6 A42.out).mono ?_
         (case q1 => exact (Kd.R_reads' HO_715001.out).2.2)
         (case q2 => exact (Kd.R_reads' HO_715001.out).2.1)
         (case q3 => exact (Kd.R_reads' HO_715002.out).2.2)
         (case q4 => exact (Kd.R_reads' HO_715002.out).2.1)
         (case q5 => exact (Kd.R_reads' HO724.out).2.2)
         (case q6 => rw [show y725.length = y722.length from (Kd.R_reads' HO724.out).1.symm]; exact (Kd.R_reads' HO724.out).2.1)
         rintro e w56 ⟨rfl, hb⟩
         have HS3_ := (hb.cell (World.block_lt_of_cell? _ _ (hHeld.2.2.2))).trans (hHeld.2.2.2)
         refine ⟨_, rfl, ?_⟩
         replace HO_4 := Z.k (Kd.R_below HO_4.out hb)
         replace HO_715001 := Z.k (Kd.R_below HO_715001.out hb)
         replace HO_715002 := Z.k (Kd.R_below HO_715002.out hb)
         replace HO724 := Z.k (Kd.R_below HO724.out hb)
         replace HO728 := Z.k (Kd.R_below HO728.out hb)
         replace BK714 := Z.bb BK714 hb
         replace HB := Z.st (Z.bs HB.out GE714.out) hb
         (try clear hb)
         obtain ⟨Ao57, co57, eo57⟩ := Kd.R_slice HO728.out
         (subst eo57)
         refine hK.out _ _ ⟨(blk_cell BK714.out 0).trans rfl, (blk_cell BK714.out 1).trans rfl, (blk_cell BK714.out 2).trans rfl, HS3_⟩ (fun hHeld => ?_)
         clear hK K
         refine Z.nm ?_
         refine one_ (i := 7) (N := some 70) (Z.mb 26 255) rfl rfl (one_of HT_.out (by kernel_rfl)) (by decide) (fun K hK => ?_)
         refine goes_ Try.func28 (by kernel_rfl) rfl #[.slice Ao57 t726.length co57, .int .i64 t729] (by rfl) rfl rfl Z.ar ?_
         with_reducible refine (laws_hasInt.calls k1 _ _ t726 t729 true _ ?q1 ?q2 A43.out).mono ?_
         (case q1 => exact (Kd.R_reads' HO728.out).2.2)
         (case q2 => exact (Kd.R_reads' HO728.out).2.1)
         rintro e w' ⟨rfl, ⟨nd, rfl⟩⟩
         refine ⟨_, rfl, ?_⟩
         refine hK.out _ _ ⟨(blk_cell BK714.out 0).trans rfl, (blk_cell BK714.out 1).trans rfl, (blk_cell BK714.out 2).trans rfl, hHeld.2.2.2⟩ (fun hHeld => ?_)
         clear hK K
         refine Z.nm ?_
         refine Z.pv 8 71 26 511 HT_.out ?_
         refine Z.pv 9 72 26 1023 HT_.out ?_
         refine Z.pv 11 74 26 3071 HT_.out ?_
         refine Z.t4 10 73 26 4095 HT_.out HW_.out hHeld ?_
         refine Z.pv 12 75 26 8191 HT_.out ?_
         refine Z.t4 13 76 26 16383 HT_.out HW_.out hHeld ?_
         refine Z.pv 14 77 26 32767 HT_.out ?_
         refine Z.pv 15 78 26 65535 HT_.out ?_
         refine Z.pv 16 79 26 131071 HT_.out ?_
         refine Z.pv 17 80 26 262143 HT_.out ?_
         refine Z.pv 19 82 26 786431 HT_.out ?_
         refine Z.pv 20 83 26 1835007 HT_.out ?_
         refine Z.pv 21 84 26 3932159 HT_.out ?_
         refine Z.t4 18 81 26 4194303 HT_.out HW_.out hHeld ?_
         refine one_ (i := 22) (N := some 85) (Z.mb 26 8388607) rfl rfl (one_of HT_.out (by kernel_rfl)) (by decide) (fun K hK => ?_)
         refine goes_ Try.func30 (by kernel_rfl) rfl #[.agg #[.int .i64 t701, .slice Ao20 t702.length co20, .slice (some ad731) t705.length co21], .slice Ao22 t708.length co22, .slice (some ⟨go40, 0, none⟩) y725.length co40, .int .i64 t713] (by rfl) rfl rfl (by (try simp only [List.map_toArray, List.map_cons, List.map_nil]); (rw [show y725.length = y722.length from (Kd.R_reads' HO724.out).1.symm] <;> rfl)) ?_
         with_reducible refine (impl_ChangesTo.calls k1 t701 _ _ t702 _ _ t705 _ _ t708 _ _ y725 t713 t732 _ ?q1 ?q2 ?q3 ?q4 ?q5 ?q6 ?q7 ?q8 A47.out).mono ?_
         (case q1 => exact (Kd.R_reads' HO_715001.out).2.2)
         (case q2 => exact (Kd.R_reads' HO_715001.out).2.1)
         (case q3 => exact (Kd.R_reads' HO_715002.out).2.2)
         (case q4 => exact (Kd.R_reads' HO_715002.out).2.1)
         (case q5 => exact (Kd.R_reads' HO_4.out).2.2)
         (case q6 => exact (Kd.R_reads' HO_4.out).2.1)
         (case q7 => exact (Kd.R_reads' HO724.out).2.2)
         (case q8 => rw [show y725.length = y722.length from (Kd.R_reads' HO724.out).1.symm]; exact (Kd.R_reads' HO724.out).2.1)
         rintro e w58 ⟨rfl, hb⟩
         have HS3_ := (hb.cell (World.block_lt_of_cell? _ _ (hHeld.2.2.2))).trans (hHeld.2.2.2)
         refine ⟨_, rfl, ?_⟩
         replace HO_4 := Z.k (Kd.R_below (by (with_reducible repeat (apply Kd.R_drewN)); exact HO_4.out) hb)
         replace HO_715001 := Z.k (Kd.R_below (by (with_reducible repeat (apply Kd.R_drewN)); exact HO_715001.out) hb)
         replace HO_715002 := Z.k (Kd.R_below (by (with_reducible repeat (apply Kd.R_drewN)); exact HO_715002.out) hb)
         replace HO724 := Z.k (Kd.R_below (by (with_reducible repeat (apply Kd.R_drewN)); exact HO724.out) hb)
         replace HO728 := Z.k (Kd.R_below (by (with_reducible repeat (apply Kd.R_drewN)); exact HO728.out) hb)
         replace BK714 := Z.bb BK714 hb
         replace HB := Z.st (Z.bs HB.out GE714.out) hb
         (try clear hb)
         refine hK.out _ _ ⟨(blk_cell BK714.out 0).trans rfl, (blk_cell BK714.out 1).trans rfl, (blk_cell BK714.out 2).trans rfl, HS3_⟩ (fun hHeld => ?_)
         clear hK K
         refine Z.nm ?_
         refine Z.pv 23 86 26 16777215 HT_.out ?_
         refine Z.pv 24 87 26 33554431 HT_.out ?_
         refine Z.pv 25 2 26 67108863 HT_.out ?_
         refine done_ (done_of HT_.out (by kernel_rfl)) ?_
         try go_wp2
         go_ret
         exact ⟨by rfl, Z.bs HB.out GE714.out⟩
        ·rw [if_neg c46] at H
         have c46b0 : decide (1 < ((rd_L5 t705 t711).length : Int)) = false := decide_eq_false c46
         have c46b1 : decide (1 < (rd_L5 t705 t711).length) = false := decide_eq_false (by omega)
         clear c46
         obtain rfl := Option.some.inj H
         have hcz59 := Z.c3 BK714.out
         try go_wp2_with (first | ((with_reducible refine gate_dst (N := 56) rfl ?_); (try (refine gate_guard (by rfl) ?_; dsimp only)); refine Kd.R_lit (Kd.int .i64) _ 3 ?hg (N := 56) ?hd (xs := ([] : List Int)) (inner := []) (ok := fun _ => True) (okp := fun _ => True) ?hr ?hp (fun _ hk => hk) trivial (Below.refl _ _) (Nat.le_refl _) (by simp) ?_; (case hd | hg => rfl); (case hr => (go_simp; done)); (case hp => exact (Reps.none _ _)); intro v720 w60 ho61 hb hg_ hnew_; clear hg_ hnew_; (rw [← Ny719.out] at ho61); replace HO_715002 := Z.k (Kd.R_below HO_715002.out hb); have HO721 := Z.k (Kd.R_lower (Kd.R_new' (Kd.R_new' ho61 (Kd.R_lt HO_4.out)) (Kd.R_lt HO_715001.out)) (below_size (Z.bs HB.out GE714.out))); replace HO_4 := Z.k (Kd.R_elder' HO_4.out (Kd.R_base ho61) hb); replace HO_715001 := Z.k (Kd.R_elder' HO_715001.out (Kd.R_base ho61) hb); replace BK714 := Z.bb BK714 hb; replace HB := Z.st (Z.bs HB.out GE714.out) hb; clear hb ho61) | ((with_reducible refine gate_builtin (b := .append) (xs := #[.tmp 56, .tmp 57]) rfl ?_); (try (refine gate_guard (by rfl) ?_; dsimp only)); at_builtin; refine Kd.R_append_rows (Kd.int .i64) (w0 := w) w.heap.size rfl (.tmp 56) (.tmp 57) 23 3 (.int .i64 0) 8 rfl Try.underlying23 info3 rfl (by decide) (by omega) v720 y719 t708 _ _ _ (fun k_ => some k_ ≠ (.slice Ao22 t708.length co22 : Value).ownBlock ∧ some k_ ≠ (.slice Ao20 t702.length co20 : Value).ownBlock) (fun _ => False) rfl rfl ?aO ?aR (fun _ _ h => h) (fun _ h => h.elim) ?aF ?aB ?aS ?aL ?_; (case aR => exact (Kd.R_reads' HO_4.out).2.2); (case aB => exact (Z.bs HB.out GE714.out)); (case aF => exact (fun k_ hk => ⟨Kd.fresh' (Kd.R_lt HO_4.out) k_ hk, Kd.fresh' (Kd.R_lt HO_715001.out) k_ hk⟩)); (case aO => exact (Kd.R_mono HO721.out (fun _ hk => ⟨hk.1.2, hk.2⟩))); (case aS => exact (below_size (Z.bs HB.out GE714.out))); (case aL => have := LMc37.out; omega); intro v723 w62 ho hb hg hat; rw [← Ny722.out] at ho; replace HO_4 := Z.k (Kd.R_after (ok := (fun k_ => some k_ ≠ (.slice Ao20 t702.length co20 : Value).ownBlock)) HO_4.out hg hat); replace HO_715001 := Z.k (Kd.R_after (ok := (fun k_ => some k_ ≠ (.slice Ao22 t708.length co22 : Value).ownBlock)) HO_715001.out hg hat); replace HO_715002 := Z.k (Kd.R_over' HO_715002.out (Kd.R_typed HO721.out) (by decide) hg); replace BK714 := Z.k (blk_grown (g := gb714) (o := .cells #[.int .i64 t701, .slice Ao20 t702.length co20, .slice Ao21 t705.length co21] 28 (0, 0)) (Z.bk BK714.out) hg (Kd.R_ne HO721.out BK714.out (by decide))); replace HB := Z.k (hb); have HO724 := Z.k (ho); clear HO721; clear ho hb hg hat; have p40 : 0 ≤ (t711 : Int) := Z.od; have q40 : (t711 : Int) < ((y722.length : Int) : Int) := Z.od; obtain ⟨go40, co40, eo40, gb40, gl40, cl40, HG40⟩ := Kd.R_form HO724.out (by omega); (cases eo40); have GB40 := Z.k gb40; have GG40 := Z.k HG40; clear gb40 gl40 HG40; obtain ⟨hx40_0, hf40_0⟩ := Kd.R_celln 0 HO724.out (t711 : Int) p40 q40; replace p40 := eq_true p40; replace q40 := eq_true q40; obtain ⟨hy63_, hz63_⟩ := Kd.R_celln 0 HO724.out (t711 : Int) (Z.od) (Z.od); have HP63 := Kd.R_putg HO724.out (t711 : Int) t712) | ((with_reducible refine gate_store (t := 3) (p := 62) rfl ?_); refine store_event (t := 3) (p := 62) (v := ?vo_w64) (w1 := (w62.setCell ⟨go40, (t711 : Int).toNat, none⟩ (.int .i64 t712))) ?hg ?ho ?hn ?hr ?_; (case ho => rfl); (case hg => rfl); (case hn => rfl); (case hr => (go_simp; done)); intro w64 hw; have hg : w62.grownBy w64 (some go40) := (by rw [hw]; exact HP63.2); have hp_ : Kd.R (Kd.int .i64) 3 w64 w.heap.size (fun k_ => some k_ ≠ (.slice Ao22 t708.length co22 : Value).ownBlock ∧ some k_ ≠ (.slice Ao20 t702.length co20 : Value).ownBlock) (.slice (some ⟨go40, 0, none⟩) y722.length co40) y725 := (by rw [hw, Ny725.out]; exact HP63.1); clear HP63; replace HO_4 := Z.k (Kd.R_after (v := (.slice (some ⟨go40, 0, none⟩) y722.length co40)) (v1 := (.slice (some ⟨go40, 0, none⟩) y722.length co40)) (ok := (fun k_ => some k_ ≠ (.slice Ao20 t702.length co20 : Value).ownBlock)) HO_4.out hg (.inl rfl)); replace HO_715001 := Z.k (Kd.R_after (v := (.slice (some ⟨go40, 0, none⟩) y722.length co40)) (v1 := (.slice (some ⟨go40, 0, none⟩) y722.length co40)) (ok := (fun k_ => some k_ ≠ (.slice Ao22 t708.length co22 : Value).ownBlock)) HO_715001.out hg (.inl rfl)); replace HO_715002 := Z.k (Kd.R_over' (v := (.slice (some ⟨go40, 0, none⟩) y722.length co40)) HO_715002.out (Kd.R_typed HO724.out) (by decide) hg); replace BK714 := Z.k (blk_grown (g := gb714) (o := .cells #[.int .i64 t701, .slice Ao20 t702.length co20, .slice Ao21 t705.length co21] 28 (0, 0)) (Z.bk BK714.out) hg (Kd.R_ne HO724.out BK714.out (by decide))); replace HO724 := Z.k (hp_); replace HB := Z.k ((by rw [hw]; exact below_set (HB.out) GB40.out : Below w.heap.size w w64)); clear hg hw hp_))
         replace HO_4 := Z.k (Kd.R_drew HO_4.out)
         replace HO_715001 := Z.k (Kd.R_drew HO_715001.out)
         replace HO_715002 := Z.k (Kd.R_drew HO_715002.out)
         replace HO724 := Z.k (Kd.R_drew HO724.out)
         replace BK714 := Z.k (blk_drew BK714.out)
         replace HB := Z.k (below_drew1 HB.out)
         have p731 : 0 ≤ (t711 : Int) := Z.od
         have q731 : t711 < (t705.length : Int) := Z.od
         obtain ⟨ad731, A731_0, c731_0, e731, hx731_0, hl731_0, hi731_0⟩ := at_L5 (Kd.R_reads' HO_715002.out).2.2 t711 p731 q731
         cases e731
         obtain ⟨ce731, hce731, hMe731, hcc731⟩ := Kd.R_get HO_715002.out [] t711 p731 q731
         obtain ⟨ve731_0, rfl, ge731_0⟩ := hMe731
         have hv731_0 := hcc731 0 _ rfl
         rw [Nat.add_zero, show ((Kd.slice 37 k37)).sz = 1 from rfl, Nat.mul_one] at hv731_0
         replace hv731_0 := Option.some.inj (hv731_0.symm.trans hx731_0)
         rw [hv731_0] at ge731_0
         have HL731_0 := Z.k (show Kd.R k37 37 _ _ _ _ (rd_L5 t705 t711) from ge731_0)
         clear hv731_0 ge731_0
         clear hcc731 hce731
         have HR731_0 := Z.k hi731_0
         have HC731_0 := Z.k hl731_0
         clear hi731_0 hl731_0
         replace p731 := eq_true p731
         replace q731 := eq_true q731
         refine start_ (n := 26) (S := fun w' => w'.cell? ⟨gb714, 0, none⟩ = some (.int .i64 t701) ∧ w'.cell? ⟨gb714, 1, none⟩ = some (.slice Ao20 t702.length co20) ∧ w'.cell? ⟨gb714, 2, none⟩ = some (.slice (some ad731) t705.length co21) ∧ w'.cell? (ad731.add (t711).toNat) = some (.slice A731_0 (rd_L5 t705 t711).length c731_0)) (ds := []) #[false, false, false, false, false, false, false, false, false, false, false, false, false, false, false, false, false, false, false, false, false, false, false, false, false, false] (by kernel_rfl) rfl rfl ⟨(blk_cell BK714.out 0).trans rfl, (blk_cell BK714.out 1).trans rfl, (blk_cell BK714.out 2).trans rfl, hx731_0⟩ (fun hHeld => ?_); refine with_tabW laws_FnMayChange.tab16 laws_FnMayChange.bits16 (fun HT_ HW_ => ?_)
         generalize w64.drew = w65 at HO_4 HO_715001 HO_715002 HO724 BK714 HB HL731_0 HR731_0 hx731_0 hHeld ⊢
         refine Z.pv 1 64 26 2 HT_.out ?_
         refine Z.pv 2 65 26 6 HT_.out ?_
         refine Z.pv 5 68 26 38 HT_.out ?_
         refine Z.t4 0 63 26 39 HT_.out HW_.out hHeld ?_
         refine Z.t4 4 67 26 55 HT_.out HW_.out hHeld ?_
         refine one_ (i := 3) (N := some 66) (Z.mb 26 63) rfl rfl (one_of HT_.out (by kernel_rfl)) (by decide) (fun K hK => ?_)
         refine goes_ Try.func19 (by kernel_rfl) rfl #[.agg #[.int .i64 t701, .slice Ao20 t702.length co20, .slice (some ad731) t705.length co21], .slice Ao22 t708.length co22, .int .i64 t713] (by rfl) rfl rfl Z.ar ?_
         with_reducible refine (impl_ReachOf.calls k1 t701 _ _ t702 _ _ t705 _ _ t708 t713 t726 _ ?q1 ?q2 ?q3 ?q4 ?q5 ?q6 A41.out).mono ?_
         (case q1 => exact (Kd.R_reads' HO_715001.out).2.2)
         (case q2 => exact (Kd.R_reads' HO_715001.out).2.1)
         (case q3 => exact (Kd.R_reads' HO_715002.out).2.2)
         (case q4 => exact (Kd.R_reads' HO_715002.out).2.1)
         (case q5 => exact (Kd.R_reads' HO_4.out).2.2)
         (case q6 => exact (Kd.R_reads' HO_4.out).2.1)
         rintro e w66 ⟨v727, rfl, ho0, hb⟩
         have HS3_ := (hb.cell (World.block_lt_of_cell? _ _ (hHeld.2.2.2))).trans (hHeld.2.2.2)
         refine ⟨_, rfl, ?_⟩
         replace HO_715002 := Z.k (Kd.R_below HO_715002.out hb)
         have HO728 := Z.k (Kd.R_lower (Kd.R_new' (Kd.R_new' (Kd.R_new' ho0 (Kd.R_lt HO_4.out)) (Kd.R_lt HO_715001.out)) (Kd.R_lt HO724.out)) (below_size (Z.bs HB.out GE714.out)))
         replace HO_4 := Z.k (Kd.R_elder' HO_4.out (Kd.R_base ho0) hb)
         replace HO_715001 := Z.k (Kd.R_elder' HO_715001.out (Kd.R_base ho0) hb)
         replace HO724 := Z.k (Kd.R_elder' HO724.out (Kd.R_base ho0) hb)
         replace BK714 := Z.bb BK714 hb
         replace HB := Z.st (Z.bs HB.out GE714.out) hb
         (try clear hb)
         (try clear ho0)
         refine hK.out _ _ ⟨(blk_cell BK714.out 0).trans rfl, (blk_cell BK714.out 1).trans rfl, (blk_cell BK714.out 2).trans rfl, HS3_⟩ (fun hHeld => ?_)
         clear hK K
         refine Z.nm ?_
         refine one_ (i := 6) (N := some 69) (Z.mb 26 127) rfl rfl (one_of HT_.out (by kernel_rfl)) (by decide) (fun K hK => ?_)
         refine goes_ Try.func29 (by kernel_rfl) rfl #[.agg #[.int .i64 t701, .slice Ao20 t702.length co20, .slice (some ad731) t705.length co21], .slice (some ⟨go40, 0, none⟩) y725.length co40] (by rfl) rfl rfl (by (try simp only [List.map_toArray, List.map_cons, List.map_nil]); (rw [show y725.length = y722.length from (Kd.R_reads' HO724.out).1.symm] <;> rfl)) ?_
         with_reducible refine (impl_StateNumber.calls k1 t701 _ _ t702 _ _ t705 _ _ y725 t729 _ ?q1 ?q2 ?q3 ?q4 ?q5 ?q6 A42.out).mono ?_
         (case q1 => exact (Kd.R_reads' HO_715001.out).2.2)
         (case q2 => exact (Kd.R_reads' HO_715001.out).2.1)
         (case q3 => exact (Kd.R_reads' HO_715002.out).2.2)
         (case q4 => exact (Kd.R_reads' HO_715002.out).2.1)
         (case q5 => exact (Kd.R_reads' HO724.out).2.2)
         (case q6 => rw [show y725.length = y722.length from (Kd.R_reads' HO724.out).1.symm]; exact (Kd.R_reads' HO724.out).2.1)
         rintro e w67 ⟨rfl, hb⟩
         have HS3_ := (hb.cell (World.block_lt_of_cell? _ _ (hHeld.2.2.2))).trans (hHeld.2.2.2)
         refine ⟨_, rfl, ?_⟩
         replace HO_4 := Z.k (Kd.R_below HO_4.out hb)
         replace HO_715001 := Z.k (Kd.R_below HO_715001.out hb)
         replace HO_715002 := Z.k (Kd.R_below HO_715002.out hb)
         replace HO724 := Z.k (Kd.R_below HO724.out hb)
         replace HO728 := Z.k (Kd.R_below HO728.out hb)
         replace BK714 := Z.bb BK714 hb
         replace HB := Z.st (Z.bs HB.out GE714.out) hb
         (try clear hb)
         obtain ⟨Ao68, co68, eo68⟩ := Kd.R_slice HO728.out
         (subst eo68)
         refine hK.out _ _ ⟨(blk_cell BK714.out 0).trans rfl, (blk_cell BK714.out 1).trans rfl, (blk_cell BK714.out 2).trans rfl, HS3_⟩ (fun hHeld => ?_)
         clear hK K
         refine Z.nm ?_
         refine one_ (i := 7) (N := some 70) (Z.mb 26 255) rfl rfl (one_of HT_.out (by kernel_rfl)) (by decide) (fun K hK => ?_)
         refine goes_ Try.func28 (by kernel_rfl) rfl #[.slice Ao68 t726.length co68, .int .i64 t729] (by rfl) rfl rfl Z.ar ?_
         with_reducible refine (laws_hasInt.calls k1 _ _ t726 t729 true _ ?q1 ?q2 A43.out).mono ?_
         (case q1 => exact (Kd.R_reads' HO728.out).2.2)
         (case q2 => exact (Kd.R_reads' HO728.out).2.1)
         rintro e w' ⟨rfl, ⟨nd, rfl⟩⟩
         refine ⟨_, rfl, ?_⟩
         refine hK.out _ _ ⟨(blk_cell BK714.out 0).trans rfl, (blk_cell BK714.out 1).trans rfl, (blk_cell BK714.out 2).trans rfl, hHeld.2.2.2⟩ (fun hHeld => ?_)
         clear hK K
         refine Z.nm ?_
         refine Z.pv 8 71 26 511 HT_.out ?_
         refine Z.pv 9 72 26 1023 HT_.out ?_
         refine Z.pv 11 74 26 3071 HT_.out ?_
         refine Z.t4 10 73 26 4095 HT_.out HW_.out hHeld ?_
         refine Z.pv 12 75 26 8191 HT_.out ?_
         refine Z.t4 13 76 26 16383 HT_.out HW_.out hHeld ?_
         refine Z.pv 14 77 26 32767 HT_.out ?_
         refine Z.pv 15 78 26 65535 HT_.out ?_
         refine Z.pv 16 79 26 131071 HT_.out ?_
         refine Z.pv 17 80 26 262143 HT_.out ?_
         refine Z.pu 18 81 26 524287 HT_.out ?_
         refine Z.pu 19 82 26 1048575 HT_.out ?_
         refine Z.pu 20 83 26 2097151 HT_.out ?_
         refine Z.pu 21 84 26 4194303 HT_.out ?_
         refine Z.pu 22 85 26 8388607 HT_.out ?_
         refine Z.pu 23 86 26 16777215 HT_.out ?_
         refine Z.pv 24 87 26 33554431 HT_.out ?_
         refine Z.pv 25 2 26 67108863 HT_.out ?_
         refine done_ (done_of HT_.out (by kernel_rfl)) ?_
         try go_wp2
         go_ret
         exact ⟨by rfl, Z.bs HB.out GE714.out⟩
       ·replace c44 := Bool.eq_false_iff.mpr c44
        subst c44
        rw [if_neg (show ¬ (false = true) by decide)] at H
        obtain rfl := Option.some.inj H
        have hcz69 := Z.c3 BK714.out
        try go_wp2_with (first | ((with_reducible refine gate_dst (N := 56) rfl ?_); (try (refine gate_guard (by rfl) ?_; dsimp only)); refine Kd.R_lit (Kd.int .i64) _ 3 ?hg (N := 56) ?hd (xs := ([] : List Int)) (inner := []) (ok := fun _ => True) (okp := fun _ => True) ?hr ?hp (fun _ hk => hk) trivial (Below.refl _ _) (Nat.le_refl _) (by simp) ?_; (case hd | hg => rfl); (case hr => (go_simp; done)); (case hp => exact (Reps.none _ _)); intro v720 w70 ho71 hb hg_ hnew_; clear hg_ hnew_; (rw [← Ny719.out] at ho71); replace HO_715002 := Z.k (Kd.R_below HO_715002.out hb); have HO721 := Z.k (Kd.R_lower (Kd.R_new' (Kd.R_new' ho71 (Kd.R_lt HO_4.out)) (Kd.R_lt HO_715001.out)) (below_size (Z.bs HB.out GE714.out))); replace HO_4 := Z.k (Kd.R_elder' HO_4.out (Kd.R_base ho71) hb); replace HO_715001 := Z.k (Kd.R_elder' HO_715001.out (Kd.R_base ho71) hb); replace BK714 := Z.bb BK714 hb; replace HB := Z.st (Z.bs HB.out GE714.out) hb; clear hb ho71) | ((with_reducible refine gate_builtin (b := .append) (xs := #[.tmp 56, .tmp 57]) rfl ?_); (try (refine gate_guard (by rfl) ?_; dsimp only)); at_builtin; refine Kd.R_append_rows (Kd.int .i64) (w0 := w) w.heap.size rfl (.tmp 56) (.tmp 57) 23 3 (.int .i64 0) 8 rfl Try.underlying23 info3 rfl (by decide) (by omega) v720 y719 t708 _ _ _ (fun k_ => some k_ ≠ (.slice Ao22 t708.length co22 : Value).ownBlock ∧ some k_ ≠ (.slice Ao20 t702.length co20 : Value).ownBlock) (fun _ => False) rfl rfl ?aO ?aR (fun _ _ h => h) (fun _ h => h.elim) ?aF ?aB ?aS ?aL ?_; (case aR => exact (Kd.R_reads' HO_4.out).2.2); (case aB => exact (Z.bs HB.out GE714.out)); (case aF => exact (fun k_ hk => ⟨Kd.fresh' (Kd.R_lt HO_4.out) k_ hk, Kd.fresh' (Kd.R_lt HO_715001.out) k_ hk⟩)); (case aO => exact (Kd.R_mono HO721.out (fun _ hk => ⟨hk.1.2, hk.2⟩))); (case aS => exact (below_size (Z.bs HB.out GE714.out))); (case aL => have := LMc37.out; omega); intro v723 w72 ho hb hg hat; rw [← Ny722.out] at ho; replace HO_4 := Z.k (Kd.R_after (ok := (fun k_ => some k_ ≠ (.slice Ao20 t702.length co20 : Value).ownBlock)) HO_4.out hg hat); replace HO_715001 := Z.k (Kd.R_after (ok := (fun k_ => some k_ ≠ (.slice Ao22 t708.length co22 : Value).ownBlock)) HO_715001.out hg hat); replace HO_715002 := Z.k (Kd.R_over' HO_715002.out (Kd.R_typed HO721.out) (by decide) hg); replace BK714 := Z.k (blk_grown (g := gb714) (o := .cells #[.int .i64 t701, .slice Ao20 t702.length co20, .slice Ao21 t705.length co21] 28 (0, 0)) (Z.bk BK714.out) hg (Kd.R_ne HO721.out BK714.out (by decide))); replace HB := Z.k (hb); have HO724 := Z.k (ho); clear HO721; clear ho hb hg hat; have p40 : 0 ≤ (t711 : Int) := Z.od; have q40 : (t711 : Int) < ((y722.length : Int) : Int) := Z.od; obtain ⟨go40, co40, eo40, gb40, gl40, cl40, HG40⟩ := Kd.R_form HO724.out (by omega); (cases eo40); have GB40 := Z.k gb40; have GG40 := Z.k HG40; clear gb40 gl40 HG40; obtain ⟨hx40_0, hf40_0⟩ := Kd.R_celln 0 HO724.out (t711 : Int) p40 q40; replace p40 := eq_true p40; replace q40 := eq_true q40; obtain ⟨hy73_, hz73_⟩ := Kd.R_celln 0 HO724.out (t711 : Int) (Z.od) (Z.od); have HP73 := Kd.R_putg HO724.out (t711 : Int) t712) | ((with_reducible refine gate_store (t := 3) (p := 62) rfl ?_); refine store_event (t := 3) (p := 62) (v := ?vo_w74) (w1 := (w72.setCell ⟨go40, (t711 : Int).toNat, none⟩ (.int .i64 t712))) ?hg ?ho ?hn ?hr ?_; (case ho => rfl); (case hg => rfl); (case hn => rfl); (case hr => (go_simp; done)); intro w74 hw; have hg : w72.grownBy w74 (some go40) := (by rw [hw]; exact HP73.2); have hp_ : Kd.R (Kd.int .i64) 3 w74 w.heap.size (fun k_ => some k_ ≠ (.slice Ao22 t708.length co22 : Value).ownBlock ∧ some k_ ≠ (.slice Ao20 t702.length co20 : Value).ownBlock) (.slice (some ⟨go40, 0, none⟩) y722.length co40) y725 := (by rw [hw, Ny725.out]; exact HP73.1); clear HP73; replace HO_4 := Z.k (Kd.R_after (v := (.slice (some ⟨go40, 0, none⟩) y722.length co40)) (v1 := (.slice (some ⟨go40, 0, none⟩) y722.length co40)) (ok := (fun k_ => some k_ ≠ (.slice Ao20 t702.length co20 : Value).ownBlock)) HO_4.out hg (.inl rfl)); replace HO_715001 := Z.k (Kd.R_after (v := (.slice (some ⟨go40, 0, none⟩) y722.length co40)) (v1 := (.slice (some ⟨go40, 0, none⟩) y722.length co40)) (ok := (fun k_ => some k_ ≠ (.slice Ao22 t708.length co22 : Value).ownBlock)) HO_715001.out hg (.inl rfl)); replace HO_715002 := Z.k (Kd.R_over' (v := (.slice (some ⟨go40, 0, none⟩) y722.length co40)) HO_715002.out (Kd.R_typed HO724.out) (by decide) hg); replace BK714 := Z.k (blk_grown (g := gb714) (o := .cells #[.int .i64 t701, .slice Ao20 t702.length co20, .slice Ao21 t705.length co21] 28 (0, 0)) (Z.bk BK714.out) hg (Kd.R_ne HO724.out BK714.out (by decide))); replace HO724 := Z.k (hp_); replace HB := Z.k ((by rw [hw]; exact below_set (HB.out) GB40.out : Below w.heap.size w w74)); clear hg hw hp_))
        replace HO_4 := Z.k (Kd.R_drew HO_4.out)
        replace HO_715001 := Z.k (Kd.R_drew HO_715001.out)
        replace HO_715002 := Z.k (Kd.R_drew HO_715002.out)
        replace HO724 := Z.k (Kd.R_drew HO724.out)
        replace BK714 := Z.k (blk_drew BK714.out)
        replace HB := Z.k (below_drew1 HB.out)
        refine start_ (n := 26) (S := fun w' => w'.cell? ⟨gb714, 0, none⟩ = some (.int .i64 t701) ∧ w'.cell? ⟨gb714, 1, none⟩ = some (.slice Ao20 t702.length co20) ∧ w'.cell? ⟨gb714, 2, none⟩ = some (.slice Ao21 t705.length co21)) (ds := []) #[false, false, false, false, false, false, false, false, false, false, false, false, false, false, false, false, false, false, false, false, false, false, false, false, false, false] (by kernel_rfl) rfl rfl ⟨(blk_cell BK714.out 0).trans rfl, (blk_cell BK714.out 1).trans rfl, (blk_cell BK714.out 2).trans rfl⟩ (fun hHeld => ?_); refine with_tabW laws_FnMayChange.tab16 laws_FnMayChange.bits16 (fun HT_ HW_ => ?_)
        generalize w74.drew = w75 at HO_4 HO_715001 HO_715002 HO724 BK714 HB hHeld ⊢
        refine Z.pv 1 64 26 2 HT_.out ?_
        refine Z.pv 2 65 26 6 HT_.out ?_
        refine Z.pv 5 68 26 38 HT_.out ?_
        refine Z.t3 0 63 26 39 HT_.out HW_.out hHeld ?_
        refine Z.t3 4 67 26 55 HT_.out HW_.out hHeld ?_
        refine one_ (i := 3) (N := some 66) (Z.mb 26 63) rfl rfl (one_of HT_.out (by kernel_rfl)) (by decide) (fun K hK => ?_)
        refine goes_ Try.func19 (by kernel_rfl) rfl #[.agg #[.int .i64 t701, .slice Ao20 t702.length co20, .slice Ao21 t705.length co21], .slice Ao22 t708.length co22, .int .i64 t713] (by rfl) rfl rfl Z.ar ?_
        with_reducible refine (impl_ReachOf.calls k1 t701 _ _ t702 _ _ t705 _ _ t708 t713 t726 _ ?q1 ?q2 ?q3 ?q4 ?q5 ?q6 A41.out).mono ?_
        (case q1 => exact (Kd.R_reads' HO_715001.out).2.2)
        (case q2 => exact (Kd.R_reads' HO_715001.out).2.1)
        (case q3 => exact (Kd.R_reads' HO_715002.out).2.2)
        (case q4 => exact (Kd.R_reads' HO_715002.out).2.1)
        (case q5 => exact (Kd.R_reads' HO_4.out).2.2)
        (case q6 => exact (Kd.R_reads' HO_4.out).2.1)
        rintro e w76 ⟨v727, rfl, ho0, hb⟩
        refine ⟨_, rfl, ?_⟩
        replace HO_715002 := Z.k (Kd.R_below HO_715002.out hb)
        have HO728 := Z.k (Kd.R_lower (Kd.R_new' (Kd.R_new' (Kd.R_new' ho0 (Kd.R_lt HO_4.out)) (Kd.R_lt HO_715001.out)) (Kd.R_lt HO724.out)) (below_size (Z.bs HB.out GE714.out)))
        replace HO_4 := Z.k (Kd.R_elder' HO_4.out (Kd.R_base ho0) hb)
        replace HO_715001 := Z.k (Kd.R_elder' HO_715001.out (Kd.R_base ho0) hb)
        replace HO724 := Z.k (Kd.R_elder' HO724.out (Kd.R_base ho0) hb)
        replace BK714 := Z.bb BK714 hb
        replace HB := Z.st (Z.bs HB.out GE714.out) hb
        (try clear hb)
        (try clear ho0)
        refine hK.out _ _ ⟨(blk_cell BK714.out 0).trans rfl, (blk_cell BK714.out 1).trans rfl, (blk_cell BK714.out 2).trans rfl⟩ (fun hHeld => ?_)
        clear hK K
        refine Z.nm ?_
        refine one_ (i := 6) (N := some 69) (Z.mb 26 127) rfl rfl (one_of HT_.out (by kernel_rfl)) (by decide) (fun K hK => ?_)
        refine goes_ Try.func29 (by kernel_rfl) rfl #[.agg #[.int .i64 t701, .slice Ao20 t702.length co20, .slice Ao21 t705.length co21], .slice (some ⟨go40, 0, none⟩) y725.length co40] (by rfl) rfl rfl (by (try simp only [List.map_toArray, List.map_cons, List.map_nil]); (rw [show y725.length = y722.length from (Kd.R_reads' HO724.out).1.symm] <;> rfl)) ?_
        with_reducible refine (impl_StateNumber.calls k1 t701 _ _ t702 _ _ t705 _ _ y725 t729 _ ?q1 ?q2 ?q3 ?q4 ?q5 ?q6 A42.out).mono ?_
        (case q1 => exact (Kd.R_reads' HO_715001.out).2.2)
        (case q2 => exact (Kd.R_reads' HO_715001.out).2.1)
        (case q3 => exact (Kd.R_reads' HO_715002.out).2.2)
        (case q4 => exact (Kd.R_reads' HO_715002.out).2.1)
        (case q5 => exact (Kd.R_reads' HO724.out).2.2)
        (case q6 => rw [show y725.length = y722.length from (Kd.R_reads' HO724.out).1.symm]; exact (Kd.R_reads' HO724.out).2.1)
        rintro e w77 ⟨rfl, hb⟩
        refine ⟨_, rfl, ?_⟩
        replace HO_4 := Z.k (Kd.R_below HO_4.out hb)
        replace HO_715001 := Z.k (Kd.R_below HO_715001.out hb)
        replace HO_715002 := Z.k (Kd.R_below HO_715002.out hb)
        replace HO724 := Z.k (Kd.R_below HO724.out hb)
        replace HO728 := Z.k (Kd.R_below HO728.out hb)
        replace BK714 := Z.bb BK714 hb
        replace HB := Z.st (Z.bs HB.out GE714.out) hb
        (try clear hb)
        obtain ⟨Ao78, co78, eo78⟩ := Kd.R_slice HO728.out
        (subst eo78)
        refine hK.out _ _ ⟨(blk_cell BK714.out 0).trans rfl, (blk_cell BK714.out 1).trans rfl, (blk_cell BK714.out 2).trans rfl⟩ (fun hHeld => ?_)
        clear hK K
        refine Z.nm ?_
        refine one_ (i := 7) (N := some 70) (Z.mb 26 255) rfl rfl (one_of HT_.out (by kernel_rfl)) (by decide) (fun K hK => ?_)
        refine goes_ Try.func28 (by kernel_rfl) rfl #[.slice Ao78 t726.length co78, .int .i64 t729] (by rfl) rfl rfl Z.ar ?_
        with_reducible refine (laws_hasInt.calls k1 _ _ t726 t729 false _ ?q1 ?q2 A43.out).mono ?_
        (case q1 => exact (Kd.R_reads' HO728.out).2.2)
        (case q2 => exact (Kd.R_reads' HO728.out).2.1)
        rintro e w' ⟨rfl, ⟨nd, rfl⟩⟩
        refine ⟨_, rfl, ?_⟩
        refine hK.out _ _ ⟨(blk_cell BK714.out 0).trans rfl, (blk_cell BK714.out 1).trans rfl, (blk_cell BK714.out 2).trans rfl⟩ (fun hHeld => ?_)
        clear hK K
        refine Z.nm ?_
        refine Z.pv 8 71 26 511 HT_.out ?_
        refine Z.pu 9 72 26 1023 HT_.out ?_
        refine Z.pu 10 73 26 2047 HT_.out ?_
        refine Z.pu 11 74 26 4095 HT_.out ?_
        refine Z.pu 12 75 26 8191 HT_.out ?_
        refine Z.pu 13 76 26 16383 HT_.out ?_
        refine Z.pu 14 77 26 32767 HT_.out ?_
        refine Z.pu 15 78 26 65535 HT_.out ?_
        refine Z.pv 16 79 26 131071 HT_.out ?_
        refine Z.pv 17 80 26 262143 HT_.out ?_
        refine Z.pu 18 81 26 524287 HT_.out ?_
        refine Z.pu 19 82 26 1048575 HT_.out ?_
        refine Z.pu 20 83 26 2097151 HT_.out ?_
        refine Z.pu 21 84 26 4194303 HT_.out ?_
        refine Z.pu 22 85 26 8388607 HT_.out ?_
        refine Z.pu 23 86 26 16777215 HT_.out ?_
        refine Z.pv 24 87 26 33554431 HT_.out ?_
        refine Z.pv 25 2 26 67108863 HT_.out ?_
        refine done_ (done_of HT_.out (by kernel_rfl)) ?_
        try go_wp2
        go_ret
        exact ⟨by rfl, Z.bs HB.out GE714.out⟩
   ·replace c16 := Bool.eq_false_iff.mpr c16
    subst c16
    rw [if_neg (show ¬ (false = true) by decide)] at H
    replace H := Option.bind_eq_some_iff.mp H
    obtain ⟨t717, A790, H⟩ := H
    have A79 := Z.k A790
    clear A790
    obtain rfl := Option.some.inj H
    go_enter Try.func5, Try.ntmps5
    go_wp2_with (first | ((with_reducible refine gate_callee (f := 25) rfl ?_); refine goesL_ (some 16) rfl rfl Try.func25 (by kernel_rfl) rfl #[.slice A0 l0.length c0] rfl Z.ar ?_; (with_reducible refine (spec_DrawMayChange.calls k _ _ l0 t701 t702 t705 t708 t711 t712 t713 _ ?q1 ?q2 A3.out).mono ?_); (case q1 => exact HR0.out); (case q2 => exact HC0.out); rintro e w80 ⟨v703, v706, v709, rfl, ho0, ho1, ho2, hb⟩; refine ⟨_, rfl, ?_⟩; have HO704 := Z.k (Kd.R_lower ho0 (below_size (Z.bl HB.out))); have HO707 := Z.k (Kd.R_lower ho1 (below_size (Z.bl HB.out))); have HO710 := Z.k (Kd.R_lower ho2 (below_size (Z.bl HB.out))); replace HB := Z.st (Z.bl HB.out) hb; (try clear hb); (try clear ho0); (try clear ho1); (try clear ho2)) | ((with_reducible refine gate_dst (N := 3) rfl ?_); (try (refine gate_guard (by rfl) ?_; dsimp only)); refine Z.bx #[.int .i64 0, .slice none 0 0, .slice none 0 0] 28 HB ?_; clear HB; intro gb714 w81 BK714 GE714 HB hg hb; have GW714 := GE714; replace HO704 := Z.k (Kd.R_below HO704.out hb); replace HO707 := Z.k (Kd.R_below HO707.out hb); replace HO710 := Z.k (Kd.R_below HO710.out hb); clear hb hg; have hcz82 := Z.c3 BK714.out; obtain ⟨Ao83, co83, eo83⟩ := Kd.R_slice HO704.out; subst eo83; obtain ⟨Ao84, co84, eo84⟩ := Kd.R_slice HO707.out; subst eo84; obtain ⟨Ao85, co85, eo85⟩ := Kd.R_slice HO710.out; subst eo85) | ((with_reducible refine gate_callee (f := 26) rfl ?_); refine goesL_ (some 27) rfl rfl Try.func26 (by kernel_rfl) rfl #[.agg #[.int .i64 t701, .slice Ao83 t702.length co83, .slice Ao84 t705.length co84], .slice Ao85 t708.length co85, .int .i64 t711, .int .i64 t712, .int .i64 t713] rfl Z.ar ?_; (with_reducible refine (impl_MayChange.calls k t701 _ _ t702 _ _ t705 _ _ t708 t711 t712 t713 false _ ?q1 ?q2 ?q3 ?q4 ?q5 ?q6 A4.out).mono ?_); (case q1 => refine (Kd.R_reads' (e := 3) (base := w.heap.size) (ok := fun k_ => some k_ ≠ (.slice Ao85 t708.length co85 : Value).ownBlock) (n := t702.length) (c := co83) ?_).2.2; exact (Kd.R_mono (Kd.R_far (p := ⟨gb714, 2, none⟩) (Kd.R_far (p := ⟨gb714, 1, none⟩) (Kd.R_far (p := ⟨gb714, 0, none⟩) (Kd.R_types HO704.out BK714.out (by decide)) (fun _ hk => hk.2) (.int .i64 t701)) (fun _ hk => hk.2) (.slice Ao83 t702.length co83)) (fun _ hk => hk.2) (.slice Ao84 t705.length co84)) (fun _ h_ => h_.1))); (case q2 => exact (Kd.R_reads' HO704.out).2.1); (case q3 => refine (Kd.R_reads' (e := 34) (base := w.heap.size) (ok := fun k_ => True) (n := t705.length) (c := co84) ?_).2.2; exact (Kd.R_mono (Kd.R_far (p := ⟨gb714, 2, none⟩) (Kd.R_far (p := ⟨gb714, 1, none⟩) (Kd.R_far (p := ⟨gb714, 0, none⟩) (Kd.R_types HO707.out BK714.out (by decide)) (fun _ hk => hk.2) (.int .i64 t701)) (fun _ hk => hk.2) (.slice Ao83 t702.length co83)) (fun _ hk => hk.2) (.slice Ao84 t705.length co84)) (fun _ h_ => h_.1))); (case q4 => exact (Kd.R_reads' HO707.out).2.1); (case q5 => refine (Kd.R_reads' (e := 3) (base := w.heap.size) (ok := fun k_ => some k_ ≠ (.slice Ao83 t702.length co83 : Value).ownBlock) (n := t708.length) (c := co85) ?_).2.2; exact (Kd.R_mono (Kd.R_far (p := ⟨gb714, 2, none⟩) (Kd.R_far (p := ⟨gb714, 1, none⟩) (Kd.R_far (p := ⟨gb714, 0, none⟩) (Kd.R_types HO710.out BK714.out (by decide)) (fun _ hk => hk.2) (.int .i64 t701)) (fun _ hk => hk.2) (.slice Ao83 t702.length co83)) (fun _ hk => hk.2) (.slice Ao84 t705.length co84)) (fun _ h_ => h_.1))); (case q6 => exact (Kd.R_reads' HO710.out).2.1); rintro e w86 ⟨rfl, hb⟩; refine ⟨_, rfl, ?_⟩; replace HO704 := Z.k (Kd.R_below (Kd.R_mono (Kd.R_far (p := ⟨gb714, 2, none⟩) (Kd.R_far (p := ⟨gb714, 1, none⟩) (Kd.R_far (p := ⟨gb714, 0, none⟩) (Kd.R_types HO704.out BK714.out (by decide)) (fun _ hk => hk.2) (.int .i64 t701)) (fun _ hk => hk.2) (.slice Ao83 t702.length co83)) (fun _ hk => hk.2) (.slice Ao84 t705.length co84)) (fun _ h_ => h_.1)) hb); replace HO707 := Z.k (Kd.R_below (Kd.R_mono (Kd.R_far (p := ⟨gb714, 2, none⟩) (Kd.R_far (p := ⟨gb714, 1, none⟩) (Kd.R_far (p := ⟨gb714, 0, none⟩) (Kd.R_types HO707.out BK714.out (by decide)) (fun _ hk => hk.2) (.int .i64 t701)) (fun _ hk => hk.2) (.slice Ao83 t702.length co83)) (fun _ hk => hk.2) (.slice Ao84 t705.length co84)) (fun _ h_ => h_.1)) hb); replace HO710 := Z.k (Kd.R_below (Kd.R_mono (Kd.R_far (p := ⟨gb714, 2, none⟩) (Kd.R_far (p := ⟨gb714, 1, none⟩) (Kd.R_far (p := ⟨gb714, 0, none⟩) (Kd.R_types HO710.out BK714.out (by decide)) (fun _ hk => hk.2) (.int .i64 t701)) (fun _ hk => hk.2) (.slice Ao83 t702.length co83)) (fun _ hk => hk.2) (.slice Ao84 t705.length co84)) (fun _ h_ => h_.1)) hb); replace BK714 := Z.k (blk_below (g := gb714) (o := .cells #[.int .i64 t701, .slice Ao83 t702.length co83, .slice Ao84 t705.length co84] 28 (0, 0)) (by refine blk_put (cs := #[.int .i64 t701, .slice Ao83 t702.length co83, .slice none 0 0]) ?_ 2 _ rfl; refine blk_put (cs := #[.int .i64 t701, .slice none 0 0, .slice none 0 0]) ?_ 1 _ rfl; refine blk_put (cs := #[.int .i64 0, .slice none 0 0, .slice none 0 0]) ?_ 0 _ rfl; exact BK714.out) hb); replace HB := Z.st (Z.bs HB.out GE714.out) hb; (try clear hb); have hcz87 := Z.c3 BK714.out) | ((with_reducible refine gate_callee (f := 27) rfl ?_); refine goesL_ (some 34) rfl rfl Try.func27 (by kernel_rfl) rfl #[.agg #[.int .i64 t701, .slice Ao83 t702.length co83, .slice Ao84 t705.length co84], .slice Ao85 t708.length co85, .int .i64 t711, .int .i64 t712, .int .i64 t713] rfl Z.ar ?_; (with_reducible refine (spec_MayChange.calls k t701 _ _ t702 _ _ t705 _ _ t708 t711 t712 t713 t716 _ ?q1 ?q2 ?q3 ?q4 ?q5 ?q6 A5.out).mono ?_); (case q1 => exact (Kd.R_reads' HO704.out).2.2); (case q2 => exact (Kd.R_reads' HO704.out).2.1); (case q3 => exact (Kd.R_reads' HO707.out).2.2); (case q4 => exact (Kd.R_reads' HO707.out).2.1); (case q5 => exact (Kd.R_reads' HO710.out).2.2); (case q6 => exact (Kd.R_reads' HO710.out).2.1); rintro e w88 ⟨rfl, hb⟩; refine ⟨_, rfl, ?_⟩; replace HO704 := Z.k (Kd.R_below HO704.out hb); replace HO707 := Z.k (Kd.R_below HO707.out hb); replace HO710 := Z.k (Kd.R_below HO710.out hb); replace BK714 := Z.bb BK714 hb; replace HB := Z.st (Z.bs HB.out GE714.out) hb; (try clear hb)) | ((with_reducible refine gate_callee (f := 18) rfl ?_); refine goesL_ (some 38) rfl rfl Try.func18 (by kernel_rfl) rfl #[] rfl Z.ar ?_; (with_reducible refine (laws_alive.calls  t717 _ A79.out).mono ?_); rintro e w' ⟨rfl, ⟨nd, rfl⟩⟩; refine ⟨_, rfl, ?_⟩))
    go_ret
    exact ⟨by rfl, Z.bs HB.out GE714.out⟩

/-- THE ONE PURE STATEMENT of laws_FnMayChange: yours. -/
def laws_FnMayChange.Pure : Prop := ∀ (l0 : List Int), l0.length ≤ maxLen → l0.length * 1 ≤ 140737488351232 → (∀ x ∈ l0, (Lit.int .u8 x).wf = true) → ∃ k, laws_FnMayChange.f k l0 = some true
theorem laws_FnMayChange.walk (P : laws_FnMayChange.Pure) (a0 : Option Addr) (len0 cap0 : Nat) (z0 : List Int) (w : World) (w0 : (a0 = none ∧ len0 = 0 ∧ cap0 = 0 ∧ z0 = []) ∨ ∃ x, a0 = some x ∧ len0 ≤ cap0 ∧ cap0 ≤ maxLen ∧ z0.length = cap0 ∧ (∀ i, i < z0.length → w.cell? (x.add i) = some (.int .u8 (z0.getD i 0))) ∧ ∀ n ∈ z0, (Lit.int .u8 n).wf = true) (y0 : len0 * 1 ≤ 140737488351232) :
  Calls Try.prog 5 #[.slice a0 len0 cap0] w fun e w' => e = .returned (.bool true) ∧ Below w.heap.size w w' := by
 obtain ⟨l0, rfl, hr0, hm0, hw0, hc0⟩ := ReadsInt.ofRowC w0
 obtain ⟨k, h⟩ := P l0 hm0 y0 hw0
 refine (laws_FnMayChange.calls k _ _ l0 true w (Kd.C_of_reads (d := (0 : Int)) (h1 := fun _ => rfl) hr0) hc0 h).mono ?_
 rintro e w' ⟨rfl, hd⟩
 exact ⟨rfl, hd⟩

end Go.Proofs.Ytkogboechfieeaa.PAll
